import PyProof.Rows.All
import Wide.All
import OpenK.AllK
import Wide.FinOn
import HandS.ForMost
import HandS.WordsExc
import HandS.TryOnly
import HandS.Deep
import HandS.IsInst
import HandS.TupAny
import HandS.Walk
import HandS.Zip
import HandS.Flow
import HandS.Style
import HandS.ExcInit
import HandS.Nested
import KE.KSuper
import KE.KExcSuper
import HandS.ExcField
import HandS.ExcIs
import HandS.TryMany
import HandS.TupMul
import HandS.Dict
import HandS.WideBits
import PySem.Challenge.RW_neverfalls_k07_records
import KE.RegKSuper
import KE.RegKIsAll
import KE.RegKTryMore
set_option Elab.async false
set_option linter.all false
set_option autoImplicit false
set_option maxRecDepth 100000
set_option maxHeartbeats 4000000
namespace Dt
open PySem PySem.Spec PyProof.Rows L2

abbrev D := PyData
abbrev Fp := Addr → Prop
def Ex (H H' : Hp) : Prop := ∀ a o, H a = some o → H' a = some o
theorem Ex.refl (H : Hp) : Ex H H := fun _ _ h => h
theorem Ex.trans {H H1 H2 : Hp} (a : Ex H H1) (b : Ex H1 H2) : Ex H H2 := fun x o h => b x o (a x o h)
theorem Ex.new {H : Hp} {p : Addr} {o : HO} (h : H p = none) : Ex H (upd H p o) := fun a u e => by
  rw [upd_ne (ne_of_none e h)]; exact e
theorem ex_rd {H H' : Hp} {a : Addr} {u : HO} (e : Ex H H') (h : Rd H a u) : Rd H' a u := by
  rcases h with h | ⟨o, h⟩
  · exact .inl (e a _ h)
  · exact .inr ⟨o, e a _ h⟩
section
variable {K : PySem.W.Frag} {H H' : Hp}
theorem ex_l {a : Addr} {xs : List V} (e : Ex H H') (h : SqL K H a xs) : SqL K H' a xs := by
  rcases h with h | h
  · exact .inl (ex_rd e h)
  · exact .inr h
theorem ex_t {a : Addr} {xs : List V} (e : Ex H H') (h : SqT K H a xs) : SqT K H' a xs := by
  rcases h with h | h
  · exact .inl (ex_rd e h)
  · exact .inr h
mutual
theorem dp_ex (e : Ex H H') : ∀ {d : D} {v : V}, Dp K H v d → Dp K H' v d
  | _, _, .non => .non
  | _, _, .bl b => .bl b
  | _, _, .int i => .int i
  | _, _, .str x => .str x
  | _, _, .lst h r => .lst (ex_l e h) (dps_ex e r)
  | _, _, .tup h r => .tup (ex_t e h) (dps_ex e r)
theorem dps_ex (e : Ex H H') : ∀ {ds : List D} {vs : List V}, DpAll K H vs ds → DpAll K H' vs ds
  | _, _, .nil => .nil
  | _, _, .cons h r => .cons (dp_ex e h) (dps_ex e r)
end
theorem dps_len : ∀ {ds : List D} {vs : List V}, DpAll K H vs ds → vs.length = ds.length
  | _, _, .nil => rfl
  | _, _, .cons _ r => by simp [dps_len r]
theorem dps_get : ∀ {ds : List D} {vs : List V} {i : Nat} {d : D}, DpAll K H vs ds → ds[i]? = some d → ∃ v, vs[i]? = some v ∧ Dp K H v d
  | _, _, i, _, .nil, e => by simp at e
  | _, _, 0, d, .cons h r, e => by
    simp at e; subst e; exact ⟨_, rfl, h⟩
  | _, _, i + 1, d, .cons h r, e => by
    obtain ⟨v, q, z⟩ := dps_get (i := i) r (by simpa using e)
    exact ⟨v, by simpa using q, z⟩
theorem dps_getV : ∀ {ds : List D} {vs : List V} {i : Nat} {v : V}, DpAll K H vs ds → vs[i]? = some v → ∃ d, ds[i]? = some d ∧ Dp K H v d
  | _, _, i, _, .nil, e => by simp at e
  | _, _, 0, d, .cons h r, e => by
    simp at e; subst e; exact ⟨_, rfl, h⟩
  | _, _, i + 1, d, .cons h r, e => by
    obtain ⟨v, q, z⟩ := dps_getV (i := i) r (by simpa using e)
    exact ⟨v, by simpa using q, z⟩
theorem dps_app : ∀ {ds es : List D} {vs ws : List V}, DpAll K H vs ds → DpAll K H ws es → DpAll K H (vs ++ ws) (ds ++ es)
  | _, _, _, _, .nil, s => s
  | _, _, _, _, .cons h r, s => .cons h (dps_app r s)
theorem dps_take : ∀ {ds : List D} {vs : List V} (n : Nat), DpAll K H vs ds → DpAll K H (vs.take n) (ds.take n)
  | _, _, 0, _ => .nil
  | _, _, _ + 1, .nil => .nil
  | _, _, n + 1, .cons h r => .cons h (dps_take n r)
theorem dps_drop : ∀ {ds : List D} {vs : List V} (n : Nat), DpAll K H vs ds → DpAll K H (vs.drop n) (ds.drop n)
  | _, _, 0, r => r
  | _, _, _ + 1, .nil => .nil
  | _, _, n + 1, .cons h r => dps_drop n r
theorem dps_set {v : V} {d : D} (h : Dp K H v d) : ∀ {ds : List D} {vs : List V} (i : Nat), DpAll K H vs ds → DpAll K H (vs.set i v) (ds.set i d)
  | _, _, _, .nil => .nil
  | _, _, 0, .cons _ r => .cons h r
  | _, _, i + 1, .cons q r => .cons q (dps_set h i r)
theorem dps_rev {ds : List D} {vs : List V} (h : DpAll K H vs ds) : DpAll K H vs.reverse ds.reverse := by
  induction ds generalizing vs with
  | nil => cases h; exact .nil
  | cons d ds ih =>
    cases h with
    | cons a r =>
      rw [List.reverse_cons, List.reverse_cons]
      exact dps_app (ih r) (.cons a .nil)
theorem dp_inj_len {ds : List D} {vs : List V} (h : DpAll K H vs ds) : ds.length = vs.length := (dps_len h).symm
end

/-! ### the tape -/
structure Tape where
  ok : Hp → Addr → Fp → Prop
  stable : ∀ H H' t P, ok H t P → (∀ a, P a → H' a = H a) → ok H' t P

/-! ### exceptions -/
structure Exn where
  nm : Str
  fs : List (Str × D)

/-- the fields' values -/
def FsOk (K : PySem.W.Frag) (F : Hp) : List (Str × V) → List (Str × D) → Prop
  | [], [] => True
  | (x, v) :: r, (y, d) :: s => x = y ∧ Dp K F v d ∧ FsOk K F r s
  | _, _ => False
theorem fsOk_ex {K : PySem.W.Frag} {F F' : Hp} (e : Ex F F') : ∀ {r : List (Str × V)} {s : List (Str × D)}, FsOk K F r s → FsOk K F' r s
  | [], [], _ => trivial
  | (_, _) :: _, (_, _) :: _, ⟨a, b, c⟩ => ⟨a, dp_ex e b, fsOk_ex e c⟩
  | [], _ :: _, h => h.elim
  | _ :: _, [], h => h.elim
def ExnIs (K : PySem.W.Frag) (mg : Str → Option Value) (F H : Hp) (P : Fp) (c : Value) (dd : Option Addr) (x : Exn) : Prop :=
  ∃ C a vs, mg x.nm = some (.ref C) ∧ c = .ref C ∧ dd = some a ∧ H a = some (.xd vs) ∧ FsOk K F vs x.fs ∧ ¬ P a

/-! ### mutable things -/
def Hold (K : PySem.W.Frag) (F H : Hp) (a : Addr) : D → Prop
  | .list ds => ∃ xs, H a = some (.lst xs) ∧ DpAll K F xs ds
  | _ => False
theorem hold_ex {K : PySem.W.Frag} {F F' H H' : Hp} {a : Addr} {d : D} (e : Ex F F') (k : ∀ o, H a = some o → H' a = some o) (h : Hold K F H a d) : Hold K F' H' a d := by
  cases d with
  | list ds => obtain ⟨xs, h1, h2⟩ := h; exact ⟨xs, k _ h1, dps_ex e h2⟩
  | _ => exact (show False from h).elim
theorem hold_some {K : PySem.W.Frag} {F H : Hp} {a : Addr} {d : D} (h : Hold K F H a d) : ∃ o, H a = some o := by
  cases d with
  | list ds => obtain ⟨xs, h1, h2⟩ := h; exact ⟨_, h1⟩
  | _ => exact (show False from h).elim
def View (K : PySem.W.Frag) (F H : Hp) (P : Fp) (v : V) (d : D) : Prop := Dp K F v d ∨ ∃ a, v = .ref a ∧ Hold K F H a d ∧ ¬ P a

/-! ### the state -/
structure En where
  H0 : Hp
  F0 : Hp
  P0 : Fp
inductive Sl where
  | un | fr (d : D) | ow (d : D) | bo (d : D) | tp | ex (a : Addr) (dd : Option Addr) (x : Exn)
abbrev Env := List Sl
abbrev Env.get (ρ : Env) (i : Nat) : Sl := ρ.getD i .un
abbrev Env.put (ρ : Env) (i : Nat) (s : Sl) : Env := ρ.set i s

def SlOk (K : PySem.W.Frag) (T : Tape) (n : En) (F H : Hp) (P : Fp) (v : Option V) : Sl → Prop
  | .un => True
  | .fr d => ∃ x, v = some x ∧ Dp K F x d
  | .ow d => ∃ a, v = some (.ref a) ∧ Hold K F H a d ∧ n.H0 a = none ∧ F a = none ∧ ¬ P a
  | .bo d => ∃ x, v = some x ∧ View K F n.H0 n.P0 x d
  | .tp => ∃ t, v = some (.ref t) ∧ T.ok H t P
  | .ex a dd x => v = some (.ref a) ∧ ∃ b vs, dd = some b ∧ H b = some (.xd vs) ∧ FsOk K F vs x.fs ∧ ¬ P b

structure Rel (K : PySem.W.Frag) (T : Tape) (n : En) (F H : Hp) (P : Fp) (σ : L2.St) (ρ : Env) : Prop where
  exF : Ex F H
  grow : Ex n.F0 F
  fnew : ∀ a, F a ≠ none → n.F0 a ≠ none ∨ n.H0 a = none
  keep : ∀ a o, n.H0 a = some o → ¬ n.P0 a → H a = some o
  dom : ∀ a, n.H0 a ≠ none → H a ≠ none
  pnew : ∀ a, P a → n.P0 a ∨ n.H0 a = none
  pF : ∀ a, P a → F a = none
  pH : ∀ a, P a → H a ≠ none
  tape : ∀ t, T.ok n.H0 t n.P0 → T.ok H t P
  len : σ.length = ρ.length
  slot : ∀ (i : Nat) (s : Sl), ρ[i]? = some s → SlOk K T n F H P (σ[i]?).join s
  sep : ∀ (i j : Nat) (a : Addr) (d d' : D), ρ[i]? = some (.ow d) → ρ[j]? = some (.ow d') → σ[i]? = some (some (.ref a)) → σ[j]? = some (some (.ref a)) → i = j

structure Step (T : Tape) (F H : Hp) (P : Fp) (F' H' : Hp) (P' : Fp) : Prop where
  grow : Ex F F'
  new : ∀ a, F' a ≠ none → F a ≠ none ∨ H a = none
  exF : Ex F' H'
  keep : ∀ a o, H a = some o → ¬ P a → H' a = some o
  dom : ∀ a, H a ≠ none → H' a ≠ none
  pnew : ∀ a, P' a → P a ∨ H a = none
  pF : ∀ a, P' a → F' a = none
  pH : ∀ a, P' a → H' a ≠ none
  tape : ∀ t, T.ok H t P → T.ok H' t P'

section
variable {K : PySem.W.Frag} {T : Tape} {n : En} {F F' F'' H H' H'' : Hp} {P P' P'' : Fp} {σ σ' : L2.St} {ρ ρ' : Env}
theorem Step.trans (a : Step T F H P F' H' P') (b : Step T F' H' P' F'' H'' P'') : Step T F H P F'' H'' P'' where
  grow := a.grow.trans b.grow
  new := fun x h => by
    rcases b.new x h with q | q
    · exact a.new x q
    · refine .inr ?_
      cases e : H x with
      | none => rfl
      | some o => exact absurd q (a.dom x (by rw [e]; simp))
  exF := b.exF
  keep := fun x o h hp => by
    refine b.keep x o (a.keep x o h hp) fun z => ?_
    rcases a.pnew x z with q | q
    · exact hp q
    · rw [h] at q; cases q
  dom := fun x h => b.dom x (a.dom x h)
  pnew := fun x h => by
    rcases b.pnew x h with q | q
    · exact a.pnew x q
    · refine .inr ?_
      cases e : H x with
      | none => rfl
      | some o => exact absurd q (a.dom x (by rw [e]; simp))
  pF := b.pF
  pH := b.pH
  tape := fun t h => b.tape t (a.tape t h)
theorem Rel.refl (R : Rel K T n F H P σ ρ) : Step T F H P F H P :=
  ⟨Ex.refl F, fun _ h => .inl h, R.exF, fun _ _ h _ => h, fun _ h => h, fun _ h => .inl h, R.pF, R.pH, fun _ h => h⟩
theorem Step.refl2 (s : Step T F H P F' H' P') : Step T F' H' P' F' H' P' :=
  ⟨Ex.refl F', fun _ h => .inl h, s.exF, fun _ _ h _ => h, fun _ h => h, fun _ h => .inl h, s.pF, s.pH, fun _ h => h⟩
theorem View.step {v : V} {d : D} (s : Step T F H P F' H' P') (h : View K F H P v d) : View K F' H' P' v d := by
  rcases h with h | ⟨a, e, h, hp⟩
  · exact .inl (dp_ex s.grow h)
  · refine .inr ⟨a, e, hold_ex s.grow (fun o q => s.keep a o q hp) h, fun z => ?_⟩
    rcases s.pnew a z with q | q
    · exact hp q
    · obtain ⟨o, w⟩ := hold_some h
      rw [w] at q; cases q
theorem View.frz {v : V} {d : D} (h : Dp K F v d) : View K F H P v d := .inl h
/-- the new frozen object -/
theorem Step.newF {p : Addr} {o : HO} (s : Step T F H P F H P) (h : H p = none) : Step T F H P (upd F p o) (upd H p o) P where
  grow := fun a u e => by
    have : F p = none := by
      cases q : F p with
      | none => rfl
      | some u => rw [s.exF p u q] at h; cases h
    rw [upd_ne (ne_of_none e this)]; exact e
  new := fun a q => by
    by_cases e : a = p
    · subst e; exact .inr h
    · rw [upd_ne e] at q; exact .inl q
  exF := fun a u e => by
    by_cases q : a = p
    · subst q; rw [upd_same] at e; rw [upd_same]; exact e
    · rw [upd_ne q] at e; rw [upd_ne q]; exact s.exF a u e
  keep := fun a u e _ => by rw [upd_ne (ne_of_none e h)]; exact e
  dom := fun a q => by
    by_cases e : a = p
    · subst e; rw [upd_same]; simp
    · rw [upd_ne e]; exact q
  pnew := fun a q => .inl q
  pF := fun a q => by
    have : a ≠ p := fun e => by subst e; exact s.pH a q h
    rw [upd_ne this]; exact s.pF a q
  pH := fun a q => by
    have : a ≠ p := fun e => by subst e; exact s.pH a q h
    rw [upd_ne this]; exact s.pH a q
  tape := fun t q => T.stable _ _ _ _ q fun a z => by
    have : a ≠ p := fun e => by subst e; exact s.pH a z h
    rw [upd_ne this]
/-- the new object, not frozen -/
theorem Step.newN {p : Addr} {o : HO} (s : Step T F H P F H P) (h : H p = none) : Step T F H P F (upd H p o) P where
  grow := Ex.refl F
  new := fun a q => .inl q
  exF := fun a u e => by
    rw [upd_ne (ne_of_none (s.exF a u e) h)]; exact s.exF a u e
  keep := fun a u e _ => by rw [upd_ne (ne_of_none e h)]; exact e
  dom := fun a q => by
    by_cases e : a = p
    · subst e; rw [upd_same]; simp
    · rw [upd_ne e]; exact q
  pnew := fun a q => .inl q
  pF := s.pF
  pH := fun a q => by
    have : a ≠ p := fun e => by subst e; exact s.pH a q h
    rw [upd_ne this]; exact s.pH a q
  tape := fun t q => T.stable _ _ _ _ q fun a z => by
    have : a ≠ p := fun e => by subst e; exact s.pH a z h
    rw [upd_ne this]
/-- what is held at a, of nobody else, is frozen -/
theorem Step.frz {a : Addr} {o : HO} (s : Step T F H P F H P) (h : H a = some o) (hF : F a = none) (hP : ¬ P a) : Ex F (upd F a o) ∧ Ex (upd F a o) H ∧ (∀ x, P x → (upd F a o) x = none) := by
  refine ⟨Ex.new hF, fun x u e => ?_, fun x q => ?_⟩
  · by_cases z : x = a
    · subst z; rw [upd_same] at e; cases e; exact h
    · rw [upd_ne z] at e; exact s.exF x u e
  · have : x ≠ a := fun e => by subst e; exact hP q
    rw [upd_ne this]; exact s.pF x q
theorem SlOk.step {v : Option V} {s : Sl} (R : Rel K T n F H P σ ρ) (st : Step T F H P F' H' P') (h : SlOk K T n F H P v s) : SlOk K T n F' H' P' v s := by
  cases s with
  | un => trivial
  | fr d => obtain ⟨x, e, q⟩ := h; exact ⟨x, e, dp_ex st.grow q⟩
  | ow d =>
    obtain ⟨a, e, q, q1, q2, q3⟩ := h
    obtain ⟨o, w⟩ := hold_some q
    refine ⟨a, e, hold_ex st.grow (fun o' z => st.keep a o' z q3) q, q1, ?_, fun z => ?_⟩
    · cases z : F' a with
      | none => rfl
      | some u =>
        rcases st.new a (by rw [z]; simp) with y | y
        · exact absurd q2 y
        · rw [w] at y; cases y
    · rcases st.pnew a z with y | y
      · exact q3 y
      · rw [w] at y; cases y
  | bo d =>
    obtain ⟨x, e, q⟩ := h
    refine ⟨x, e, ?_⟩
    rcases q with q | ⟨a, e2, q, q3⟩
    · exact .inl (dp_ex st.grow q)
    · exact .inr ⟨a, e2, hold_ex st.grow (fun _ z => z) q, q3⟩
  | tp => obtain ⟨t, e, q⟩ := h; exact ⟨t, e, st.tape t q⟩
  | ex a dd x =>
    obtain ⟨e, b, vs, e1, q, q1, q2⟩ := h
    refine ⟨e, b, vs, e1, st.keep b _ q q2, fsOk_ex st.grow q1, fun z => ?_⟩
    rcases st.pnew b z with y | y
    · exact q2 y
    · rw [q] at y; cases y
theorem Rel.step (R : Rel K T n F H P σ ρ) (s : Step T F H P F' H' P') : Rel K T n F' H' P' σ ρ where
  exF := s.exF
  grow := R.grow.trans s.grow
  fnew := fun a h => by
    rcases s.new a h with q | q
    · exact R.fnew a q
    · refine .inr ?_
      cases e : n.H0 a with
      | none => rfl
      | some o => exact absurd q (R.dom a (by rw [e]; simp))
  keep := fun a o h hp => by
    refine s.keep a o (R.keep a o h hp) fun z => ?_
    rcases R.pnew a z with q | q
    · exact hp q
    · rw [h] at q; cases q
  dom := fun a h => s.dom a (R.dom a h)
  pnew := fun a h => by
    rcases s.pnew a h with q | q
    · exact R.pnew a q
    · refine .inr ?_
      cases e : n.H0 a with
      | none => rfl
      | some o => exact absurd q (R.dom a (by rw [e]; simp))
  pF := s.pF
  pH := s.pH
  tape := fun t h => s.tape t (R.tape t h)
  len := R.len
  slot := fun i sl e => SlOk.step R s (R.slot i sl e)
  sep := R.sep
/-- a view in a slot -/
theorem Rel.bo {x : V} {d : D} (R : Rel K T n F H P σ ρ) (h : View K F n.H0 n.P0 x d) : View K F H P x d := by
  rcases h with h | ⟨a, e, h, hp⟩
  · exact .inl h
  · obtain ⟨o, w⟩ := hold_some h
    refine .inr ⟨a, e, hold_ex (Ex.refl F) (fun o q => R.keep a o q hp) h, fun z => ?_⟩
    rcases R.pnew a z with q | q
    · exact hp q
    · rw [w] at q; cases q
theorem View.list {v : V} {ds : List D} (e : Ex F H) (h : View K F H P v (.list ds)) : ∃ p xs, v = .ref p ∧ SqL K H p xs ∧ DpAll K F xs ds := by
  rcases h with h | ⟨a, e2, h, hp⟩
  · cases h with
    | lst h r => exact ⟨_, _, rfl, ex_l e h, r⟩
  · obtain ⟨xs, h1, h2⟩ := h
    exact ⟨a, xs, e2, SqL.of h1, h2⟩
theorem View.tup {v : V} {ds : List D} (e : Ex F H) (h : View K F H P v (.tuple ds)) : ∃ p xs, v = .ref p ∧ SqT K H p xs ∧ DpAll K F xs ds := by
  rcases h with h | ⟨a, e2, h, hp⟩
  · cases h with
    | tup h r => exact ⟨_, _, rfl, ex_t e h, r⟩
  · exact (show False from h).elim
theorem View.dp {v : V} {d : D} (e : Ex F H) (h : View K F H P v d) : Dp K H v d := by
  rcases h with h | ⟨a, e2, h, hp⟩
  · exact dp_ex e h
  · cases d with
    | list ds => obtain ⟨xs, h1, h2⟩ := h; subst e2; exact .lst (SqL.of h1) (dps_ex e h2)
    | _ => exact (show False from h).elim
theorem View.frozen {v : V} {d : D} (hd : ∀ ds, d ≠ .list ds) (h : View K F H P v d) : Dp K F v d := by
  rcases h with h | ⟨a, e2, h, hp⟩
  · exact h
  · cases d with
    | list ds => exact absurd rfl (hd ds)
    | _ => exact (show False from h).elim
end

/-! ### kinds of results -/
inductive RK where | fr | nw | own | st | vw | tp
def Res (K : PySem.W.Frag) (T : Tape) (n : En) (rk : RK) (H F' H' : Hp) (P' : Fp) (v : V) (d : D) : Prop :=
  match rk with
  | .fr => Dp K F' v d
  | .nw => ∃ a, v = .ref a ∧ Hold K F' H' a d ∧ H a = none ∧ F' a = none ∧ ¬ P' a
  | .own => ∃ a, v = .ref a ∧ Hold K F' H' a d ∧ n.H0 a = none ∧ F' a = none ∧ ¬ P' a
  | .st => View K F' n.H0 n.P0 v d
  | .vw => View K F' H' P' v d
  | .tp => ∃ t, v = .ref t ∧ T.ok H' t P'

section
variable {K : PySem.W.Frag} {T : Tape} {n : En} {F F' F'' H0 H H' H'' : Hp} {P P' P'' : Fp} {σ σ' : L2.St} {ρ ρ' : Env} {v : V} {d : D}
theorem Res.step (rk : RK) (st : Step T F' H' P' F'' H'' P'') (h : Res K T n rk H F' H' P' v d) : Res K T n rk H F'' H'' P'' v d := by
  have own : ∀ {a : Addr}, Hold K F' H' a d → F' a = none → ¬ P' a → Hold K F'' H'' a d ∧ F'' a = none ∧ ¬ P'' a := fun {a} q q2 q3 => by
    obtain ⟨o, w⟩ := hold_some q
    refine ⟨hold_ex st.grow (fun o' z => st.keep a o' z q3) q, ?_, fun z => ?_⟩
    · cases z : F'' a with
      | none => rfl
      | some u =>
        rcases st.new a (by rw [z]; simp) with y | y
        · exact absurd q2 y
        · rw [w] at y; cases y
    · rcases st.pnew a z with y | y
      · exact q3 y
      · rw [w] at y; cases y
  cases rk with
  | fr => exact dp_ex st.grow h
  | nw =>
    obtain ⟨a, e, q, q1, q2, q3⟩ := h
    obtain ⟨z1, z2, z3⟩ := own q q2 q3
    exact ⟨a, e, z1, q1, z2, z3⟩
  | own =>
    obtain ⟨a, e, q, q1, q2, q3⟩ := h
    obtain ⟨z1, z2, z3⟩ := own q q2 q3
    exact ⟨a, e, z1, q1, z2, z3⟩
  | st =>
    rcases h with q | ⟨a, e2, q, q3⟩
    · exact .inl (dp_ex st.grow q)
    · exact .inr ⟨a, e2, hold_ex st.grow (fun _ z => z) q, q3⟩
  | vw => exact View.step st h
  | tp => obtain ⟨t, e, q⟩ := h; exact ⟨t, e, st.tape t q⟩
/-- from a later start -/
theorem Res.start {F0 : Hp} {P0 : Fp} (rk : RK) (st : Step T F0 H0 P0 F H P) (h : Res K T n rk H F' H' P' v d) : Res K T n rk H0 F' H' P' v d := by
  cases rk with
  | nw =>
    obtain ⟨a, e, q, q1, q2, q3⟩ := h
    refine ⟨a, e, q, ?_, q2, q3⟩
    cases z : H0 a with
    | none => rfl
    | some o => exact absurd q1 (st.dom a (by rw [z]; simp))
  | _ => exact h
end

abbrev DE := Env → (D → Prop) → (Exn → Prop) → Prop
abbrev DA := Env → (List D → Prop) → (Exn → Prop) → Prop
abbrev DT := Env → (Bool → Prop) → (Exn → Prop) → Prop

/-- what an exception must reach -/
def XOk (X : Cx) (T : Tape) (W : WX) (F H : Hp) (P : Fp) (σ : L2.St) (Qx : Exn → Prop) : Prop :=
  ∀ x c dd F' H' P', Step T F H P F' H' P' → ExnIs X.K X.mg F' H' P' c dd x → Qx x → W c dd σ H'
def ROk (X : Cx) (T : Tape) (n : En) (rk : RK) (F H : Hp) (P : Fp) (Q : D → Prop) (QV : VK) : Prop :=
  ∀ v d F' H' P', Step T F H P F' H' P' → Res X.K T n rk H F' H' P' v d → Q d → QV v H'

structure PX (X : Cx) (T : Tape) (W : WX) (rk : RK) (e : Expr) (E : DE) : Prop where
  ex : ∃ t, PE X e t ∧ ∀ n F H P σ ρ (Q : D → Prop) (Qx : Exn → Prop) (QV : VK), Rel X.K T n F H P σ ρ → E ρ Q Qx → ROk X T n rk F H P Q QV → XOk X T W F H P σ Qx → t σ H QV
structure PTx (X : Cx) (T : Tape) (W : WX) (e : Expr) (E : DT) : Prop where
  ex : ∃ t, PT X e t ∧ ∀ n F H P σ ρ (Q : Bool → Prop) (Qx : Exn → Prop) (QV : Bool → Hp → Prop), Rel X.K T n F H P σ ρ → E ρ Q Qx →
    (∀ b F' H' P', Step T F H P F' H' P' → Q b → QV b H') → XOk X T W F H P σ Qx → t σ H QV
def ResL (K : PySem.W.Frag) (T : Tape) (n : En) (H F' H' : Hp) (P' : Fp) : List RK → List V → List D → Prop
  | [], [], [] => True
  | k :: ks, v :: vs, d :: ds => Res K T n k H F' H' P' v d ∧ ResL K T n H F' H' P' ks vs ds
  | _, _, _ => False
theorem ResL.step {K : PySem.W.Frag} {T : Tape} {n : En} {F' F'' H H' H'' : Hp} {P' P'' : Fp} (st : Step T F' H' P' F'' H'' P'') : ∀ {ks : List RK} {vs : List V} {ds : List D}, ResL K T n H F' H' P' ks vs ds → ResL K T n H F'' H'' P'' ks vs ds
  | [], [], [], _ => trivial
  | _ :: _, _ :: _, _ :: _, ⟨a, b⟩ => ⟨Res.step _ st a, ResL.step st b⟩
  | [], [], _ :: _, h => h.elim
  | [], _ :: _, _, h => h.elim
  | _ :: _, [], _, h => h.elim
  | _ :: _, _ :: _, [], h => h.elim
theorem ResL.start {K : PySem.W.Frag} {T : Tape} {n : En} {F0 F F' H0 H H' : Hp} {P0 P P' : Fp} (st : Step T F0 H0 P0 F H P) : ∀ {ks : List RK} {vs : List V} {ds : List D}, ResL K T n H F' H' P' ks vs ds → ResL K T n H0 F' H' P' ks vs ds
  | [], [], [], _ => trivial
  | _ :: _, _ :: _, _ :: _, ⟨a, b⟩ => ⟨Res.start _ st a, ResL.start st b⟩
  | [], [], _ :: _, h => h.elim
  | [], _ :: _, _, h => h.elim
  | _ :: _, [], _, h => h.elim
  | _ :: _, _ :: _, [], h => h.elim
structure PAx (X : Cx) (T : Tape) (W : WX) (ks : List RK) (es : List Expr) (E : DA) : Prop where
  ex : ∃ t, PA X es t ∧ ∀ n F H P σ ρ (Q : List D → Prop) (Qx : Exn → Prop) (QV : List V → Hp → Prop), Rel X.K T n F H P σ ρ → E ρ Q Qx →
    (∀ vs ds F' H' P', Step T F H P F' H' P' → ResL X.K T n H F' H' P' ks vs ds → Q ds → QV vs H') → XOk X T W F H P σ Qx → t σ H QV
end Dt

set_option maxRecDepth 100000
set_option maxHeartbeats 4000000
namespace Dt
open PySem PySem.Spec PyProof.Rows L2

section
variable {T : Tape} {F F' F'' H H' H'' : Hp} {P P' P'' : Fp}
theorem Step.addF {a : Addr} {o : HO} (s : Step T F H P F' H' P') (h : H' a = some o) (hn : H a = none) (hF : F' a = none) (hP : ¬ P' a) : Step T F H P (upd F' a o) H' P' where
  grow := s.grow.trans (Ex.new hF)
  new := fun x q => by
    by_cases e : x = a
    · subst e; exact .inr hn
    · rw [upd_ne e] at q; exact s.new x q
  exF := fun x u e => by
    by_cases z : x = a
    · subst z; rw [upd_same] at e; cases e; exact h
    · rw [upd_ne z] at e; exact s.exF x u e
  keep := s.keep
  dom := s.dom
  pnew := s.pnew
  pF := fun x q => by
    have : x ≠ a := fun e => by subst e; exact hP q
    rw [upd_ne this]; exact s.pF x q
  pH := s.pH
  tape := s.tape
end
theorem upd_none {H : Hp} {a b : Addr} {o : HO} (e : upd H a o b = none) : H b = none := by
  unfold upd at e
  split at e
  · cases e
  · exact e

section
variable {X : Cx} {T : Tape} {W : WX} {k k' k1 k2 : RK} {e a b c : Expr} {E Ea Eb Ec : DE}

theorem PX.map (h : PX X T W k e E) (c : ∀ n F H P σ ρ F' H' P' v d, Rel X.K T n F H P σ ρ → Step T F H P F' H' P' → Res X.K T n k H F' H' P' v d → ∃ F'', Step T F H P F'' H' P' ∧ Res X.K T n k' H F'' H' P' v d) : PX X T W k' e E := by
  obtain ⟨t, ht, hs⟩ := h.ex
  refine ⟨t, ht, fun n F H P σ ρ Q Qx QV R hE hq hx => hs n F H P σ ρ Q Qx QV R hE (fun v d F' H' P' st r qd => ?_) hx⟩
  obtain ⟨F'', st', r'⟩ := c n F H P σ ρ F' H' P' v d R st r
  exact hq v d F'' H' P' st' r' qd
theorem PX.imp {E' : DE} (h : PX X T W k e E) (hi : ∀ ρ Q Qx, E' ρ Q Qx → E ρ Q Qx) : PX X T W k e E' := by
  obtain ⟨t, ht, hs⟩ := h.ex
  exact ⟨t, ht, fun n F H P σ ρ Q Qx QV R hE hq hx => hs n F H P σ ρ Q Qx QV R (hi _ _ _ hE) hq hx⟩
theorem PX.frVw (h : PX X T W .fr e E) : PX X T W .vw e E := h.map fun n F H P σ ρ F' H' P' v d R st r => ⟨F', st, .inl r⟩
theorem PX.frSt (h : PX X T W .fr e E) : PX X T W .st e E := h.map fun n F H P σ ρ F' H' P' v d R st r => ⟨F', st, .inl r⟩
theorem PX.nwVw (h : PX X T W .nw e E) : PX X T W .vw e E := h.map fun n F H P σ ρ F' H' P' v d R st ⟨a, e, q, _, _, p⟩ => ⟨F', st, .inr ⟨a, e, q, p⟩⟩
theorem PX.stVw (h : PX X T W .st e E) : PX X T W .vw e E := h.map fun n F H P σ ρ F' H' P' v d R st r => ⟨F', st, (R.step st).bo r⟩
theorem PX.nwOwn (h : PX X T W .nw e E) : PX X T W .own e E := h.map fun n F H P σ ρ F' H' P' v d R st ⟨a, e, q, q1, q2, p⟩ => ⟨F', st, a, e, q, by
  cases z : n.H0 a with
  | none => rfl
  | some o => exact absurd q1 (R.dom a (by rw [z]; simp)), q2, p⟩
theorem PX.nwFr (h : PX X T W .nw e E) : PX X T W .fr e E := h.map fun n F H P σ ρ F' H' P' v d R st ⟨a, e, q, q1, q2, p⟩ => by
  cases d with
  | list ds =>
    obtain ⟨xs, h1, h2⟩ := q
    subst e
    exact ⟨_, st.addF h1 q1 q2 p, Dp.lst (SqL.of upd_same) (dps_ex (Ex.new q2) h2)⟩
  | _ => exact (show False from q).elim
theorem PX.nwSt (h : PX X T W .nw e E) : PX X T W .st e E := h.nwFr.frSt

/-! ### names, constants -/
def xFr (i : Nat) : DE := fun ρ Q _ => match ρ.get i with | .fr d => Q d | _ => False
def xVw (i : Nat) : DE := fun ρ Q _ => match ρ.get i with | .fr d => Q d | .ow d => Q d | .bo d => Q d | _ => False
def xSt (i : Nat) : DE := fun ρ Q _ => match ρ.get i with | .fr d => Q d | .bo d => Q d | _ => False
def xOw (i : Nat) : DE := fun ρ Q _ => match ρ.get i with | .ow d => Q d | _ => False
def xTp (i : Nat) : DE := fun ρ Q _ => match ρ.get i with | .tp => Q .none | _ => False
theorem get_some {ρ : Env} {i : Nat} {s : Sl} (h : ρ.get i = s) (hs : s ≠ .un) : ρ[i]? = some s := by
  unfold Env.get at h
  rw [List.getD_eq_getElem?_getD] at h
  cases e : ρ[i]? with
  | none => rw [e] at h; exact absurd h.symm hs
  | some x => rw [e] at h; simp at h; rw [h]
theorem join_some {σ : L2.St} {i : Nat} {x : V} (h : (σ[i]?).join = some x) : σ[i]? = some (some x) := by
  cases e : σ[i]? with
  | none => rw [e] at h; cases h
  | some y => rw [e] at h; simp at h; rw [h]
section
variable {i : Nat} {x : Str} {pos : Pos}
theorem px_fr (i : Nat) (h : PE X (.Name x pos) (tVar i)) : PX X T W .fr (.Name x pos) (xFr i) := ⟨_, h, fun n F H P σ ρ Q Qx QV R hE hq hx => by
  unfold xFr at hE
  split at hE
  · rename_i d e
    obtain ⟨x, e1, q⟩ := R.slot i _ (get_some e (by simp))
    exact ⟨x, join_some e1, hq x d F H P R.refl q hE⟩
  · exact hE.elim⟩
theorem px_vw (i : Nat) (h : PE X (.Name x pos) (tVar i)) : PX X T W .vw (.Name x pos) (xVw i) := ⟨_, h, fun n F H P σ ρ Q Qx QV R hE hq hx => by
  unfold xVw at hE
  split at hE
  · rename_i d e
    obtain ⟨x, e1, q⟩ := R.slot i _ (get_some e (by simp))
    exact ⟨x, join_some e1, hq x d F H P R.refl (.inl q) hE⟩
  · rename_i d e
    obtain ⟨a, e1, q, q1, q2, q3⟩ := R.slot i _ (get_some e (by simp))
    exact ⟨_, join_some e1, hq _ d F H P R.refl (.inr ⟨a, rfl, q, q3⟩) hE⟩
  · rename_i d e
    obtain ⟨x, e1, q⟩ := R.slot i _ (get_some e (by simp))
    exact ⟨x, join_some e1, hq x d F H P R.refl (R.bo q) hE⟩
  · exact hE.elim⟩
theorem px_st (i : Nat) (h : PE X (.Name x pos) (tVar i)) : PX X T W .st (.Name x pos) (xSt i) := ⟨_, h, fun n F H P σ ρ Q Qx QV R hE hq hx => by
  unfold xSt at hE
  split at hE
  · rename_i d e
    obtain ⟨x, e1, q⟩ := R.slot i _ (get_some e (by simp))
    exact ⟨x, join_some e1, hq x d F H P R.refl (.inl q) hE⟩
  · rename_i d e
    obtain ⟨x, e1, q⟩ := R.slot i _ (get_some e (by simp))
    exact ⟨x, join_some e1, hq x d F H P R.refl q hE⟩
  · exact hE.elim⟩
theorem px_ow (i : Nat) (h : PE X (.Name x pos) (tVar i)) : PX X T W .own (.Name x pos) (xOw i) := ⟨_, h, fun n F H P σ ρ Q Qx QV R hE hq hx => by
  unfold xOw at hE
  split at hE
  · rename_i d e
    obtain ⟨a, e1, q, q1, q2, q3⟩ := R.slot i _ (get_some e (by simp))
    exact ⟨_, join_some e1, hq _ d F H P R.refl ⟨a, rfl, q, q1, q2, q3⟩ hE⟩
  · exact hE.elim⟩
theorem px_tp (i : Nat) (h : PE X (.Name x pos) (tVar i)) : PX X T W .tp (.Name x pos) (xTp i) := ⟨_, h, fun n F H P σ ρ Q Qx QV R hE hq hx => by
  unfold xTp at hE
  split at hE
  · rename_i e
    obtain ⟨t, e1, q⟩ := R.slot i _ (get_some e (by simp))
    exact ⟨_, join_some e1, hq _ _ F H P R.refl ⟨t, rfl, q⟩ hE⟩
  · exact hE.elim⟩
end
def xC (d : D) : DE := fun _ Q _ => Q d
theorem px_c {v : V} {d : D} (h : PE X e (tC v)) (hd : ∀ F, Dp X.K F v d) : PX X T W .fr e (xC d) := ⟨_, h, fun n F H P σ ρ Q Qx QV R hE hq hx => hq v d F H P R.refl (hd F) hE⟩
theorem px_int {i : Int} {j : Nat} {pos : Pos} : PX X T W .fr (.Constant (.int i) j pos) (xC (.int i)) := px_c pe_int fun _ => .int i
theorem px_bl {b : Bool} {j : Nat} {pos : Pos} : PX X T W .fr (.Constant (.bool b) j pos) (xC (.bool b)) := px_c pe_bl fun _ => .bl b
theorem px_non {j : Nat} {pos : Pos} : PX X T W .fr (.Constant .none j pos) (xC .none) := px_c pe_non fun _ => .non
theorem px_str {x : Str} {j : Nat} {pos : Pos} : PX X T W .fr (.Constant (.str x) j pos) (xC (.str x)) := px_c pe_str fun _ => .str x

/-! ### operations by values -/
def xOp1 (f : D → (D → Prop) → Prop) (Ea : DE) : DE := fun ρ Q Qx => Ea ρ (fun d => f d Q) Qx
def xOp2 (f : D → D → (D → Prop) → Prop) (Ea Eb : DE) : DE := fun ρ Q Qx => Ea ρ (fun d1 => Eb ρ (fun d2 => f d1 d2 Q) Qx) Qx
/-- what an operation's reading must give -/
def R1Ok (X : Cx) (T : Tape) (rk : RK) (r : V → Hp → VK → Prop) (f : D → (D → Prop) → Prop) : Prop :=
  ∀ n F H P σ ρ x d Q QV, Rel X.K T n F H P σ ρ → View X.K F H P x d → f d Q → ROk X T n rk F H P Q QV → r x H QV
def R2Ok (X : Cx) (T : Tape) (rk : RK) (r : R2) (f : D → D → (D → Prop) → Prop) : Prop :=
  ∀ n F H P σ ρ x y d1 d2 Q QV, Rel X.K T n F H P σ ρ → View X.K F H P x d1 → View X.K F H P y d2 → f d1 d2 Q → ROk X T n rk F H P Q QV → r x y H QV
theorem ROk.step {n : En} {rk : RK} {F H F' H' : Hp} {P P' : Fp} {Q : D → Prop} {QV : VK} (h : ROk X T n rk F H P Q QV) (st : Step T F H P F' H' P') : ROk X T n rk F' H' P' Q QV :=
  fun v d F2 H2 P2 st2 r q => h v d F2 H2 P2 (st.trans st2) (Res.start rk st r) q
theorem XOk.step {F H F' H' : Hp} {P P' : Fp} {σ : L2.St} {Qx : Exn → Prop} (h : XOk X T W F H P σ Qx) (st : Step T F H P F' H' P') : XOk X T W F' H' P' σ Qx :=
  fun x c dd F2 H2 P2 st2 r q => h x c dd F2 H2 P2 (st.trans st2) r q
theorem px_op1 {r : V → Hp → VK → Prop} {f : D → (D → Prop) → Prop} (ha : PX X T W .vw a Ea) (mk : ∀ {ta}, PE X a ta → PE X e (fun σ H Q => ta σ H fun x H1 => r x H1 Q)) (hr : R1Ok X T k r f) : PX X T W k e (xOp1 f Ea) := by
  obtain ⟨ta, ht, hs⟩ := ha.ex
  refine ⟨_, mk ht, fun n F H P σ ρ Q Qx QV R hE hq hx => ?_⟩
  exact hs n F H P σ ρ (fun d => f d Q) Qx _ R hE (fun v d F' H' P' st rv hf => hr n F' H' P' σ ρ v d Q QV (R.step st) rv hf (hq.step st)) hx
theorem px_op2 {r : R2} {f : D → D → (D → Prop) → Prop} (ha : PX X T W .vw a Ea) (hb : PX X T W .vw b Eb) (mk : ∀ {ta tb}, PE X a ta → PE X b tb → PE X e (tOp r ta tb)) (hr : R2Ok X T k r f) : PX X T W k e (xOp2 f Ea Eb) := by
  obtain ⟨ta, ht, hs⟩ := ha.ex
  obtain ⟨tb, ht2, hs2⟩ := hb.ex
  refine ⟨_, mk ht ht2, fun n F H P σ ρ Q Qx QV R hE hq hx => ?_⟩
  refine hs n F H P σ ρ _ Qx _ R hE (fun v d F1 H1 P1 st1 rv hE2 => ?_) hx
  exact hs2 n F1 H1 P1 σ ρ _ Qx _ (R.step st1) hE2 (fun w d2 F2 H2 P2 st2 rw2 hf => hr n F2 H2 P2 σ ρ v w d d2 Q QV ((R.step st1).step st2) (View.step st2 rv) rw2 hf (hq.step (st1.trans st2))) (hx.step st1)
/-- an answer that is plain -/
theorem ROk.plain {n : En} {F H : Hp} {P : Fp} {σ : L2.St} {ρ : Env} {Q : D → Prop} {QV : VK} (h : ROk X T n .fr F H P Q QV) (R : Rel X.K T n F H P σ ρ) {v : V} {d : D} (hd : Dp X.K F v d) (q : Q d) : QV v H := h v d F H P R.refl hd q
/-- .. a new tuple, a new list -/
theorem ROk.tup {n : En} {F H : Hp} {P : Fp} {σ : L2.St} {ρ : Env} {Q : D → Prop} {QV : VK} (h : ROk X T n .fr F H P Q QV) (R : Rel X.K T n F H P σ ρ) {xs : List V} {ds : List D} (hd : DpAll X.K F xs ds) (q : Q (.tuple ds)) {p : Addr} (hp : H p = none) : QV (.ref p) (upd H p (.tup xs)) := by
  have st := R.refl.newF (o := .tup xs) hp
  exact h _ _ _ _ _ st (.tup (SqT.of upd_same) (dps_ex st.grow hd)) q
theorem ROk.lst {n : En} {F H : Hp} {P : Fp} {σ : L2.St} {ρ : Env} {Q : D → Prop} {QV : VK} (h : ROk X T n .nw F H P Q QV) (R : Rel X.K T n F H P σ ρ) {xs : List V} {ds : List D} (hd : DpAll X.K F xs ds) (q : Q (.list ds)) {p : Addr} (hp : H p = none) : QV (.ref p) (upd H p (.lst xs)) := by
  have st := R.refl.newN (o := .lst xs) hp
  refine h _ (.list ds) _ _ _ st ⟨p, rfl, ⟨xs, upd_same, hd⟩, hp, ?_, fun z => R.pH p z hp⟩ q
  cases e : F p with
  | none => rfl
  | some o => rw [R.exF p o e] at hp; cases hp

/-! ### ints -/
def fI2 (g : Int → Int → D) (C : Int → Int → Prop) : D → D → (D → Prop) → Prop
  | .int i, .int j, Q => C i j ∧ Q (g i j)
  | _, _, _ => False
def fI20 (g : Int → Int → D) : D → D → (D → Prop) → Prop
  | .int i, .int j, Q => Q (g i j)
  | _, _, _ => False
def fI1 (g : Int → D) : D → (D → Prop) → Prop
  | .int i, Q => Q (g i)
  | _, _ => False
theorem View.int {K : PySem.W.Frag} {F H : Hp} {P : Fp} {v : V} {i : Int} (h : View K F H P v (.int i)) : v = .int i := by
  rcases h with h | ⟨_, _, h, _⟩
  · cases h; rfl
  · exact (show False from h).elim
theorem View.str {K : PySem.W.Frag} {F H : Hp} {P : Fp} {v : V} {i : Str} (h : View K F H P v (.str i)) : v = .str i := by
  rcases h with h | ⟨_, _, h, _⟩
  · cases h; rfl
  · exact (show False from h).elim
theorem View.bl {K : PySem.W.Frag} {F H : Hp} {P : Fp} {v : V} {i : Bool} (h : View K F H P v (.bool i)) : v = .bl i := by
  rcases h with h | ⟨_, _, h, _⟩
  · cases h; rfl
  · exact (show False from h).elim
theorem View.non {K : PySem.W.Frag} {F H : Hp} {P : Fp} {v : V} (h : View K F H P v .none) : v = .non := by
  rcases h with h | ⟨_, _, h, _⟩
  · cases h; rfl
  · exact (show False from h).elim
/-- ints in, an int or a bool out -/
def IsG (g : Int → Int → D) (gv : Int → Int → V) : Prop := ∀ (K : PySem.W.Frag) (F : Hp) i j, Dp K F (gv i j) (g i j)
theorem r2_I {C : Int → Int → Prop} {g : Int → Int → D} {gv : Int → Int → V} (h : IsG g gv) : R2Ok X T .fr (rI C gv) (fI2 g C) := by
  intro n F H P σ ρ x y d1 d2 Q QV R v1 v2 hf hq
  unfold fI2 at hf
  split at hf
  · obtain ⟨c, q⟩ := hf
    exact ⟨_, _, v1.int, v2.int, c, hq.plain R (h _ _ _ _) q⟩
  · exact hf.elim
theorem r2_I0 {g : Int → Int → D} {gv : Int → Int → V} (h : IsG g gv) : R2Ok X T .fr (rI0 gv) (fI20 g) := by
  intro n F H P σ ρ x y d1 d2 Q QV R v1 v2 hf hq
  unfold fI20 at hf
  split at hf
  · exact ⟨_, _, v1.int, v2.int, hq.plain R (h _ _ _ _) hf⟩
  · exact hf.elim
section
variable {pos : Pos}
abbrev fAddI := fI20 fun i j => .int (i + j)
abbrev fSubI := fI20 fun i j => .int (i - j)
abbrev fMulI := fI2 (fun i j => .int (i * j)) CMul
abbrev fDivI := fI2 (fun i j => .int (i / j)) CDiv
abbrev fModI := fI2 (fun i j => .int (i % j)) fun _ j => 0 < j
theorem px_addI (ha : PX X T W .vw a Ea) (hb : PX X T W .vw b Eb) : PX X T W .fr (.BinOp a .Add b pos) (xOp2 fAddI Ea Eb) := px_op2 ha hb (fun h1 h2 => pe_op op_add h1 h2) (r2_I0 fun _ _ _ _ => .int _)
theorem px_subI (ha : PX X T W .vw a Ea) (hb : PX X T W .vw b Eb) : PX X T W .fr (.BinOp a .Sub b pos) (xOp2 fSubI Ea Eb) := px_op2 ha hb (fun h1 h2 => pe_op op_sub h1 h2) (r2_I0 fun _ _ _ _ => .int _)
theorem px_mulI (ha : PX X T W .vw a Ea) (hb : PX X T W .vw b Eb) : PX X T W .fr (.BinOp a .Mult b pos) (xOp2 fMulI Ea Eb) := px_op2 ha hb (fun h1 h2 => pe_op op_mul h1 h2) (r2_I fun _ _ _ _ => .int _)
theorem px_divI (ha : PX X T W .vw a Ea) (hb : PX X T W .vw b Eb) : PX X T W .fr (.BinOp a .FloorDiv b pos) (xOp2 fDivI Ea Eb) := px_op2 ha hb (fun h1 h2 => pe_op op_fdiv h1 h2) (r2_I fun _ _ _ _ => .int _)
theorem px_modI (ha : PX X T W .vw a Ea) (hb : PX X T W .vw b Eb) : PX X T W .fr (.BinOp a .Mod b pos) (xOp2 fModI Ea Eb) := px_op2 ha hb (fun h1 h2 => pe_op op_mod h1 h2) (r2_I fun _ _ _ _ => .int _)
abbrev fNeg := fI1 fun i => .int (-i)
theorem px_neg (ha : PX X T W .vw a Ea) : PX X T W .fr (.UnaryOp .USub a pos) (xOp1 fNeg Ea) := px_op1 (r := rU fun i => .int (-i)) ha (fun h => pe_un un_neg h) (by
  intro n F H P σ ρ x d Q QV R v hf hq
  unfold fNeg fI1 at hf
  split at hf
  · exact ⟨_, v.int, hq.plain R (.int _) hf⟩
  · exact hf.elim)
abbrev fLt := fI20 fun i j => .bool (decide (i < j))
abbrev fLe := fI20 fun i j => .bool (decide (i ≤ j))
abbrev fGt := fI20 fun i j => .bool (decide (j < i))
abbrev fGe := fI20 fun i j => .bool (decide (j ≤ i))
theorem r2_lt : R2Ok X T .fr (rI0 fun i j => .bl (decide (i < j))) fLt := r2_I0 fun _ _ _ _ => .bl _
theorem r2_le : R2Ok X T .fr (rI0 fun i j => .bl (decide (i ≤ j))) fLe := r2_I0 fun _ _ _ _ => .bl _
theorem r2_gt : R2Ok X T .fr (rI0 fun i j => .bl (decide (j < i))) fGt := r2_I0 fun _ _ _ _ => .bl _
theorem r2_ge : R2Ok X T .fr (rI0 fun i j => .bl (decide (j ≤ i))) fGe := r2_I0 fun _ _ _ _ => .bl _

/-! ### == and != of any data; is None -/
def fEq : D → D → (D → Prop) → Prop
  | .int i, .int j, Q => Q (.bool (i == j))
  | d, e, Q => SeqAt.shaped d = true ∧ SeqAt.shaped e = true ∧ Q (.bool (PyData.eqv d e))
def fNe : D → D → (D → Prop) → Prop
  | .int i, .int j, Q => Q (.bool (!(i == j)))
  | d, e, Q => SeqAt.shaped d = true ∧ SeqAt.shaped e = true ∧ Q (.bool (!PyData.eqv d e))
theorem shaped_int (i : Int) : SeqAt.shaped (.int i) = true := by simp [SeqAt.shaped, PyData.canLay0, PyData.depth]
theorem r2_eq : R2Ok X T .fr (rEqD X.K) fEq := by
  intro n F H P σ ρ x y d1 d2 Q QV R v1 v2 hf hq
  unfold fEq at hf
  split at hf
  · exact ⟨_, _, v1.dp R.exF, v2.dp R.exF, shaped_int _, shaped_int _, hq.plain R (.bl _) (by simpa [PyData.eqv] using hf)⟩
  · obtain ⟨s1, s2, q⟩ := hf
    exact ⟨_, _, v1.dp R.exF, v2.dp R.exF, s1, s2, hq.plain R (.bl _) q⟩
theorem r2_ne : R2Ok X T .fr (rNeD X.K) fNe := by
  intro n F H P σ ρ x y d1 d2 Q QV R v1 v2 hf hq
  unfold fNe at hf
  split at hf
  · exact ⟨_, _, v1.dp R.exF, v2.dp R.exF, shaped_int _, shaped_int _, hq.plain R (.bl _) (by simpa [PyData.eqv] using hf)⟩
  · obtain ⟨s1, s2, q⟩ := hf
    exact ⟨_, _, v1.dp R.exF, v2.dp R.exF, s1, s2, hq.plain R (.bl _) q⟩
end
end
end Dt

set_option maxRecDepth 100000
set_option maxHeartbeats 4000000
namespace Dt
open PySem PySem.Spec PyProof.Rows L2

/-! ### a def's promise -/
structure FSp where
  ks : List RK
  rk : RK
  f : List D → (D → Prop) → (Exn → Prop) → Prop
  mono : ∀ ds Q Q' Qx Qx', (∀ d, Q d → Q' d) → (∀ x, Qx x → Qx' x) → f ds Q Qx → f ds Q' Qx'
/-- one answer: α the arguments told, ok what they must be, out the answer -/
def det {α : Type} (ks : List RK) (rk : RK) (enc : α → List D) (ok : α → Prop) (out : α → Except Exn D) : FSp where
  ks := ks
  rk := rk
  f := fun ds Q Qx => ∃ a, ds = enc a ∧ ok a ∧ (match out a with | .ok d => Q d | .error x => Qx x)
  mono := fun ds Q Q' Qx Qx' h hx ⟨a, e, o, q⟩ => ⟨a, e, o, by
    cases z : out a with
    | ok d => rw [z] at q; exact h d q
    | error x => rw [z] at q; exact hx x q⟩
/-- one answer, nothing raised -/
def det1 {α : Type} (ks : List RK) (rk : RK) (enc : α → List D) (ok : α → Prop) (out : α → D) : FSp where
  ks := ks
  rk := rk
  f := fun ds Q Qx => ∃ a, ds = enc a ∧ ok a ∧ Q (out a)
  mono := fun ds Q Q' Qx Qx' h hx ⟨a, e, o, q⟩ => ⟨a, e, o, h _ q⟩
/-- any of some answers -/
def nd {α : Type} (ks : List RK) (rk : RK) (enc : α → List D) (ok : α → Prop) (out : α → D → Prop) : FSp where
  ks := ks
  rk := rk
  f := fun ds Q Qx => ∃ a, ds = enc a ∧ ok a ∧ ∀ d, out a d → Q d
  mono := fun ds Q Q' Qx Qx' h hx ⟨a, e, o, q⟩ => ⟨a, e, o, fun d z => h d (q d z)⟩
def spD (K : PySem.W.Frag) (mg : Str → Option Value) (T : Tape) (S : FSp) : Sp := fun vs H Q E => ∃ n Hs F P ds, Ex F H ∧ (∀ a, P a → F a = none) ∧ (∀ a, P a → H a ≠ none) ∧ ResL K T n Hs F H P S.ks vs ds ∧
  S.f ds (fun d => ∀ v F' H' P', Step T F H P F' H' P' → Res K T n S.rk H F' H' P' v d → Q v H') (fun x => ∀ c dd F' H' P', Step T F H P F' H' P' → ExnIs K mg F' H' P' c dd x → E c dd H')
theorem resL_len {K : PySem.W.Frag} {T : Tape} {n : En} {H F' H' : Hp} {P' : Fp} : ∀ {ks : List RK} {vs : List V} {ds : List D}, ResL K T n H F' H' P' ks vs ds → vs.length = ks.length ∧ ds.length = ks.length
  | [], [], [], _ => ⟨rfl, rfl⟩
  | _ :: _, _ :: _, _ :: _, ⟨_, b⟩ => by
    obtain ⟨h1, h2⟩ := resL_len b
    exact ⟨by simp [h1], by simp [h2]⟩
  | [], [], _ :: _, h => h.elim
  | [], _ :: _, _, h => h.elim
  | _ :: _, [], _, h => h.elim
  | _ :: _, _ :: _, [], h => h.elim

section
variable {X : Cx} {T : Tape} {W : WX} {k k' k1 k2 : RK} {ks : List RK} {e a b c : Expr} {es : List Expr} {E Ea Eb Ec : DE} {A : DA} {pos : Pos}

/-! ### argument lists, displays -/
def xNil : DA := fun _ Q _ => Q []
def xCons (Ea : DE) (A : DA) : DA := fun ρ Q Qx => Ea ρ (fun d => A ρ (fun ds => Q (d :: ds)) Qx) Qx
theorem pax_nil : PAx X T W [] [] xNil := ⟨_, pa_nil, fun n F H P σ ρ Q Qx QV R hE hq hx => hq [] [] F H P R.refl trivial hE⟩
theorem pax_cons (ha : PX X T W k e Ea) (hr : PAx X T W ks es A) (hs : starEach (e :: es) X.env = (false, eval e X.env) :: starEach es X.env := by rfl) : PAx X T W (k :: ks) (e :: es) (xCons Ea A) := by
  obtain ⟨ta, ht, h1⟩ := ha.ex
  obtain ⟨tr, ht2, h2⟩ := hr.ex
  refine ⟨_, pa_cons ht ht2 hs, fun n F H P σ ρ Q Qx QV R hE hq hx => ?_⟩
  refine h1 n F H P σ ρ _ Qx _ R hE (fun v d F1 H1 P1 st1 r1 hE2 => ?_) hx
  exact h2 n F1 H1 P1 σ ρ _ Qx _ (R.step st1) hE2 (fun vs ds F2 H2 P2 st2 r2 hq2 => hq (v :: vs) (d :: ds) F2 H2 P2 (st1.trans st2) ⟨Res.step k st2 r1, ResL.start st1 r2⟩ hq2) (hx.step st1)
def AllFr : List RK → Prop
  | [] => True
  | k :: ks => k = .fr ∧ AllFr ks
theorem resL_fr {K : PySem.W.Frag} {n : En} {H F' H' : Hp} {P' : Fp} : ∀ {ks : List RK} {vs : List V} {ds : List D}, AllFr ks → ResL K T n H F' H' P' ks vs ds → DpAll K F' vs ds
  | [], [], [], _, _ => .nil
  | _ :: _, _ :: _, _ :: _, ⟨e, q⟩, ⟨a, b⟩ => by
    subst e
    exact .cons a (resL_fr q b)
  | [], [], _ :: _, _, h => h.elim
  | [], _ :: _, _, _, h => h.elim
  | _ :: _, [], _, _, h => h.elim
  | _ :: _, _ :: _, [], _, h => h.elim
def xTup (A : DA) : DE := fun ρ Q Qx => A ρ (fun ds => Q (.tuple ds)) Qx
def xLst (A : DA) : DE := fun ρ Q Qx => A ρ (fun ds => Q (.list ds)) Qx
theorem px_tup {x1} (h : PAx X T W ks es A) (hk : AllFr ks := by repeat (first | exact trivial | refine ⟨rfl, ?_⟩)) (hz : es.length ≤ 1000 := by decide) (hlen : ks.length = es.length := by rfl) : PX X T W .fr (.Tuple es x1 pos) (xTup A) := by
  obtain ⟨t, ht, h1⟩ := h.ex
  refine ⟨_, pe_tup ht, fun n F H P σ ρ Q Qx QV R hE hq hx => ?_⟩
  refine h1 n F H P σ ρ _ Qx _ R hE (fun vs ds F1 H1 P1 st1 r1 q => ⟨?_, fun p hp => ?_⟩) hx
  · have := (resL_len r1).1
    exact Nat.le_of_lt (small1000 (by omega))
  · exact (hq.step st1).tup (R.step st1) (resL_fr hk r1) q hp
theorem px_lst (h : PAx X T W ks es A) (hk : AllFr ks := by repeat (first | exact trivial | refine ⟨rfl, ?_⟩)) (hz : es.length ≤ 1000 := by decide) (hlen : ks.length = es.length := by rfl) : PX X T W .nw (.List es pos) (xLst A) := by
  obtain ⟨t, ht, h1⟩ := h.ex
  refine ⟨_, pe_lst ht, fun n F H P σ ρ Q Qx QV R hE hq hx => ?_⟩
  refine h1 n F H P σ ρ _ Qx _ R hE (fun vs ds F1 H1 P1 st1 r1 q => ⟨?_, fun p hp => ?_⟩) hx
  · have := (resL_len r1).1
    exact Nat.le_of_lt (small1000 (by omega))
  · exact (hq.step st1).lst (R.step st1) (resL_fr hk r1) q hp

/-! ### calls of defs -/
def xCall (S : FSp) (A : DA) : DE := fun ρ Q Qx => A ρ (fun ds => S.f ds Q Qx) Qx
theorem px_call {S : FSp} {j : Nat} {f : Addr} {fd : FuncData} {ps : List Str} {x : Str} {p : Pos} (F : FnOk X.prog X.w X.K X.mg X.base (L2.CX X.prog X.w) j f fd ps (spD X.K X.mg T S)) (tk : Takes X W) (hr : Room j X.A) (hg : Gl X x) (hm : X.mg x = some (.ref f)) (hk : PySem.W.keepIn X.K (.ref f) = true) (hb : Binds X.K fd ps [])
    (ha : PAx X T W S.ks (e :: es) A) (hdb : (x == ("__debug__" : Str)) = false := by decide) (he : starEach (e :: es) X.env = (false, eval e X.env) :: starEach es X.env := by rfl) (hpl : (backTo pos (starEach es X.env)).any (·.1) = false := by rfl) :
    PX X T W S.rk (.Call (.Name x p) (e :: es) [] pos) (xCall S A) := by
  obtain ⟨t, ht, h1⟩ := ha.ex
  refine ⟨_, pe_callS F hr hg hm hk hb (fun σ => passAt tk σ) ht hdb he hpl, fun n F H P σ ρ Q Qx QV R hE hq hx => ?_⟩
  refine h1 n F H P σ ρ _ Qx _ R hE (fun vs ds F1 H1 P1 st1 r1 hf => ?_) hx
  refine ⟨n, H, F1, P1, ds, st1.exF, st1.pF, st1.pH, r1, S.mono _ _ _ _ _ (fun d q v F2 H2 P2 st2 r2 => ?_) (fun x q c dd F2 H2 P2 st2 r2 => ?_) hf⟩
  · exact hq v d F2 H2 P2 (st1.trans st2) (Res.start _ st1 r2) q
  · exact hx x c dd F2 H2 P2 (st1.trans st2) r2 q

/-! ### built-ins called with values -/
def xCB (f : List D → (D → Prop) → Prop) (A : DA) : DE := fun ρ Q Qx => A ρ (fun ds => f ds Q) Qx
def AllVw : List RK → Prop
  | [] => True
  | k :: ks => k = .vw ∧ AllVw ks
def ViewL (K : PySem.W.Frag) (F H : Hp) (P : Fp) : List V → List D → Prop
  | [], [] => True
  | v :: vs, d :: ds => View K F H P v d ∧ ViewL K F H P vs ds
  | _, _ => False
theorem resL_vw {K : PySem.W.Frag} {n : En} {H F' H' : Hp} {P' : Fp} : ∀ {ks : List RK} {vs : List V} {ds : List D}, AllVw ks → ResL K T n H F' H' P' ks vs ds → ViewL K F' H' P' vs ds
  | [], [], [], _, _ => trivial
  | _ :: _, _ :: _, _ :: _, ⟨e, q⟩, ⟨a, b⟩ => by
    subst e
    exact ⟨a, resL_vw q b⟩
  | [], [], _ :: _, _, h => h.elim
  | [], _ :: _, _, _, h => h.elim
  | _ :: _, [], _, _, h => h.elim
  | _ :: _, _ :: _, [], _, h => h.elim
/-- what a built-in's reading must give -/
def RCOk (X : Cx) (T : Tape) (rk : RK) (r : List V → Hp → VK → Prop) (f : List D → (D → Prop) → Prop) : Prop :=
  ∀ n F H P σ ρ xs ds Q QV, Rel X.K T n F H P σ ρ → ViewL X.K F H P xs ds → f ds Q → ROk X T n rk F H P Q QV → r xs H QV
theorem px_cb {r : List V → Hp → VK → Prop} {f : List D → (D → Prop) → Prop} (ha : PAx X T W ks es A) (hk : AllVw ks) (mk : ∀ {t}, PA X es t → PE X e (tCB r t)) (hr : RCOk X T k r f) : PX X T W k e (xCB f A) := by
  obtain ⟨t, ht, h1⟩ := ha.ex
  refine ⟨_, mk ht, fun n F H P σ ρ Q Qx QV R hE hq hx => ?_⟩
  exact h1 n F H P σ ρ _ Qx _ R hE (fun vs ds F1 H1 P1 st1 r1 hf => hr n F1 H1 P1 σ ρ vs ds Q QV (R.step st1) (resL_vw hk r1) hf (hq.step st1)) hx
theorem viewL1 {K : PySem.W.Frag} {F H : Hp} {P : Fp} {vs : List V} {d : D} (h : ViewL K F H P vs [d]) : ∃ v, vs = [v] ∧ View K F H P v d := by
  cases vs with
  | nil => exact h.elim
  | cons v r =>
    cases r with
    | nil => exact ⟨v, rfl, h.1⟩
    | cons _ _ => exact h.2.elim
theorem viewL2 {K : PySem.W.Frag} {F H : Hp} {P : Fp} {vs : List V} {d e : D} (h : ViewL K F H P vs [d, e]) : ∃ v w, vs = [v, w] ∧ View K F H P v d ∧ View K F H P w e := by
  cases vs with
  | nil => exact h.elim
  | cons v r =>
    obtain ⟨w, q, z⟩ := viewL1 (show ViewL K F H P r [e] from h.2)
    exact ⟨v, w, by rw [q], h.1, z⟩

/-! ### tests -/
structure PWx (X : Cx) (T : Tape) (W : WX) (e : Expr) (E : DT) : Prop where
  ex : ∃ t, PW X e t ∧ ∀ n F H P σ ρ (Q : Bool → Prop) (Qx : Exn → Prop) (QV : Bool → Hp → Prop), Rel X.K T n F H P σ ρ → E ρ Q Qx →
    (∀ b F' H' P', Step T F H P F' H' P' → Q b → QV b H') → XOk X T W F H P σ Qx → t σ H QV
variable {G Ga Gb : DT} {rest : List Expr}
theorem PWx.pt (h : PWx X T W e G) : PTx X T W e G := by
  obtain ⟨t, ht, h1⟩ := h.ex
  exact ⟨t, ht.pt, h1⟩
def xAndT (Ga Gb : DT) : DT := fun ρ Q Qx => Ga ρ (fun b => if b = true then Gb ρ Q Qx else Q false) Qx
def xOrT (Ga Gb : DT) : DT := fun ρ Q Qx => Ga ρ (fun b => if b = true then Q true else Gb ρ Q Qx) Qx
def xNotT (Ga : DT) : DT := fun ρ Q Qx => Ga ρ (fun b => Q (!b)) Qx
theorem pw_1a (ha : PTx X T W a Ga) : PWx X T W (.BoolOp .And [a] pos) Ga := by
  obtain ⟨t, ht, h1⟩ := ha.ex
  exact ⟨t, pw_and1 ht, h1⟩
theorem pw_1o (ha : PTx X T W a Ga) : PWx X T W (.BoolOp .Or [a] pos) Ga := by
  obtain ⟨t, ht, h1⟩ := ha.ex
  exact ⟨t, pw_or1 ht, h1⟩
theorem pw_a (ha : PTx X T W a Ga) (hb : PWx X T W (.BoolOp .And (b :: rest) pos) Gb) : PWx X T W (.BoolOp .And (a :: b :: rest) pos) (xAndT Ga Gb) := by
  obtain ⟨t, ht, h1⟩ := ha.ex
  obtain ⟨u, hu, h2⟩ := hb.ex
  refine ⟨_, pw_and ht hu, fun n F H P σ ρ Q Qx QV R hE hq hx => ?_⟩
  refine h1 n F H P σ ρ _ Qx _ R hE (fun c F1 H1 P1 st1 q => ?_) hx
  cases c with
  | true => exact h2 n F1 H1 P1 σ ρ Q Qx QV (R.step st1) q (fun b F2 H2 P2 st2 q2 => hq b F2 H2 P2 (st1.trans st2) q2) (hx.step st1)
  | false => exact hq false F1 H1 P1 st1 q
theorem pw_o (ha : PTx X T W a Ga) (hb : PWx X T W (.BoolOp .Or (b :: rest) pos) Gb) : PWx X T W (.BoolOp .Or (a :: b :: rest) pos) (xOrT Ga Gb) := by
  obtain ⟨t, ht, h1⟩ := ha.ex
  obtain ⟨u, hu, h2⟩ := hb.ex
  refine ⟨_, pw_or ht hu, fun n F H P σ ρ Q Qx QV R hE hq hx => ?_⟩
  refine h1 n F H P σ ρ _ Qx _ R hE (fun c F1 H1 P1 st1 q => ?_) hx
  cases c with
  | false => exact h2 n F1 H1 P1 σ ρ Q Qx QV (R.step st1) q (fun b F2 H2 P2 st2 q2 => hq b F2 H2 P2 (st1.trans st2) q2) (hx.step st1)
  | true => exact hq true F1 H1 P1 st1 q
theorem ptx_not (ha : PTx X T W a Ga) : PTx X T W (.UnaryOp .Not a pos) (xNotT Ga) := by
  obtain ⟨t, ht, h1⟩ := ha.ex
  exact ⟨_, pt_not ht, fun n F H P σ ρ Q Qx QV R hE hq hx => h1 n F H P σ ρ _ Qx _ R hE (fun c F1 H1 P1 st1 q => hq _ F1 H1 P1 st1 q) hx⟩
/-- a value's truth -/
def fTru : D → (Bool → Prop) → Prop
  | .none, Q => Q false
  | .bool b, Q => Q b
  | .int i, Q => Q (i != 0)
  | .str y, Q => y.length ≤ sizeLine ∧ Q ((y.length : Int) != 0)
  | .list ds, Q => Q (!ds.isEmpty)
  | .tuple ds, Q => Q (!ds.isEmpty)
  | .dict _, _ => False
def xTru (Ea : DE) : DT := fun ρ Q Qx => Ea ρ (fun d => fTru d Q) Qx
theorem isEmpty_dp {K : PySem.W.Frag} {H : Hp} {vs : List V} {ds : List D} (h : DpAll K H vs ds) : vs.isEmpty = ds.isEmpty := by
  cases h <;> rfl
theorem ptx_tru (ha : PX X T W .vw a Ea) (he : ∀ whole, isTrue a X.env whole = (do let v ← whole; standAt a.pos; holding [v] (truthy v)) := by intro _; rfl) : PTx X T W a (xTru Ea) := by
  obtain ⟨t, ht, h1⟩ := ha.ex
  refine ⟨_, pt_truth ht he, fun n F H P σ ρ Q Qx QV R hE hq hx => ?_⟩
  refine h1 n F H P σ ρ _ Qx _ R hE (fun v d F1 H1 P1 st1 r1 q => ?_) hx
  have R1 := R.step st1
  have r1 : View X.K F1 H1 P1 v d := r1
  cases d with
  | none => rw [r1.non]; exact ⟨false, rfl, hq _ F1 H1 P1 st1 q⟩
  | bool b => rw [r1.bl]; exact ⟨b, rfl, hq _ F1 H1 P1 st1 q⟩
  | int i => rw [r1.int]; exact ⟨_, rfl, hq _ F1 H1 P1 st1 q⟩
  | str y => rw [r1.str]; exact ⟨_, ⟨q.1, rfl⟩, hq _ F1 H1 P1 st1 q.2⟩
  | list ds =>
    obtain ⟨p, xs, e, h2, h3⟩ := r1.list R1.exF
    rw [e]
    exact ⟨!xs.isEmpty, .inl ⟨xs, h2, rfl⟩, hq _ F1 H1 P1 st1 (by rw [isEmpty_dp h3]; exact q)⟩
  | tuple ds =>
    obtain ⟨p, xs, e, h2, h3⟩ := r1.tup R1.exF
    rw [e]
    exact ⟨!xs.isEmpty, .inr (.inl ⟨xs, h2, rfl⟩), hq _ F1 H1 P1 st1 (by rw [isEmpty_dp h3]; exact q)⟩
  | dict _ => exact (show False from q).elim
/-- a comparison -/
def fBool (Q : Bool → Prop) : D → Prop
  | .bool b => Q b
  | _ => False
def xTst (Ea : DE) : DT := fun ρ Q Qx => Ea ρ (fBool Q) Qx
def HasBool (f : D → D → (D → Prop) → Prop) : Prop := True
theorem ptx_of {tt : TE} (h : PT X e (tTest tt)) (hs : ∀ n F H P σ ρ (Q : D → Prop) (Qx : Exn → Prop) (QV : VK), Rel X.K T n F H P σ ρ → E ρ Q Qx → ROk X T n .fr F H P Q QV → XOk X T W F H P σ Qx → tt σ H QV) : PTx X T W e (xTst E) := by
  refine ⟨_, h, fun n F H P σ ρ Q Qx QV R hE hq hx => ?_⟩
  refine hs n F H P σ ρ (fBool Q) Qx _ R hE (fun v d F1 H1 P1 st1 r1 q => ?_) hx
  unfold fBool at q
  split at q
  · cases r1
    exact ⟨_, rfl, hq _ F1 H1 P1 st1 q⟩
  · exact q.elim
theorem ptx_cmp {op : CmpOp} {r : R2} {f : D → D → (D → Prop) → Prop} (ho : OpR X (compareOp op) r) (ha : PX X T W .vw a Ea) (hb : PX X T W .vw b Eb) (hr : R2Ok X T .fr r f) (hm : behindInMarks op b = false) : PTx X T W (.Compare a [op] [b] pos) (xTst (xOp2 f Ea Eb)) := by
  obtain ⟨ta, ht, h1⟩ := ha.ex
  obtain ⟨tb, ht2, h2⟩ := hb.ex
  refine ptx_of (pt_cmpR ho ht ht2 hm) fun n F H P σ ρ Q Qx QV R hE hq hx => ?_
  refine h1 n F H P σ ρ _ Qx _ R hE (fun v d F1 H1 P1 st1 rv hE2 => ?_) hx
  exact h2 n F1 H1 P1 σ ρ _ Qx _ (R.step st1) hE2 (fun w d2 F2 H2 P2 st2 rw2 hf => hr n F2 H2 P2 σ ρ v w d d2 Q QV ((R.step st1).step st2) (View.step st2 rv) rw2 hf (hq.step (st1.trans st2))) (hx.step st1)
theorem px_cmp {op : CmpOp} {r : R2} {f : D → D → (D → Prop) → Prop} (ho : OpR X (compareOp op) r) (ha : PX X T W .vw a Ea) (hb : PX X T W .vw b Eb) (hr : R2Ok X T k r f) (hm : behindInMarks op b = false) : PX X T W k (.Compare a [op] [b] pos) (xOp2 f Ea Eb) :=
  px_op2 ha hb (fun h1 h2 => pe_cmpR ho h1 h2 hm) hr
def xChain (f g : D → D → (D → Prop) → Prop) (Ea Eb Ec : DE) : DE := fun ρ Q Qx => Ea ρ (fun x => Eb ρ (fun y => f x y (fBool fun b => if b = true then Ec ρ (fun z => g y z Q) Qx else Q (.bool false))) Qx) Qx
theorem chain_ok {r r' : R2} {f g : D → D → (D → Prop) → Prop} {ta tb tc : TE} (hr : R2Ok X T .fr r f) (hr' : R2Ok X T .fr r' g)
    (h1 : ∀ n F H P σ ρ (Q : D → Prop) (Qx : Exn → Prop) (QV : VK), Rel X.K T n F H P σ ρ → Ea ρ Q Qx → ROk X T n .vw F H P Q QV → XOk X T W F H P σ Qx → ta σ H QV)
    (h2 : ∀ n F H P σ ρ (Q : D → Prop) (Qx : Exn → Prop) (QV : VK), Rel X.K T n F H P σ ρ → Eb ρ Q Qx → ROk X T n .vw F H P Q QV → XOk X T W F H P σ Qx → tb σ H QV)
    (h3 : ∀ n F H P σ ρ (Q : D → Prop) (Qx : Exn → Prop) (QV : VK), Rel X.K T n F H P σ ρ → Ec ρ Q Qx → ROk X T n .vw F H P Q QV → XOk X T W F H P σ Qx → tc σ H QV) :
    ∀ n F H P σ ρ (Q : D → Prop) (Qx : Exn → Prop) (QV : VK), Rel X.K T n F H P σ ρ → xChain f g Ea Eb Ec ρ Q Qx → ROk X T n .fr F H P Q QV → XOk X T W F H P σ Qx → tChain r r' ta tb tc σ H QV := by
  intro n F H P σ ρ Q Qx QV R hE hq hx
  refine h1 n F H P σ ρ _ Qx _ R hE (fun v d F1 H1 P1 st1 rv hE2 => ?_) hx
  have R1 := R.step st1
  refine h2 n F1 H1 P1 σ ρ _ Qx _ R1 hE2 (fun w d2 F2 H2 P2 st2 rw2 hf => ?_) (hx.step st1)
  have R2 := R1.step st2
  refine hr n F2 H2 P2 σ ρ v w d d2 _ _ R2 (View.step st2 rv) rw2 hf (fun z d3 F3 H3 P3 st3 rz q => ?_)
  unfold fBool at q
  split at q
  · cases rz
    refine ⟨_, rfl, ?_⟩
    rename_i b
    have R3 := R2.step st3
    cases b with
    | true =>
      rw [if_pos rfl] at q ⊢
      exact h3 n F3 H3 P3 σ ρ _ Qx _ R3 q (fun u d4 F4 H4 P4 st4 ru hf4 => hr' n F4 H4 P4 σ ρ w u d2 d4 Q QV (R3.step st4) (View.step st4 (View.step st3 rw2)) ru hf4 (hq.step (((st1.trans st2).trans st3).trans st4))) (hx.step ((st1.trans st2).trans st3))
    | false =>
      rw [if_neg Bool.false_ne_true] at q ⊢
      exact hq _ _ F3 H3 P3 ((st1.trans st2).trans st3) (.bl false) q
  · exact q.elim
theorem px_chain {op op' : CmpOp} {r r' : R2} {f g : D → D → (D → Prop) → Prop} (ho : OpR X (compareOp op) r) (ho' : OpR X (compareOp op') r') (ha : PX X T W .vw a Ea) (hb : PX X T W .vw b Eb) (hc : PX X T W .vw c Ec) (hr : R2Ok X T .fr r f) (hr' : R2Ok X T .fr r' g)
    (hm : lastMarks [op, op'] [b, c] = false := by with_unfolding_all rfl) : PX X T W .fr (.Compare a [op, op'] [b, c] pos) (xChain f g Ea Eb Ec) := by
  obtain ⟨ta, ht, h1⟩ := ha.ex
  obtain ⟨tb, ht2, h2⟩ := hb.ex
  obtain ⟨tc, ht3, h3⟩ := hc.ex
  exact ⟨_, pe_chain ho ho' ht ht2 ht3 hm, chain_ok hr hr' h1 h2 h3⟩
theorem ptx_chain {op op' : CmpOp} {r r' : R2} {f g : D → D → (D → Prop) → Prop} (ho : OpR X (compareOp op) r) (ho' : OpR X (compareOp op') r') (ha : PX X T W .vw a Ea) (hb : PX X T W .vw b Eb) (hc : PX X T W .vw c Ec) (hr : R2Ok X T .fr r f) (hr' : R2Ok X T .fr r' g)
    (hm : lastMarks [op, op'] [b, c] = false := by with_unfolding_all rfl) : PTx X T W (.Compare a [op, op'] [b, c] pos) (xTst (xChain f g Ea Eb Ec)) := by
  obtain ⟨ta, ht, h1⟩ := ha.ex
  obtain ⟨tb, ht2, h2⟩ := hb.ex
  obtain ⟨tc, ht3, h3⟩ := hc.ex
  exact ptx_of (pt_chain ho ho' ht ht2 ht3 hm) (chain_ok hr hr' h1 h2 h3)

/-! ### and, or, not as values; if .. else -/
def xAnd (Ea Eb : DE) : DE := fun ρ Q Qx => Ea ρ (fBool fun b => if b = true then Eb ρ Q Qx else Q (.bool false)) Qx
def xOr (Ea Eb : DE) : DE := fun ρ Q Qx => Ea ρ (fBool fun b => if b = true then Q (.bool true) else Eb ρ Q Qx) Qx
def xNot (Ea : DE) : DE := fun ρ Q Qx => Ea ρ (fBool fun b => Q (.bool (!b))) Qx
theorem px_one {op} (h : PX X T W k a E) : PX X T W k (.BoolOp op [a] pos) E := by
  obtain ⟨t, ht, h1⟩ := h.ex
  exact ⟨t, L2.pe_one ht, h1⟩
theorem fBool_vw {K : PySem.W.Frag} {F H : Hp} {P : Fp} {v : V} {d : D} {Q : Bool → Prop} (r : View K F H P v d) (q : fBool Q d) : ∃ b, v = .bl b ∧ d = .bool b ∧ Q b := by
  unfold fBool at q
  split at q
  · exact ⟨_, r.bl, rfl, q⟩
  · exact q.elim
theorem px_and (ha : PX X T W .vw a Ea) (hb : PX X T W .fr (.BoolOp .And (b :: rest) pos) Eb) : PX X T W .fr (.BoolOp .And (a :: b :: rest) pos) (xAnd Ea Eb) := by
  obtain ⟨ta, ht, h1⟩ := ha.ex
  obtain ⟨tb, ht2, h2⟩ := hb.ex
  refine ⟨_, L2.pe_and ht ht2, fun n F H P σ ρ Q Qx QV R hE hq hx => ?_⟩
  refine h1 n F H P σ ρ _ Qx _ R hE (fun v d F1 H1 P1 st1 rv q => ?_) hx
  obtain ⟨b, e, _, q⟩ := fBool_vw rv q
  refine ⟨b, e, ?_⟩
  cases b with
  | true =>
    rw [if_pos rfl] at q ⊢
    exact h2 n F1 H1 P1 σ ρ Q Qx QV (R.step st1) q (hq.step st1) (hx.step st1)
  | false =>
    rw [if_neg Bool.false_ne_true] at q ⊢
    exact hq _ _ F1 H1 P1 st1 (.bl false) q
theorem px_or (ha : PX X T W .vw a Ea) (hb : PX X T W .fr (.BoolOp .Or (b :: rest) pos) Eb) : PX X T W .fr (.BoolOp .Or (a :: b :: rest) pos) (xOr Ea Eb) := by
  obtain ⟨ta, ht, h1⟩ := ha.ex
  obtain ⟨tb, ht2, h2⟩ := hb.ex
  refine ⟨_, L2.pe_or ht ht2, fun n F H P σ ρ Q Qx QV R hE hq hx => ?_⟩
  refine h1 n F H P σ ρ _ Qx _ R hE (fun v d F1 H1 P1 st1 rv q => ?_) hx
  obtain ⟨b, e, _, q⟩ := fBool_vw rv q
  refine ⟨b, e, ?_⟩
  cases b with
  | false =>
    rw [if_neg Bool.false_ne_true] at q ⊢
    exact h2 n F1 H1 P1 σ ρ Q Qx QV (R.step st1) q (hq.step st1) (hx.step st1)
  | true =>
    rw [if_pos rfl] at q ⊢
    exact hq _ _ F1 H1 P1 st1 (.bl true) q
theorem px_not (ha : PX X T W .vw a Ea) : PX X T W .fr (.UnaryOp .Not a pos) (xNot Ea) := by
  obtain ⟨ta, ht, h1⟩ := ha.ex
  refine ⟨_, L2.pe_not ht, fun n F H P σ ρ Q Qx QV R hE hq hx => ?_⟩
  refine h1 n F H P σ ρ _ Qx _ R hE (fun v d F1 H1 P1 st1 rv q => ?_) hx
  obtain ⟨b, e, _, q⟩ := fBool_vw rv q
  exact ⟨b, e, hq _ _ F1 H1 P1 st1 (.bl _) q⟩
def xIf (Gc : DT) (Ea Eb : DE) : DE := fun ρ Q Qx => Gc ρ (fun b => if b = true then Ea ρ Q Qx else Eb ρ Q Qx) Qx
theorem px_ite (hc : PTx X T W c G) (ha : PX X T W k a Ea) (hb : PX X T W k b Eb) : PX X T W k (.IfExp c a b pos) (xIf G Ea Eb) := by
  obtain ⟨tc, ht0, h0⟩ := hc.ex
  obtain ⟨ta, ht, h1⟩ := ha.ex
  obtain ⟨tb, ht2, h2⟩ := hb.ex
  refine ⟨_, pe_ifExp ht0 ht ht2, fun n F H P σ ρ Q Qx QV R hE hq hx => ?_⟩
  refine h0 n F H P σ ρ _ Qx _ R hE (fun b F1 H1 P1 st1 q => ?_) hx
  cases b with
  | true =>
    rw [if_pos rfl] at q ⊢
    exact h1 n F1 H1 P1 σ ρ Q Qx QV (R.step st1) q (hq.step st1) (hx.step st1)
  | false =>
    rw [if_neg Bool.false_ne_true] at q ⊢
    exact h2 n F1 H1 P1 σ ρ Q Qx QV (R.step st1) q (hq.step st1) (hx.step st1)
end
end Dt

set_option maxRecDepth 100000
set_option maxHeartbeats 4000000
namespace Dt
open PySem PySem.Spec PyProof.Rows L2

theorem dps_atI {K : PySem.W.Frag} {F : Hp} {xs : List V} {ds : List D} {i : Int} {d : D} (h : DpAll K F xs ds) (e : atI ds i = some d) : ∃ v, atI xs i = some v ∧ Dp K F v d := by
  unfold atI at e ⊢
  rw [dps_len h]
  cases z : ixN ds.length i with
  | none => rw [z] at e; cases e
  | some j =>
    rw [z] at e
    obtain ⟨v, q, r⟩ := dps_get h (show ds[j]? = some d from e)
    exact ⟨v, q, r⟩
def cutA {α : Type} (xs : List α) (lo hi : Option Int) : List α := (xs.drop (HT.sIx xs.length 0 lo)).take (HT.sIx xs.length xs.length hi - HT.sIx xs.length 0 lo)
theorem dps_cut {K : PySem.W.Frag} {F : Hp} {xs : List V} {ds : List D} (h : DpAll K F xs ds) (lo hi : Option Int) : DpAll K F (cutV xs lo hi) (cutA ds lo hi) := by
  unfold cutV cutA
  rw [dps_len h]
  exact dps_take _ (dps_drop _ h)

/-! ### lists that are read, joined -/
def rCatS (K : PySem.W.Frag) : R2 := fun x y H Q => ∃ l b xs zs, x = .ref l ∧ y = .ref b ∧ SqL K H l xs ∧ SqL K H b zs ∧ xs.length + zs.length ≤ sizeLine ∧
  ∀ p, H p = none → Q (.ref p) (upd H p (.lst (xs ++ zs)))
theorem op_catS {X : Cx} : OpR X (binaryOp .Add) (rCatS X.K) := by
  intro pins s σ H x y v u Q I rx ry h
  obtain ⟨l, b, xs, zs, rfl, rfl, hH, hB, hz, q⟩ := h
  cases rx
  cases ry
  obtain ⟨its, r, ⟨⟨cls, dd, data, sl⟩, n, e, hc, hdn, hd⟩, _⟩ := I.list hH
  obtain ⟨its2, r2, ⟨⟨cls2, dd2, data2, sl2⟩, n2, e2, hc2, hdn2, hd2⟩, _⟩ := I.list hB
  simp only at hc hdn hd hc2 hdn2 hd2
  subst hc hdn hd hc2 hdn2 hd2
  have l1 := r.length
  have l2 := r2.length
  have ea : its.toArray ++ its2.toArray = (its ++ its2).toArray := by simp
  refine concat_meets ⟨_, e, rfl⟩ ⟨_, e2, rfl⟩ noFill_list_add seq_list_add PySem.F.slot_list_add PySem.F.entry_list_add (PySem.F.args_list_add_2 _ _) (list_addW l b its.toArray its2.toArray n n2 none none sl sl2 (by simp only [List.size_toArray]; omega)) ⟨e, e2, ?_⟩
  rw [ea]
  exact ⟨.ref _, _, I.lnew (t' := s.toks) (r.append r2) (by rw [List.length_append]; omega), rfl, q _ I.fresh⟩

section
variable {X : Cx} {T : Tape} {W : WX} {k k' k1 k2 : RK} {ks : List RK} {e a b c : Expr} {es : List Expr} {E Ea Eb Ec : DE} {A : DA} {pos : Pos}

/-! ### a[i] -/
def fIx : D → D → (D → Prop) → Prop
  | .list ds, .int i, Q => match atI ds i with | some d => Q d | none => False
  | .tuple ds, .int i, Q => match atI ds i with | some d => Q d | none => False
  | .str z, .int i, Q => z.length ≤ sizeLine ∧ match atI z.cps.toList i with | some c => Q (.str ⟨#[c]⟩) | none => False
  | _, _, _ => False
theorem r2_ix : R2Ok X T .fr (rIx X.K) fIx := by
  intro n F H P σ ρ x y d1 d2 Q QV R v1 v2 hf hq
  unfold fIx at hf
  split at hf
  · rename_i ds i
    obtain ⟨p, xs, e, h1, h2⟩ := v1.list R.exF
    cases z : atI ds i with
    | none => rw [z] at hf; exact hf.elim
    | some d =>
      rw [z] at hf
      obtain ⟨v, q1, q2⟩ := dps_atI h2 z
      exact .inl ⟨p, xs, i, v, e, v2.int, h1, q1, hq.plain R q2 hf⟩
  · rename_i ds i
    obtain ⟨p, xs, e, h1, h2⟩ := v1.tup R.exF
    cases z : atI ds i with
    | none => rw [z] at hf; exact hf.elim
    | some d =>
      rw [z] at hf
      obtain ⟨v, q1, q2⟩ := dps_atI h2 z
      exact .inr (.inl ⟨p, xs, i, v, e, v2.int, h1, q1, hq.plain R q2 hf⟩)
  · rename_i w i
    obtain ⟨hz, hf⟩ := hf
    cases z : atI w.cps.toList i with
    | none => rw [z] at hf; exact hf.elim
    | some c =>
      rw [z] at hf
      exact .inr (.inr ⟨w, i, c, v1.str, v2.int, hz, z, hq.plain R (.str _) hf⟩)
  · exact hf.elim
theorem px_ix (ha : PX X T W .vw a Ea) (hb : PX X T W .vw b Eb) (hs : PlainIx b := by exact fun _ _ => rfl) : PX X T W .fr (.Subscript a b pos) (xOp2 fIx Ea Eb) := px_op2 ha hb (fun h1 h2 => pe_ix ix_seq h1 h2 hs) r2_ix

/-! ### a[i:j] -/
abbrev DO := Env → (Option Int → Prop) → (Exn → Prop) → Prop
structure POx (X : Cx) (T : Tape) (W : WX) (e : Option Expr) (E : DO) : Prop where
  ex : ∃ t, PO X e t ∧ ∀ n F H P σ ρ (Q : Option Int → Prop) (Qx : Exn → Prop) (QV : Option Int → Hp → Prop), Rel X.K T n F H P σ ρ → E ρ Q Qx →
    (∀ b F' H' P', Step T F H P F' H' P' → Q b → QV b H') → XOk X T W F H P σ Qx → t σ H QV
def xNo : DO := fun _ Q _ => Q none
def fInt (Q : Int → Prop) : D → Prop
  | .int i => Q i
  | _ => False
theorem fInt_vw {K : PySem.W.Frag} {F H : Hp} {P : Fp} {v : V} {d : D} {Q : Int → Prop} (r : View K F H P v d) (q : fInt Q d) : ∃ b, v = .int b ∧ d = .int b ∧ Q b := by
  unfold fInt at q
  split at q
  · exact ⟨_, r.int, rfl, q⟩
  · exact q.elim
def xSome (Ea : DE) : DO := fun ρ Q Qx => Ea ρ (fInt fun i => Q (some i)) Qx
theorem pox_no : POx X T W none xNo := ⟨_, po_none, fun n F H P σ ρ Q Qx QV R hE hq hx => hq none F H P R.refl hE⟩
theorem pox_some (h : PX X T W .vw a Ea) : POx X T W (some a) (xSome Ea) := by
  obtain ⟨t, ht, h1⟩ := h.ex
  refine ⟨_, po_some ht, fun n F H P σ ρ Q Qx QV R hE hq hx => ?_⟩
  refine h1 n F H P σ ρ _ Qx _ R hE (fun v d F1 H1 P1 st1 rv q => ?_) hx
  obtain ⟨i, e, _, q⟩ := fInt_vw rv q
  exact ⟨i, e, hq _ F1 H1 P1 st1 q⟩
def xCut (f : D → Option Int → Option Int → (D → Prop) → Prop) (Ea : DE) (El Eh : DO) : DE := fun ρ Q Qx => Ea ρ (fun d => El ρ (fun l => Eh ρ (fun h => f d l h Q) Qx) Qx) Qx
def fCutT : D → Option Int → Option Int → (D → Prop) → Prop
  | .tuple ds, l, h, Q => Q (.tuple (cutA ds l h))
  | _, _, _, _ => False
def fCutL : D → Option Int → Option Int → (D → Prop) → Prop
  | .list ds, l, h, Q => Q (.list (cutA ds l h))
  | _, _, _, _ => False
def fCutS : D → Option Int → Option Int → (D → Prop) → Prop
  | .str z, l, h, Q => z.length ≤ sizeLine ∧ Q (.str (cutS z l h))
  | _, _, _, _ => False
theorem px_slice {r : V → Option Int → Option Int → Hp → VK → Prop} {f : D → Option Int → Option Int → (D → Prop) → Prop} {lo hi : Option Expr} {p2 : Pos} {El Eh : DO} (hr : SlR X r) (ha : PX X T W .vw a Ea) (hl : POx X T W lo El) (hh : POx X T W hi Eh)
    (hf : ∀ n F H P σ ρ x d l h Q QV, Rel X.K T n F H P σ ρ → View X.K F H P x d → f d l h Q → ROk X T n k F H P Q QV → r x l h H QV) : PX X T W k (.Subscript a (.Slice lo hi none p2) pos) (xCut f Ea El Eh) := by
  obtain ⟨t, ht, h1⟩ := ha.ex
  obtain ⟨tl, htl, h2⟩ := hl.ex
  obtain ⟨th, hth, h3⟩ := hh.ex
  refine ⟨_, pe_slice hr ht htl hth, fun n F H P σ ρ Q Qx QV R hE hq hx => ?_⟩
  refine h1 n F H P σ ρ _ Qx _ R hE (fun v d F1 H1 P1 st1 rv q => ?_) hx
  refine h2 n F1 H1 P1 σ ρ _ Qx _ (R.step st1) q (fun l F2 H2 P2 st2 q => ?_) (hx.step st1)
  refine h3 n F2 H2 P2 σ ρ _ Qx _ ((R.step st1).step st2) q (fun h F3 H3 P3 st3 q => ?_) (hx.step (st1.trans st2))
  exact hf n F3 H3 P3 σ ρ v d l h Q QV (((R.step st1).step st2).step st3) (View.step st3 (View.step st2 rv)) q (hq.step ((st1.trans st2).trans st3))
theorem px_sliceT {lo hi : Option Expr} {p2 : Pos} {El Eh : DO} (ha : PX X T W .vw a Ea) (hl : POx X T W lo El) (hh : POx X T W hi Eh) : PX X T W .fr (.Subscript a (.Slice lo hi none p2) pos) (xCut fCutT Ea El Eh) :=
  px_slice sl_tupA ha hl hh fun n F H P σ ρ x d l h Q QV R vw hf hq => by
    cases d with
    | tuple ds =>
      have hf : Q (.tuple (cutA ds l h)) := hf
      obtain ⟨p, xs, e, h1, h2⟩ := vw.tup R.exF
      refine ⟨p, xs, e, h1, fun q => ?_, fun _ p' hp' => hq.tup R (dps_cut h2 _ _) hf hp'⟩
      have ee : cutA ds l h = ds := by
        unfold cutA
        rw [← dps_len h2, q.1, q.2]
        simp [dps_len h2]
      rw [ee] at hf
      subst e
      exact hq.plain R (vw.frozen (fun _ => by simp)) hf
    | _ => exact (show False from hf).elim
theorem px_sliceL {lo hi : Option Expr} {p2 : Pos} {El Eh : DO} (ha : PX X T W .vw a Ea) (hl : POx X T W lo El) (hh : POx X T W hi Eh) : PX X T W .nw (.Subscript a (.Slice lo hi none p2) pos) (xCut fCutL Ea El Eh) :=
  px_slice sl_list ha hl hh fun n F H P σ ρ x d l h Q QV R vw hf hq => by
    unfold fCutL at hf
    split at hf
    · obtain ⟨p, xs, e, h1, h2⟩ := vw.list R.exF
      exact ⟨p, xs, e, h1, fun p' hp' => hq.lst R (dps_cut h2 _ _) hf hp'⟩
    · exact hf.elim
theorem px_sliceS {lo hi : Option Expr} {p2 : Pos} {El Eh : DO} (ha : PX X T W .vw a Ea) (hl : POx X T W lo El) (hh : POx X T W hi Eh) : PX X T W .fr (.Subscript a (.Slice lo hi none p2) pos) (xCut fCutS Ea El Eh) :=
  px_slice sl_str ha hl hh fun n F H P σ ρ x d l h Q QV R vw hf hq => by
    unfold fCutS at hf
    split at hf
    · exact ⟨_, vw.str, hf.1, hq.plain R (.str _) hf.2⟩
    · exact hf.elim

/-! ### a + b of tuples, lists, texts; a list times an int -/
def fAddT : D → D → (D → Prop) → Prop
  | .tuple ds, .tuple es, Q => ds.length + es.length ≤ sizeLine ∧ Q (.tuple (ds ++ es))
  | _, _, _ => False
def fAddL : D → D → (D → Prop) → Prop
  | .list ds, .list es, Q => ds.length + es.length ≤ sizeLine ∧ Q (.list (ds ++ es))
  | _, _, _ => False
def fAddS : D → D → (D → Prop) → Prop
  | .str x, .str y, Q => x.length + y.length ≤ sizeLine ∧ Q (.str (x ++ y))
  | _, _, _ => False
theorem px_addT (ha : PX X T W .vw a Ea) (hb : PX X T W .vw b Eb) : PX X T W .fr (.BinOp a .Add b pos) (xOp2 fAddT Ea Eb) := px_op2 ha hb (fun h1 h2 => pe_op op_catA h1 h2) (by
  intro n F H P σ ρ x y d1 d2 Q QV R v1 v2 hf hq
  unfold fAddT at hf
  split at hf
  · obtain ⟨hz, q⟩ := hf
    obtain ⟨p, xs, e, h1, h2⟩ := v1.tup R.exF
    obtain ⟨p', xs', e', h1', h2'⟩ := v2.tup R.exF
    refine ⟨p, p', xs, xs', e, e', h1, h1', by rw [dps_len h2, dps_len h2']; exact hz, fun z => ?_, fun _ z => ?_, fun _ _ p hp => hq.tup R (dps_app h2 h2') q hp⟩
    · subst z
      cases h2
      subst e'
      exact hq.plain R (v2.frozen (fun _ => by simp)) q
    · subst z
      cases h2'
      rw [List.append_nil] at q
      subst e
      exact hq.plain R (v1.frozen (fun _ => by simp)) q
  · exact hf.elim)
theorem px_addL (ha : PX X T W .vw a Ea) (hb : PX X T W .vw b Eb) : PX X T W .nw (.BinOp a .Add b pos) (xOp2 fAddL Ea Eb) := px_op2 ha hb (fun h1 h2 => pe_op op_catS h1 h2) (by
  intro n F H P σ ρ x y d1 d2 Q QV R v1 v2 hf hq
  unfold fAddL at hf
  split at hf
  · obtain ⟨hz, q⟩ := hf
    obtain ⟨p, xs, e, h1, h2⟩ := v1.list R.exF
    obtain ⟨p', xs', e', h1', h2'⟩ := v2.list R.exF
    exact ⟨p, p', xs, xs', e, e', h1, h1', by rw [dps_len h2, dps_len h2']; exact hz, fun p hp => hq.lst R (dps_app h2 h2') q hp⟩
  · exact hf.elim)
theorem px_addS (ha : PX X T W .vw a Ea) (hb : PX X T W .vw b Eb) : PX X T W .fr (.BinOp a .Add b pos) (xOp2 fAddS Ea Eb) := px_op2 ha hb (fun h1 h2 => pe_op op_add_str h1 h2) (by
  intro n F H P σ ρ x y d1 d2 Q QV R v1 v2 hf hq
  unfold fAddS at hf
  split at hf
  · exact ⟨_, _, v1.str, v2.str, hf.1, hq.plain R (.str _) hf.2⟩
  · exact hf.elim)

/-! ### in, is None -/
def fInS : D → D → (D → Prop) → Prop
  | .str x, .str y, Q => Q (.bool (!(Builtin.Str.occurrences y x 0 y.length 1).isEmpty))
  | _, _, _ => False
def fNotInS : D → D → (D → Prop) → Prop
  | .str x, .str y, Q => Q (.bool (!(!(Builtin.Str.occurrences y x 0 y.length 1).isEmpty)))
  | _, _, _ => False
def fIn : D → D → (D → Prop) → Prop
  | d, .list ds, Q => SeqAt.shaped d = true ∧ SeqAt.shaped (.list ds) = true ∧ Q (.bool (ds.any fun z => PyData.eqv z d))
  | d, .tuple ds, Q => SeqAt.shaped d = true ∧ SeqAt.shaped (.tuple ds) = true ∧ Q (.bool (ds.any fun z => PyData.eqv z d))
  | _, _, _ => False
def fNotIn : D → D → (D → Prop) → Prop
  | d, .list ds, Q => SeqAt.shaped d = true ∧ SeqAt.shaped (.list ds) = true ∧ Q (.bool (!ds.any fun z => PyData.eqv z d))
  | d, .tuple ds, Q => SeqAt.shaped d = true ∧ SeqAt.shaped (.tuple ds) = true ∧ Q (.bool (!ds.any fun z => PyData.eqv z d))
  | _, _, _ => False
/-- x in t -/
def rInTD (K : PySem.W.Frag) : R2 := fun x y H Q => ∃ d ds, Dp K H x d ∧ Dp K H y (.tuple ds) ∧ SeqAt.shaped d = true ∧ SeqAt.shaped (.tuple ds) = true ∧ Q (.bl (ds.any fun z => PyData.eqv z d)) H
def rNotInTD (K : PySem.W.Frag) : R2 := fun x y H Q => ∃ d ds, Dp K H x d ∧ Dp K H y (.tuple ds) ∧ SeqAt.shaped d = true ∧ SeqAt.shaped (.tuple ds) = true ∧ Q (.bl (!ds.any fun z => PyData.eqv z d)) H
theorem op_inTD (hu : X.A.units + 65 < cLine) : OpR X (compareOp .In) (rInTD X.K) := by
  intro pins s σ H x y v u Q I rx ry h
  obtain ⟨d, ds, hd, he, sd, se, q⟩ := h
  obtain ⟨as, r1⟩ := Dp.reads I d x v hd rx
  obtain ⟨bs, r2⟩ := Dp.reads I (.tuple ds) y u he ry
  exact SeqAt.in_tuple_reads r2 r1 (SeqAt.canLay_of_shaped se) (SeqAt.canLay_of_shaped sd) (room_in_shaped sd hu) ⟨.bl _, H, I, rfl, q⟩
theorem op_notInTD (hu : X.A.units + 65 < cLine) : OpR X (compareOp .NotIn) (rNotInTD X.K) := by
  intro pins s σ H x y v u Q I rx ry h
  obtain ⟨d, ds, hd, he, sd, se, q⟩ := h
  obtain ⟨as, r1⟩ := Dp.reads I d x v hd rx
  obtain ⟨bs, r2⟩ := Dp.reads I (.tuple ds) y u he ry
  exact SeqAt.notIn_tuple_reads r2 r1 (SeqAt.canLay_of_shaped se) (SeqAt.canLay_of_shaped sd) (room_in_shaped sd hu) ⟨.bl _, H, I, rfl, q⟩
abbrev rInA (K : PySem.W.Frag) : R2 := fun x y H Q => rInD K x y H Q ∨ rInTD K x y H Q
abbrev rNotInA (K : PySem.W.Frag) : R2 := fun x y H Q => rNotInD K x y H Q ∨ rNotInTD K x y H Q
theorem op_inA (hu : X.A.units + 65 < cLine) : OpR X (compareOp .In) (rInA X.K) := OpR.or (op_inD hu) (op_inTD hu)
theorem op_notInA (hu : X.A.units + 65 < cLine) : OpR X (compareOp .NotIn) (rNotInA X.K) := OpR.or (op_notInD hu) (op_notInTD hu)
theorem r2_in : R2Ok X T .fr (rInA X.K) fIn := by
  intro n F H P σ ρ x y d1 d2 Q QV R v1 v2 hf hq
  unfold fIn at hf
  split at hf
  · obtain ⟨s1, s2, q⟩ := hf
    exact .inl ⟨_, _, v1.dp R.exF, v2.dp R.exF, s1, s2, hq.plain R (.bl _) q⟩
  · obtain ⟨s1, s2, q⟩ := hf
    exact .inr ⟨_, _, v1.dp R.exF, v2.dp R.exF, s1, s2, hq.plain R (.bl _) q⟩
  · exact hf.elim
theorem r2_notIn : R2Ok X T .fr (rNotInA X.K) fNotIn := by
  intro n F H P σ ρ x y d1 d2 Q QV R v1 v2 hf hq
  unfold fNotIn at hf
  split at hf
  · obtain ⟨s1, s2, q⟩ := hf
    exact .inl ⟨_, _, v1.dp R.exF, v2.dp R.exF, s1, s2, hq.plain R (.bl _) q⟩
  · obtain ⟨s1, s2, q⟩ := hf
    exact .inr ⟨_, _, v1.dp R.exF, v2.dp R.exF, s1, s2, hq.plain R (.bl _) q⟩
  · exact hf.elim
theorem r2_inS : R2Ok X T .fr (fun x y H Q => ∃ i j, x = .str i ∧ y = .str j ∧ Q (.bl (!(Builtin.Str.occurrences j i 0 j.length 1).isEmpty)) H) fInS := by
  intro n F H P σ ρ x y d1 d2 Q QV R v1 v2 hf hq
  unfold fInS at hf
  split at hf
  · exact ⟨_, _, v1.str, v2.str, hq.plain R (.bl _) hf⟩
  · exact hf.elim
theorem r2_notInS : R2Ok X T .fr (fun x y H Q => ∃ i j, x = .str i ∧ y = .str j ∧ Q (.bl (!(!(Builtin.Str.occurrences j i 0 j.length 1).isEmpty))) H) fNotInS := by
  intro n F H P σ ρ x y d1 d2 Q QV R v1 v2 hf hq
  unfold fNotInS at hf
  split at hf
  · exact ⟨_, _, v1.str, v2.str, hq.plain R (.bl _) hf⟩
  · exact hf.elim
def isNon : D → Bool
  | .none => true
  | _ => false
def fIsN : D → D → (D → Prop) → Prop
  | d, .none, Q => Q (.bool (isNon d))
  | _, _, _ => False
def fNotN : D → D → (D → Prop) → Prop
  | d, .none, Q => Q (.bool (!isNon d))
  | _, _, _ => False
theorem non_iff {K : PySem.W.Frag} {F H : Hp} {P : Fp} {v : V} {d : D} (h : View K F H P v d) : decide (v = V.non) = isNon d := by
  rcases h with h | ⟨a, e, h, _⟩
  · cases h <;> rfl
  · subst e
    cases d with
    | list ds => rfl
    | _ => exact (show False from h).elim
theorem r2_isN : R2Ok X T .fr (fun x y H Q => y = .non ∧ Q (.bl (decide (x = .non))) H) fIsN := by
  intro n F H P σ ρ x y d1 d2 Q QV R v1 v2 hf hq
  unfold fIsN at hf
  split at hf
  · exact ⟨v2.non, hq.plain R (by rw [non_iff v1]; exact .bl _) hf⟩
  · exact hf.elim
theorem r2_notN : R2Ok X T .fr (fun x y H Q => y = .non ∧ Q (.bl (!decide (x = .non))) H) fNotN := by
  intro n F H P σ ρ x y d1 d2 Q QV R v1 v2 hf hq
  unfold fNotN at hf
  split at hf
  · exact ⟨v2.non, hq.plain R (by rw [non_iff v1]; exact .bl _) hf⟩
  · exact hf.elim

/-! ### built-ins -/
def fLen : List D → (D → Prop) → Prop
  | [.list ds], Q => Q (.int (ds.length : Int))
  | [.tuple ds], Q => Q (.int (ds.length : Int))
  | [.str z], Q => z.length ≤ sizeLine ∧ Q (.int (z.length : Int))
  | _, _ => False
theorem rc_len : RCOk X T .fr (fun xs H Q => ∃ x n, xs = [x] ∧ LenV X.K x H n ∧ Q (.int n) H) fLen := by
  intro n F H P σ ρ xs ds Q QV R vl hf hq
  unfold fLen at hf
  split at hf
  · obtain ⟨v, e, w⟩ := viewL1 vl
    obtain ⟨p, ys, e2, h1, h2⟩ := w.list R.exF
    refine ⟨v, ys.length, e, by rw [e2]; exact .inl ⟨ys, h1, rfl⟩, hq.plain R (.int _) (by rw [dps_len h2]; exact hf)⟩
  · obtain ⟨v, e, w⟩ := viewL1 vl
    obtain ⟨p, ys, e2, h1, h2⟩ := w.tup R.exF
    refine ⟨v, ys.length, e, by rw [e2]; exact .inr ⟨ys, h1, rfl⟩, hq.plain R (.int _) (by rw [dps_len h2]; exact hf)⟩
  · obtain ⟨v, e, w⟩ := viewL1 vl
    exact ⟨v, _, e, by rw [w.str]; exact ⟨hf.1, rfl⟩, hq.plain R (.int _) hf.2⟩
  · exact hf.elim
/-- tuple(x), list(x) of lists and tuples -/
def fTuple : List D → (D → Prop) → Prop
  | [.list ds], Q => Q (.tuple ds)
  | [.tuple ds], Q => Q (.tuple ds)
  | _, _ => False
theorem rc_tuple : RCOk X T .fr (fun xs H Q => ∃ p ys, xs = [.ref p] ∧ ((SqL X.K H p ys ∧ ∀ l, H l = none → Q (.ref l) (upd H l (.tup ys))) ∨ (SqT X.K H p ys ∧ Q (.ref p) H))) fTuple := by
  intro n F H P σ ρ xs ds Q QV R vl hf hq
  unfold fTuple at hf
  split at hf
  · obtain ⟨v, e, w⟩ := viewL1 vl
    obtain ⟨p, ys, e2, h1, h2⟩ := w.list R.exF
    exact ⟨p, ys, by rw [e, e2], .inl ⟨h1, fun l hl => hq.tup R h2 hf hl⟩⟩
  · obtain ⟨v, e, w⟩ := viewL1 vl
    obtain ⟨p, ys, e2, h1, h2⟩ := w.tup R.exF
    subst e2
    exact ⟨p, ys, e, .inr ⟨h1, hq.plain R (w.frozen (fun _ => by simp)) hf⟩⟩
  · exact hf.elim
def fList : List D → (D → Prop) → Prop
  | [.list ds], Q => Q (.list ds)
  | [.tuple ds], Q => Q (.list ds)
  | _, _ => False
theorem rc_list : RCOk X T .nw (fun xs H Q => ∃ p ys, xs = [.ref p] ∧ (SqL X.K H p ys ∨ SqT X.K H p ys) ∧ ∀ l, H l = none → Q (.ref l) (upd H l (.lst ys))) fList := by
  intro n F H P σ ρ xs ds Q QV R vl hf hq
  unfold fList at hf
  split at hf
  · obtain ⟨v, e, w⟩ := viewL1 vl
    obtain ⟨p, ys, e2, h1, h2⟩ := w.list R.exF
    exact ⟨p, ys, by rw [e, e2], .inl h1, fun l hl => hq.lst R h2 hf hl⟩
  · obtain ⟨v, e, w⟩ := viewL1 vl
    obtain ⟨p, ys, e2, h1, h2⟩ := w.tup R.exF
    exact ⟨p, ys, by rw [e, e2], .inr h1, fun l hl => hq.lst R h2 hf hl⟩
  · exact hf.elim
def fIntOf : List D → (D → Prop) → Prop
  | [.int i], Q => Q (.int i)
  | [.bool b], Q => Q (.int (if b then 1 else 0))
  | _, _ => False
theorem rc_int : RCOk X T .fr (fun xs H Q => (∃ i, xs = [.int i] ∧ Q (.int i) H) ∨ ∃ k, xs = [.bl k] ∧ Q (.int (if k then 1 else 0)) H) fIntOf := by
  intro n F H P σ ρ xs ds Q QV R vl hf hq
  unfold fIntOf at hf
  split at hf
  · obtain ⟨v, e, w⟩ := viewL1 vl
    exact .inl ⟨_, by rw [e, w.int], hq.plain R (.int _) hf⟩
  · obtain ⟨v, e, w⟩ := viewL1 vl
    exact .inr ⟨_, by rw [e, w.bl], hq.plain R (.int _) hf⟩
  · exact hf.elim
def fBoolOf : List D → (D → Prop) → Prop
  | [.int i], Q => Q (.bool (i != 0))
  | [.bool b], Q => Q (.bool b)
  | _, _ => False
theorem rc_bool : RCOk X T .fr (fun xs H Q => (∃ i, xs = [.int i] ∧ Q (.bl (i != 0)) H) ∨ ∃ k, xs = [.bl k] ∧ Q (.bl k) H) fBoolOf := by
  intro n F H P σ ρ xs ds Q QV R vl hf hq
  unfold fBoolOf at hf
  split at hf
  · obtain ⟨v, e, w⟩ := viewL1 vl
    exact .inl ⟨_, by rw [e, w.int], hq.plain R (.bl _) hf⟩
  · obtain ⟨v, e, w⟩ := viewL1 vl
    exact .inr ⟨_, by rw [e, w.bl], hq.plain R (.bl _) hf⟩
  · exact hf.elim
def fStrOf : List D → (D → Prop) → Prop
  | [.int i], Q => i.natAbs.log2 < 1920 ∧ Q (.str (toString i))
  | _, _ => False
theorem rc_str : RCOk X T .fr (fun xs H Q => ∃ i, xs = [.int i] ∧ i.natAbs.log2 < 1920 ∧ Q (.str (toString i)) H) fStrOf := by
  intro n F H P σ ρ xs ds Q QV R vl hf hq
  unfold fStrOf at hf
  split at hf
  · obtain ⟨v, e, w⟩ := viewL1 vl
    exact ⟨_, by rw [e, w.int], hf.1, hq.plain R (.str _) hf.2⟩
  · exact hf.elim
def fAbs : List D → (D → Prop) → Prop
  | [.int i], Q => Q (.int (if i < 0 then -i else i))
  | _, _ => False
theorem rc_abs : RCOk X T .fr (fun xs H Q => ∃ i, xs = [.int i] ∧ Q (.int (if i < 0 then -i else i)) H) fAbs := by
  intro n F H P σ ρ xs ds Q QV R vl hf hq
  unfold fAbs at hf
  split at hf
  · obtain ⟨v, e, w⟩ := viewL1 vl
    exact ⟨_, by rw [e, w.int], hq.plain R (.int _) hf⟩
  · exact hf.elim
def fMax2 : List D → (D → Prop) → Prop
  | [.int i, .int j], Q => Q (.int (if j > i then j else i))
  | _, _ => False
def fMin2 : List D → (D → Prop) → Prop
  | [.int i, .int j], Q => Q (.int (if j < i then j else i))
  | _, _ => False
theorem rc_max2 : RCOk X T .fr (fun xs H Q => ∃ i j, xs = [.int i, .int j] ∧ Q (.int (if j > i then j else i)) H) fMax2 := by
  intro n F H P σ ρ xs ds Q QV R vl hf hq
  unfold fMax2 at hf
  split at hf
  · obtain ⟨v, w, e, r1, r2⟩ := viewL2 vl
    exact ⟨_, _, by rw [e, r1.int, r2.int], hq.plain R (.int _) hf⟩
  · exact hf.elim
theorem rc_min2 : RCOk X T .fr (fun xs H Q => ∃ i j, xs = [.int i, .int j] ∧ Q (.int (if j < i then j else i)) H) fMin2 := by
  intro n F H P σ ρ xs ds Q QV R vl hf hq
  unfold fMin2 at hf
  split at hf
  · obtain ⟨v, w, e, r1, r2⟩ := viewL2 vl
    exact ⟨_, _, by rw [e, r1.int, r2.int], hq.plain R (.int _) hf⟩
  · exact hf.elim
/-- lists of bools, of ints -/
theorem dps_bools {K : PySem.W.Frag} {F : Hp} : ∀ {bs : List Bool} {vs : List V}, DpAll K F vs (bs.map .bool) → vs = bs.map V.bl
  | [], _, .nil => rfl
  | b :: bs, _, .cons h r => by
    cases h
    rw [dps_bools r]; rfl
theorem dps_ints {K : PySem.W.Frag} {F : Hp} : ∀ {bs : List Int} {vs : List V}, DpAll K F vs (bs.map .int) → vs = bs.map V.int
  | [], _, .nil => rfl
  | b :: bs, _, .cons h r => by
    cases h
    rw [dps_ints r]; rfl
def fAll (ds : List D) (Q : D → Prop) : Prop := ∃ bs : List Bool, ds = [.list (bs.map .bool)] ∧ Q (.bool (bs.all id))
def fAny (ds : List D) (Q : D → Prop) : Prop := ∃ bs : List Bool, ds = [.list (bs.map .bool)] ∧ Q (.bool (bs.any id))
def fSum (ds : List D) (Q : D → Prop) : Prop := ∃ bs : List Int, ds = [.list (bs.map .int)] ∧ Q (.int bs.sum)
def fMaxL (ds : List D) (Q : D → Prop) : Prop := ∃ bs : List Int, ds = [.list (bs.map .int)] ∧ 0 < bs.length ∧ ∀ m, m ∈ bs → (∀ y, y ∈ bs → y ≤ m) → Q (.int m)
def fMinL (ds : List D) (Q : D → Prop) : Prop := ∃ bs : List Int, ds = [.list (bs.map .int)] ∧ 0 < bs.length ∧ ∀ m, m ∈ bs → (∀ y, y ∈ bs → m ≤ y) → Q (.int m)
theorem rc_all : RCOk X T .fr (rAll X.K) fAll := by
  intro n F H P σ ρ xs ds Q QV R vl ⟨bs, e, q⟩ hq
  subst e
  obtain ⟨v, e, w⟩ := viewL1 vl
  obtain ⟨p, ys, e2, h1, h2⟩ := w.list R.exF
  rw [dps_bools h2] at h1
  exact ⟨p, bs, by rw [e, e2], h1, hq.plain R (.bl _) q⟩
theorem rc_any : RCOk X T .fr (rAny X.K) fAny := by
  intro n F H P σ ρ xs ds Q QV R vl ⟨bs, e, q⟩ hq
  subst e
  obtain ⟨v, e, w⟩ := viewL1 vl
  obtain ⟨p, ys, e2, h1, h2⟩ := w.list R.exF
  rw [dps_bools h2] at h1
  exact ⟨p, bs, by rw [e, e2], h1, hq.plain R (.bl _) q⟩
theorem rc_sum : RCOk X T .fr (rSum X.K) fSum := by
  intro n F H P σ ρ xs ds Q QV R vl ⟨bs, e, q⟩ hq
  subst e
  obtain ⟨v, e, w⟩ := viewL1 vl
  obtain ⟨p, ys, e2, h1, h2⟩ := w.list R.exF
  rw [dps_ints h2] at h1
  exact ⟨p, bs, by rw [e, e2], h1, hq.plain R (.int _) q⟩
theorem rc_maxL : RCOk X T .fr (rMax X.K) fMaxL := by
  intro n F H P σ ρ xs ds Q QV R vl ⟨bs, e, hl, q⟩ hq
  subst e
  obtain ⟨v, e, w⟩ := viewL1 vl
  obtain ⟨p, ys, e2, h1, h2⟩ := w.list R.exF
  rw [dps_ints h2] at h1
  exact ⟨p, bs, by rw [e, e2], h1, hl, fun m h3 h4 => hq.plain R (.int _) (q m h3 h4)⟩
theorem rc_minL : RCOk X T .fr (rMin X.K) fMinL := by
  intro n F H P σ ρ xs ds Q QV R vl ⟨bs, e, hl, q⟩ hq
  subst e
  obtain ⟨v, e, w⟩ := viewL1 vl
  obtain ⟨p, ys, e2, h1, h2⟩ := w.list R.exF
  rw [dps_ints h2] at h1
  exact ⟨p, bs, by rw [e, e2], h1, hl, fun m h3 h4 => hq.plain R (.int _) (q m h3 h4)⟩

/-! ### isinstance(x, T) -/
def tyOf : D → String
  | .none => "NoneType"
  | .bool _ => "bool"
  | .int _ => "int"
  | .str _ => "str"
  | .list _ => "list"
  | .tuple _ => "tuple"
  | .dict _ => "dict"
def isTn (t n : String) : Bool := n == t || (t == "int" && n == "bool")
def isA (t : String) (d : D) : Bool := isTn t (tyOf d)
end
end Dt

set_option maxRecDepth 100000
set_option maxHeartbeats 4000000
namespace Dt
open PySem PySem.Spec PyProof.Rows L2

/-! ### what is walked -/
def rkm : Bool → RK
  | true => .st
  | false => .vw
def Later (T : Tape) (n : En) (m : Bool) (F1 H1 : Hp) (P1 : Fp) (F2 H2 : Hp) (P2 : Fp) : Prop := match m with
  | false => Step T F1 H1 P1 F2 H2 P2
  | true => Ex F1 F2 ∧ Ex F2 H2 ∧ ∀ a o, n.H0 a = some o → ¬ n.P0 a → H2 a = some o
theorem Later.grow {T : Tape} {n : En} {m : Bool} {F1 H1 F2 H2 : Hp} {P1 P2 : Fp} (h : Later T n m F1 H1 P1 F2 H2 P2) : Ex F1 F2 := by
  cases m with
  | false => exact Step.grow h
  | true => exact h.1
theorem Later.exF {T : Tape} {n : En} {m : Bool} {F1 H1 F2 H2 : Hp} {P1 P2 : Fp} (h : Later T n m F1 H1 P1 F2 H2 P2) : Ex F2 H2 := by
  cases m with
  | false => exact Step.exF h
  | true => exact h.2.1
theorem src_list {K : PySem.W.Frag} {T : Tape} {n : En} {m : Bool} {Hs F1 H1 : Hp} {P1 : Fp} {v : V} {ds : List D} (h : Res K T n (rkm m) Hs F1 H1 P1 v (.list ds)) :
    ∃ p xs, v = .ref p ∧ DpAll K F1 xs ds ∧ ∀ F2 H2 P2, Later T n m F1 H1 P1 F2 H2 P2 → SqL K H2 p xs := by
  cases m with
  | false =>
    rcases h with h | ⟨a, e, h, hp⟩
    · cases h with
      | lst h r => exact ⟨_, _, rfl, r, fun F2 H2 P2 l => ex_l (l.grow.trans l.exF) h⟩
    · obtain ⟨xs, h1, h2⟩ := h
      exact ⟨a, xs, e, h2, fun F2 H2 P2 l => SqL.of (Step.keep l a _ h1 hp)⟩
  | true =>
    rcases h with h | ⟨a, e, h, hp⟩
    · cases h with
      | lst h r => exact ⟨_, _, rfl, r, fun F2 H2 P2 l => ex_l (l.grow.trans l.exF) h⟩
    · obtain ⟨xs, h1, h2⟩ := h
      exact ⟨a, xs, e, h2, fun F2 H2 P2 l => SqL.of (l.2.2 a _ h1 hp)⟩
theorem src_tup {K : PySem.W.Frag} {T : Tape} {n : En} {m : Bool} {Hs F1 H1 : Hp} {P1 : Fp} {v : V} {ds : List D} (h : Res K T n (rkm m) Hs F1 H1 P1 v (.tuple ds)) :
    ∃ p xs, v = .ref p ∧ DpAll K F1 xs ds ∧ ∀ F2 H2 P2, Later T n m F1 H1 P1 F2 H2 P2 → SqT K H2 p xs := by
  have q : Dp K F1 v (.tuple ds) := by
    cases m with
    | false =>
      rcases h with h | ⟨a, e, h, hp⟩
      · exact h
      · exact (show False from h).elim
    | true =>
      rcases h with h | ⟨a, e, h, hp⟩
      · exact h
      · exact (show False from h).elim
  cases q with
  | tup h' r => exact ⟨_, _, rfl, r, fun F2 H2 P2 l => ex_t (l.grow.trans l.exF) h'⟩
/-- J gives ds, as long as the heap is Later -/
structure WalkD (K : PySem.W.Frag) (T : Tape) (n : En) (m : Bool) (J : It) (ds : List D) (F1 H1 : Hp) (P1 : Fp) : Prop where
  ex : ∃ G Y, Walk J ds.length G Y ∧ (∀ F2 H2 P2, Later T n m F1 H1 P1 F2 H2 P2 → G H2) ∧
    ∀ i F2 H2 P2 x H3, Later T n m F1 H1 P1 F2 H2 P2 → Step T F2 H2 P2 F2 H2 P2 → i < ds.length → Y i H2 x H3 → ∃ F3 d, Step T F2 H2 P2 F3 H3 P2 ∧ ds[i]? = some d ∧ Dp K F3 x d
abbrev DI := Env → (List D → Prop) → (Exn → Prop) → Prop
structure PIx (X : Cx) (T : Tape) (W : WX) (m : Bool) (tg iter : Expr) (I : DI) : Prop where
  ex : ∃ wi, PI X tg iter wi ∧ ∀ n F H P σ ρ (Q : List D → Prop) (Qx : Exn → Prop) (R : It → Hp → Prop), Rel X.K T n F H P σ ρ → I ρ Q Qx →
    (∀ J ds F1 H1 P1, Step T F H P F1 H1 P1 → WalkD X.K T n m J ds F1 H1 P1 → ds.length ≤ sizeLine → Q ds → R J H1) → XOk X T W F H P σ Qx → wi σ H R

section
variable {X : Cx} {T : Tape} {W : WX} {m : Bool} {tg e e2 : Expr} {E E2 Ea Eb : DE} {A : DA} {pos p : Pos}
def iSeq (K : PySem.W.Frag) (tl : TE) : TI := fun σ H R => tl σ H fun x H1 => ∃ a, x = .ref a ∧ ((∃ xs, SqL K H1 a xs ∧ (xs.length ≤ sizeLine → R (Itl K a) H1)) ∨ (∃ xs, SqT K H1 a xs ∧ (xs.length ≤ sizeLine → R (Itt K a) H1)))
theorem pi_seq {l : Expr} {tl : TE} (hl : PE X l tl) : PI X tg l (iSeq X.K tl) := by
  refine ⟨fun pins s σ H R I h => ?_⟩
  refine thn (hl.run pins s σ H _ I h) fun v s1 ⟨x, H1, I1, rx, a, ex, q⟩ => ?_
  subst ex
  cases rx
  rcases q with ⟨xs, hq, q⟩ | ⟨xs, hq, q⟩
  · obtain ⟨its, rv, p, hz⟩ := I1.list hq
    refine wpAny_pyIter_list p.isList ?_
    refine ⟨s1.heap.objs.size, [s1.heap.objs.size], _, _, H1, rfl, I1.kept (t' := s1.toks) fun b o e => Heap.get?_push_of_some _ e, turn_list a _, ⟨_, Heap.get?_push_size _ rfl, rfl, rfl⟩, fun b hb => ?_, q hz⟩
    have e : b = s1.heap.objs.size := by simpa using hb
    subst e
    exact I1.fpOk (Nat.le_refl _) (I1.hok.fresh (Nat.le_refl _))
  · obtain ⟨its, rv, p, hz⟩ := I1.tuple hq
    refine wpAny_pyIter_tuple (show s1.heap.IsTuple a its.toArray from p) ?_
    refine ⟨s1.heap.objs.size, [s1.heap.objs.size], _, _, H1, rfl, I1.kept (t' := s1.toks) fun b o e => Heap.get?_push_of_some _ e, turn_tuple a _, ⟨_, Heap.get?_push_size _ rfl, rfl, rfl⟩, fun b hb => ?_, q hz⟩
    have e : b = s1.heap.objs.size := by simpa using hb
    subst e
    exact I1.fpOk (Nat.le_refl _) (I1.hok.fresh (Nat.le_refl _))
def fSeq (Q : List D → Prop) : D → Prop
  | .list ds => Q ds
  | .tuple ds => Q ds
  | _ => False
def xSeq (E : DE) : DI := fun ρ Q Qx => E ρ (fSeq Q) Qx
theorem walkD_list {K : PySem.W.Frag} {n : En} {ds : List D} {xs : List V} {a : Addr} {F1 H1 : Hp} {P1 : Fp} (r : DpAll K F1 xs ds) (h : ∀ F2 H2 P2, Later T n m F1 H1 P1 F2 H2 P2 → SqL K H2 a xs) : WalkD K T n m (Itl K a) ds F1 H1 P1 := by
  refine ⟨_, _, (by rw [← dps_len r]; exact walk_list), h, fun i F2 H2 P2 x H3 l st hi y => ?_⟩
  obtain ⟨e, y⟩ := y
  subst e
  obtain ⟨d, q1, q2⟩ := dps_getV (dps_ex l.grow r) y
  exact ⟨F2, d, st, q1, q2⟩
theorem walkD_tup {K : PySem.W.Frag} {n : En} {ds : List D} {xs : List V} {a : Addr} {F1 H1 : Hp} {P1 : Fp} (r : DpAll K F1 xs ds) (h : ∀ F2 H2 P2, Later T n m F1 H1 P1 F2 H2 P2 → SqT K H2 a xs) : WalkD K T n m (Itt K a) ds F1 H1 P1 := by
  refine ⟨_, _, (by rw [← dps_len r]; exact walk_tup), h, fun i F2 H2 P2 x H3 l st hi y => ?_⟩
  obtain ⟨e, y⟩ := y
  subst e
  obtain ⟨d, q1, q2⟩ := dps_getV (dps_ex l.grow r) y
  exact ⟨F2, d, st, q1, q2⟩
theorem Later.self {n : En} {F H F1 H1 : Hp} {P P1 : Fp} {σ : L2.St} {ρ : Env} (R : Rel X.K T n F H P σ ρ) (st : Step T F H P F1 H1 P1) : Later T n m F1 H1 P1 F1 H1 P1 := by
  cases m with
  | false => exact st.refl2
  | true => exact ⟨Ex.refl _, st.exF, (R.step st).keep⟩
theorem pix_seq (h : PX X T W (rkm m) e E) : PIx X T W m tg e (xSeq E) := by
  obtain ⟨t, ht, hs⟩ := h.ex
  refine ⟨_, pi_seq ht, fun n F H P σ ρ Q Qx R Rl hE hq hx => ?_⟩
  refine hs n F H P σ ρ _ Qx _ Rl hE (fun v d F1 H1 P1 st1 r1 q => ?_) hx
  cases d with
  | list ds =>
    obtain ⟨p, xs, e, r, l⟩ := src_list r1
    refine ⟨p, e, .inl ⟨xs, l _ _ _ (Later.self Rl st1), fun hz => hq _ ds F1 H1 P1 st1 (walkD_list r l) (by rw [← dps_len r]; exact hz) q⟩⟩
  | tuple ds =>
    obtain ⟨p, xs, e, r, l⟩ := src_tup r1
    refine ⟨p, e, .inr ⟨xs, l _ _ _ (Later.self Rl st1), fun hz => hq _ ds F1 H1 P1 st1 (walkD_tup r l) (by rw [← dps_len r]; exact hz) q⟩⟩
  | _ => exact (show False from q).elim
/-! range -/
def rngD (lo : Int) (n : Nat) : List D := (List.range n).map fun i => .int (lo + (i : Nat))
theorem rngD_len (lo : Int) (n : Nat) : (rngD lo n).length = n := by simp [rngD]
theorem walkD_range {K : PySem.W.Frag} {n : En} {lo : Int} {k : Nat} {F1 H1 : Hp} {P1 : Fp} : WalkD K T n m (Itr lo k) (rngD lo k) F1 H1 P1 := by
  refine ⟨_, _, (by rw [rngD_len]; exact walk_range), fun _ _ _ _ => trivial, fun i F2 H2 P2 x H3 l st hi y => ?_⟩
  obtain ⟨e, y⟩ := y
  subst e y
  rw [rngD_len] at hi
  exact ⟨F2, .int (lo + (i : Nat)), st, by simp [rngD, hi], .int _⟩
def fRng1 (Q : List D → Prop) : List D → Prop
  | [.int j] => j ≤ 1000000 ∧ -1000000 ≤ j ∧ Q (rngD 0 j.toNat)
  | _ => False
def fRng2 (Q : List D → Prop) : List D → Prop
  | [.int i, .int j] => (-1000000 ≤ i ∧ i ≤ 1000000 ∧ -1000000 ≤ j ∧ j ≤ 1000000) ∧ Q (rngD i (j - i).toNat)
  | _ => False
def xRng1 (A : DA) : DI := fun ρ Q Qx => A ρ (fRng1 Q) Qx
def xRng2 (A : DA) : DI := fun ρ Q Qx => A ρ (fRng2 Q) Qx
theorem mil_le {n : Nat} (h : n ≤ 10000000) : n ≤ sizeLine := Nat.le_trans h (by decide)
theorem pix_range1 {a : Expr} (hg : Gl X "range") (hm : X.mg "range" = none) (ha : PAx X T W [.vw] [a] A) (hs : starEach [a] X.env = [(false, eval a X.env)] := by rfl) : PIx X T W m tg (.Call (.Name "range" p) [a] [] pos) (xRng1 A) := by
  obtain ⟨t, ht, h1⟩ := ha.ex
  refine ⟨_, pi_range1 hg hm ht hs, fun n F H P σ ρ Q Qx R Rl hE hq hx => ?_⟩
  refine h1 n F H P σ ρ _ Qx _ Rl hE (fun vs ds F1 H1 P1 st1 r1 q => ?_) hx
  have v1 := resL_vw (ks := [.vw]) ⟨rfl, trivial⟩ r1
  unfold fRng1 at q
  split at q
  · rename_i j
    obtain ⟨v, e, w⟩ := viewL1 v1
    obtain ⟨q1, q2, q3⟩ := q
    refine ⟨j, by rw [e, w.int], by omega, by omega, hq _ _ F1 H1 P1 st1 walkD_range (mil_le (by rw [rngD_len]; omega)) q3⟩
  · exact q.elim
theorem pix_range2 {a b : Expr} (hg : Gl X "range") (hm : X.mg "range" = none) (ha : PAx X T W [.vw, .vw] [a, b] A) (hs : starEach [a, b] X.env = [(false, eval a X.env), (false, eval b X.env)] := by rfl) (hs2 : starEach [b] X.env = [(false, eval b X.env)] := by rfl) : PIx X T W m tg (.Call (.Name "range" p) [a, b] [] pos) (xRng2 A) := by
  obtain ⟨t, ht, h1⟩ := ha.ex
  refine ⟨_, pi_range2 hg hm ht hs hs2, fun n F H P σ ρ Q Qx R Rl hE hq hx => ?_⟩
  refine h1 n F H P σ ρ _ Qx _ Rl hE (fun vs ds F1 H1 P1 st1 r1 q => ?_) hx
  have v1 := resL_vw (ks := [.vw, .vw]) ⟨rfl, rfl, trivial⟩ r1
  unfold fRng2 at q
  split at q
  · rename_i i j
    obtain ⟨v, w, e, w1, w2⟩ := viewL2 v1
    obtain ⟨q1, q3⟩ := q
    refine ⟨i, j, by rw [e, w1.int, w2.int], by omega, hq _ _ F1 H1 P1 st1 walkD_range (mil_le (by rw [rngD_len]; omega)) q3⟩
  · exact q.elim
end

/-! ### targets -/
abbrev DG := D → Env → (Env → Prop) → Prop
abbrev DGs := List D → Env → (Env → Prop) → Prop
def dgN (i : Nat) : DG := fun d ρ Q => Q (ρ.put i (.fr d))
def dgT (k : Nat) (g : DGs) : DG := fun d ρ Q => match d with | .tuple ds => ds.length = k ∧ g ds ρ Q | _ => False
def dgNil : DGs := fun ds ρ Q => match ds with | [] => Q ρ | _ => False
def dgCons (g : DG) (gs : DGs) : DGs := fun ds ρ Q => match ds with | d :: r => g d ρ (fun ρ1 => gs r ρ1 Q) | [] => False
theorem wipe_set_ne {σ : L2.St} {j : Nat} {x : Option V} : ∀ {vs : List Nat}, j ∉ vs → wipe (σ.set j x) vs = (wipe σ vs).set j x
  | [], _ => rfl
  | v :: vs, h => by
    have h1 : j ≠ v := fun e => h (by rw [e]; exact List.mem_cons_self)
    have h2 : j ∉ vs := fun e => h (List.mem_cons_of_mem _ e)
    unfold wipe
    rw [wipe_set_ne h2, List.set_comm _ _ h1]
theorem wipe_set {σ : L2.St} {j : Nat} {x : Option V} : ∀ {vs : List Nat}, j ∈ vs → wipe (σ.set j x) vs = wipe σ vs
  | [], h => by cases h
  | v :: vs, h => by
    unfold wipe
    by_cases hj : j ∈ vs
    · rw [wipe_set hj]
    · have e : j = v := by
        rcases List.mem_cons.mp h with e | e
        · exact e
        · exact absurd e hj
      rw [wipe_set_ne hj, e, List.set_set]
section
variable {K : PySem.W.Frag} {T : Tape} {n : En} {F H : Hp} {P : Fp} {σ : L2.St} {ρ : Env}
theorem get_set {α : Type} (l : List α) (i j : Nat) (a : α) : (l.set i a)[j]? = if i = j ∧ j < l.length then some a else l[j]? := by
  by_cases h : i = j
  · subst h
    by_cases hl : i < l.length
    · rw [List.getElem?_set_self hl, if_pos ⟨rfl, hl⟩]
    · rw [if_neg (fun z => hl z.2), List.getElem?_eq_none (by simpa using hl), List.getElem?_eq_none (by simpa using hl)]
  · rw [List.getElem?_set_ne h, if_neg (fun z => h z.1)]
/-- a slot gets a value that is not owned -/
theorem Rel.put (R : Rel K T n F H P σ ρ) {i : Nat} {v : V} {s : Sl} (hs : SlOk K T n F H P (some v) s) (hn : ∀ d, s ≠ .ow d) : Rel K T n F H P (σ.set i (some v)) (ρ.put i s) := by
  refine { R with len := by simp [R.len], slot := fun j sl e => ?_, sep := fun (j k : Nat) a d d' e1 e2 e3 e4 => ?_ }
  · have e : (ρ.set i s)[j]? = some sl := e
    rw [get_set] at e ⊢
    by_cases h : i = j ∧ j < ρ.length
    · rw [if_pos h] at e
      cases e
      rw [if_pos ⟨h.1, by rw [R.len]; exact h.2⟩]
      exact hs
    · rw [if_neg h] at e
      rw [if_neg (by rw [R.len]; exact h)]
      exact R.slot j sl e
  · have e1 : (ρ.set i s)[j]? = some (.ow d) := e1
    have e2 : (ρ.set i s)[k]? = some (.ow d') := e2
    have key : ∀ (j : Nat) (d : D), (ρ.set i s)[j]? = some (.ow d) → ρ[j]? = some (.ow d) ∧ (σ.set i (some v))[j]? = σ[j]? := fun j d e => by
      rw [get_set] at e ⊢
      by_cases h : i = j ∧ j < ρ.length
      · rw [if_pos h] at e
        cases e
        exact absurd rfl (hn d)
      · rw [if_neg h] at e
        rw [if_neg (by rw [R.len]; exact h)]
        exact ⟨e, rfl⟩
    obtain ⟨k1, k2⟩ := key j d e1
    obtain ⟨l1, l2⟩ := key k d' e2
    rw [k2] at e3
    rw [l2] at e4
    exact R.sep j k a d d' k1 l1 e3 e4
/-- a slot gets a new list -/
theorem Rel.putO (R : Rel K T n F H P σ ρ) {i : Nat} {a : Addr} {d : D} (hs : SlOk K T n F H P (some (.ref a)) (.ow d)) (hf : ∀ (j : Nat) d', j ≠ i → ρ[j]? = some (.ow d') → σ[j]? ≠ some (some (.ref a))) : Rel K T n F H P (σ.set i (some (.ref a))) (ρ.put i (.ow d)) := by
  refine { R with len := by simp [R.len], slot := fun j sl e => ?_, sep := fun (j k : Nat) b d1 d2 e1 e2 e3 e4 => ?_ }
  · have e : (ρ.set i (.ow d))[j]? = some sl := e
    rw [get_set] at e ⊢
    by_cases h : i = j ∧ j < ρ.length
    · rw [if_pos h] at e
      cases e
      rw [if_pos ⟨h.1, by rw [R.len]; exact h.2⟩]
      exact hs
    · rw [if_neg h] at e
      rw [if_neg (by rw [R.len]; exact h)]
      exact R.slot j sl e
  · have e1 : (ρ.set i (.ow d))[j]? = some (.ow d1) := e1
    have e2 : (ρ.set i (.ow d))[k]? = some (.ow d2) := e2
    have key : ∀ (j : Nat) (d1 : D), (ρ.set i (.ow d))[j]? = some (.ow d1) → (σ.set i (some (.ref a)))[j]? = some (some (.ref b)) → (j = i ∧ b = a) ∨ (j ≠ i ∧ ρ[j]? = some (.ow d1) ∧ σ[j]? = some (some (.ref b))) := fun j d1 e e' => by
      rw [get_set] at e e'
      by_cases h : i = j ∧ j < ρ.length
      · rw [if_pos ⟨h.1, by rw [R.len]; exact h.2⟩] at e'
        cases e'
        exact .inl ⟨h.1.symm, rfl⟩
      · rw [if_neg h] at e
        rw [if_neg (by rw [R.len]; exact h)] at e'
        refine .inr ⟨fun z => ?_, e, e'⟩
        subst z
        have : j < ρ.length := (List.getElem?_eq_some_iff.mp e).1
        exact h ⟨rfl, this⟩
    rcases key j d1 e1 e3 with ⟨q1, q2⟩ | ⟨q1, q2, q3⟩
    · rcases key k d2 e2 e4 with ⟨z1, z2⟩ | ⟨z1, z2, z3⟩
      · rw [q1, z1]
      · subst q2
        exact absurd z3 (hf k d2 z1 z2)
    · rcases key k d2 e2 e4 with ⟨z1, z2⟩ | ⟨z1, z2, z3⟩
      · subst z2
        exact absurd q3 (hf j d1 q1 q2)
      · exact R.sep j k b d1 d2 q2 z2 q3 z3
def wipeR (ρ : Env) : List Nat → Env
  | [] => ρ
  | v :: vs => (wipeR ρ vs).put v .un
theorem Rel.unslot (R : Rel K T n F H P σ ρ) (i : Nat) : Rel K T n F H P (σ.set i none) (ρ.put i .un) := by
  refine { R with len := by simp [R.len], slot := fun j sl e => ?_, sep := fun (j k : Nat) b d1 d2 e1 e2 e3 e4 => ?_ }
  · have e : (ρ.set i .un)[j]? = some sl := e
    rw [get_set] at e ⊢
    by_cases h : i = j ∧ j < ρ.length
    · rw [if_pos h] at e
      cases e
      trivial
    · rw [if_neg h] at e
      rw [if_neg (by rw [R.len]; exact h)]
      exact R.slot j sl e
  · have key : ∀ (j : Nat) (d1 : D), (ρ.set i .un)[j]? = some (.ow d1) → ρ[j]? = some (.ow d1) ∧ (σ.set i none)[j]? = σ[j]? := fun j d1 e => by
      rw [get_set] at e ⊢
      by_cases h : i = j ∧ j < ρ.length
      · rw [if_pos h] at e; cases e
      · rw [if_neg h] at e
        rw [if_neg (by rw [R.len]; exact h)]
        exact ⟨e, rfl⟩
    obtain ⟨k1, k2⟩ := key j d1 e1
    obtain ⟨l1, l2⟩ := key k d2 e2
    rw [k2] at e3
    rw [l2] at e4
    exact R.sep j k b d1 d2 k1 l1 e3 e4
theorem Rel.wipe (R : Rel K T n F H P σ ρ) : ∀ vs : List Nat, Rel K T n F H P (L2.wipe σ vs) (wipeR ρ vs)
  | [] => R
  | v :: vs => (Rel.wipe R vs).unslot v
end
/-- what a target's store leaves as it was -/
structure Sto (js : List Nat) (σ : L2.St) (ρ : Env) (σ' : L2.St) (ρ' : Env) : Prop where
  wipe : ∀ vs : List Nat, (∀ j ∈ js, j ∈ vs) → L2.wipe σ' vs = L2.wipe σ vs
  ow : ∀ (j : Nat) (d : D), ρ'[j]? = some (.ow d) → ρ[j]? = some (.ow d) ∧ σ'[j]? = σ[j]?
structure PGx (X : Cx) (T : Tape) (js : List Nat) (tg : Expr) (g : DG) : Prop where
  ex : ∃ t, PG X tg t ∧ ∀ n F H P σ ρ v d (Q : Env → Prop) (QS : L2.St → Hp → Prop), Rel X.K T n F H P σ ρ → Dp X.K F v d → g d ρ Q →
    (∀ σ' ρ', Rel X.K T n F H P σ' ρ' → Sto js σ ρ σ' ρ' → Q ρ' → QS σ' H) → t v σ H QS
structure PGsx (X : Cx) (T : Tape) (js : List Nat) (ts : List Expr) (g : DGs) : Prop where
  ex : ∃ t, PGs X ts t ∧ ∀ n F H P σ ρ vs ds (Q : Env → Prop) (QS : L2.St → Hp → Prop), Rel X.K T n F H P σ ρ → DpAll X.K F vs ds → g ds ρ Q →
    (∀ σ' ρ', Rel X.K T n F H P σ' ρ' → Sto js σ ρ σ' ρ' → Q ρ' → QS σ' H) → t vs σ H QS
section
variable {X : Cx} {T : Tape} {W : WX} {js ks : List Nat} {e : Expr} {es : List Expr} {g : DG} {gs : DGs} {pos : Pos} {k : Nat}
theorem pgx_n (i : Nat) (h : PG X e (gName i)) : PGx X T [i] e (dgN i) := ⟨_, h, fun n F H P σ ρ v d Q QS R hd hg hq =>
  hq _ _ (R.put (s := .fr d) ⟨v, rfl, hd⟩ (fun _ => by simp)) ⟨fun vs hv => wipe_set (hv i (by simp)), fun j d' e => by
    have e : (ρ.set i (.fr d))[j]? = some (.ow d') := e
    rw [get_set] at e
    by_cases h1 : i = j ∧ j < ρ.length
    · rw [if_pos h1] at e; cases e
    · rw [if_neg h1] at e
      have hj := (List.getElem?_eq_some_iff.mp e).1
      refine ⟨e, ?_⟩
      rw [get_set, if_neg]
      intro z
      exact h1 ⟨z.1, hj⟩⟩ hg⟩
theorem pgsx_nil : PGsx X T [] [] dgNil := ⟨_, pgs_nil, fun n F H P σ ρ vs ds Q QS R hd hg hq => by
  cases hd with
  | nil => exact ⟨rfl, hq σ ρ R ⟨fun _ _ => rfl, fun _ _ e => ⟨e, rfl⟩⟩ hg⟩
  | cons _ _ => exact (show False from hg).elim⟩
theorem pgsx_cons (h : PGx X T js e g) (hs : PGsx X T ks es gs) (hst : (assignEach (e :: es) X.env).map (·.2) = assign e X.env :: (assignEach es X.env).map (·.2) := by rfl) : PGsx X T (js ++ ks) (e :: es) (dgCons g gs) := by
  obtain ⟨t, ht, h1⟩ := h.ex
  obtain ⟨u, hu, h2⟩ := hs.ex
  refine ⟨_, pgs_cons ht hu hst, fun n F H P σ ρ vs ds Q QS R hd hg hq => ?_⟩
  cases hd with
  | nil => exact (show False from hg).elim
  | cons hd1 hd2 =>
    refine ⟨_, _, rfl, h1 n F H P σ ρ _ _ _ _ R hd1 hg fun σ1 ρ1 R1 w1 q1 => ?_⟩
    exact h2 n F H P σ1 ρ1 _ _ Q QS R1 hd2 q1 fun σ2 ρ2 R2 w2 q2 => hq σ2 ρ2 R2 ⟨fun vs hv => (w2.wipe vs fun j hj => hv j (List.mem_append_right _ hj)).trans (w1.wipe vs fun j hj => hv j (List.mem_append_left _ hj)), fun j d e => by
      obtain ⟨a1, a2⟩ := w2.ow j d e
      obtain ⟨b1, b2⟩ := w1.ow j d a1
      exact ⟨b1, a2.trans b2⟩⟩ q2
theorem pgx_t (hc : X.calm = true) (h : PGsx X T js es gs) (n : Nat) (hn : (assignEach es X.env).length = n := by rfl) (hst : (assignEach es X.env).findIdx? (·.1) = none := by rfl) : PGx X T js (.Tuple es k pos) (dgT n gs) := by
  obtain ⟨t, ht, h1⟩ := h.ex
  refine ⟨_, pg_tup hc ht hn hst, fun n F H P σ ρ v d Q QS R hd hg hq => ?_⟩
  cases hd with
  | tup hs r =>
    obtain ⟨hl, hg⟩ := hg
    exact ⟨_, _, rfl, ex_t R.exF hs, by rw [dps_len r]; exact hl, h1 _ F H P σ ρ _ _ Q QS R r hg hq⟩
  | _ => exact (show False from hg).elim
end
end Dt

set_option maxRecDepth 100000
set_option maxHeartbeats 4000000
namespace Dt
open PySem PySem.Spec PyProof.Rows L2

/-! ### the readings that say it themselves -/
abbrev W0 : WX := fun _ _ _ _ => False
def canE (X : Cx) (T : Tape) (W : WX) (rk : RK) (E : DE) : TE := fun σ H QV => ∃ n F P ρ Q Qx, Rel X.K T n F H P σ ρ ∧ E ρ Q Qx ∧ ROk X T n rk F H P Q QV ∧ XOk X T W F H P σ Qx
def canT (X : Cx) (T : Tape) (W : WX) (E : DT) : TT := fun σ H QV => ∃ n F P ρ Q Qx, Rel X.K T n F H P σ ρ ∧ E ρ Q Qx ∧ (∀ b F' H' P', Step T F H P F' H' P' → Q b → QV b H') ∧ XOk X T W F H P σ Qx
def canG (X : Cx) (T : Tape) (js : List Nat) (g : DG) : TG := fun v σ H QS => ∃ n F P ρ d Q, Rel X.K T n F H P σ ρ ∧ Dp X.K F v d ∧ g d ρ Q ∧
  ∀ σ' ρ', Rel X.K T n F H P σ' ρ' → Sto js σ ρ σ' ρ' → Q ρ' → QS σ' H
structure PTsx (X : Cx) (T : Tape) (W : WX) (ifs : List Expr) (E : DT) : Prop where
  ex : ∃ t, PTs X ifs t ∧ ∀ n F H P σ ρ (Q : Bool → Prop) (Qx : Exn → Prop) (QV : Bool → Hp → Prop), Rel X.K T n F H P σ ρ → E ρ Q Qx →
    (∀ b F' H' P', Step T F H P F' H' P' → Q b → QV b H') → XOk X T W F H P σ Qx → t σ H QV
section
variable {X : Cx} {T : Tape} {W : WX} {rk : RK} {e : Expr} {ifs : List Expr} {E : DE} {G : DT} {g : DG} {js : List Nat}
theorem PX.can (h : PX X T W rk e E) : PE X e (canE X T W rk E) := by
  obtain ⟨t, ht, hs⟩ := h.ex
  refine ⟨fun pins s σ H Q I hw => ?_⟩
  obtain ⟨n, F, P, ρ, Qd, Qx, R, hE, hq, hx⟩ := hw
  exact ht.run pins s σ H Q I (hs n F H P σ ρ Qd Qx Q R hE hq hx)
theorem PTx.can (h : PTx X T W e G) : PT X e (canT X T W G) := by
  obtain ⟨t, ht, hs⟩ := h.ex
  refine ⟨fun pins s σ H Q I hw => ?_⟩
  obtain ⟨n, F, P, ρ, Qd, Qx, R, hE, hq, hx⟩ := hw
  exact ht.run pins s σ H Q I (hs n F H P σ ρ Qd Qx Q R hE hq hx)
theorem PTsx.can (h : PTsx X T W ifs G) : PTs X ifs (canT X T W G) := by
  obtain ⟨t, ht, hs⟩ := h.ex
  refine ⟨fun pins s σ H Q I hw => ?_⟩
  obtain ⟨n, F, P, ρ, Qd, Qx, R, hE, hq, hx⟩ := hw
  exact ht.run pins s σ H Q I (hs n F H P σ ρ Qd Qx Q R hE hq hx)
theorem PGx.can (h : PGx X T js e g) : PG X e (canG X T js g) := by
  obtain ⟨t, ht, hs⟩ := h.ex
  refine ⟨fun pins s σ H v u Q I r hw => ?_⟩
  obtain ⟨n, F, P, ρ, d, Qd, R, hd, hg, hq⟩ := hw
  exact ht.run pins s σ H v u Q I r (hs n F H P σ ρ v d Qd Q R hd hg hq)
def xYes : DT := fun _ Q _ => Q true
theorem ptsx_nil : PTsx X T W [] xYes := ⟨_, pts_nil, fun n F H P σ ρ Q Qx QV R hE hq hx => hq true F H P R.refl hE⟩
theorem ptsx_one (h : PTx X T W e G) : PTsx X T W [e] G := by
  obtain ⟨t, ht, hs⟩ := h.ex
  exact ⟨t, pts_one ht, hs⟩

/-! ### [e for target in it if ..] -/
def lcD (g : DG) (tt : DT) (E : DE) (ρ : Env) : List D → (List D → Prop) → Prop
  | [], Q => Q []
  | d :: ds, Q => g d ρ (fun ρ1 => tt ρ1 (fun b => if b = true then E ρ1 (fun y => lcD g tt E ρ ds (fun ys => Q (y :: ys))) (fun _ => False) else lcD g tt E ρ ds Q) (fun _ => False))
def xLc (I : DI) (g : DG) (tt : DT) (E : DE) (own : List Nat) : DE := fun ρ Q Qx => I ρ (fun ds => lcD g tt E (wipeR ρ own) ds (fun ys => Q (.list ys))) Qx
theorem Step.mutN {F H F' H' : Hp} {P P' : Fp} {p : Addr} {o : HO} (st : Step T F H P F' H' P') (h : H p = none) (h' : H' p ≠ none) (hF : F' p = none) (hP : ¬ P' p) : Step T F H P F' (upd H' p o) P' where
  grow := st.grow
  new := st.new
  exF := fun a u e => by
    have : a ≠ p := fun z => by subst z; rw [hF] at e; cases e
    rw [upd_ne this]; exact st.exF a u e
  keep := fun a u e hp => by
    have : a ≠ p := fun z => by subst z; rw [h] at e; cases e
    rw [upd_ne this]; exact st.keep a u e hp
  dom := fun a e => by
    by_cases z : a = p
    · subst z; rw [upd_same]; simp
    · rw [upd_ne z]; exact st.dom a e
  pnew := st.pnew
  pF := st.pF
  pH := fun a e => by
    have : a ≠ p := fun z => by subst z; exact hP e
    rw [upd_ne this]; exact st.pH a e
  tape := fun t q => T.stable _ _ _ _ (st.tape t q) fun a z => by
    have : a ≠ p := fun e => by subst e; exact hP z
    rw [upd_ne this]
theorem wipe_idem (σ : L2.St) : ∀ vs : List Nat, wipe (wipe σ vs) vs = wipe σ vs
  | [] => rfl
  | v :: vs => by
    show (wipe ((wipe σ vs).set v none) vs).set v none = (wipe σ vs).set v none
    by_cases h : v ∈ vs
    · rw [wipe_set h, wipe_idem σ vs]
    · rw [wipe_set_ne h, wipe_idem σ vs, List.set_set]
variable {tg iter elt : Expr} {scope : Scope} {own : List (Str × Nat)} {pos : Pos} {I : DI}
theorem lc_sem {wi : TI} {n : En} {F H : Hp} {P : Fp} {σ : L2.St} {ρ : Env} {Q : D → Prop} {Qx : Exn → Prop} {QV : VK} (hjs : ∀ j ∈ js, j ∈ own.map (·.2))
    (hI : ∀ n F H P σ ρ (Q : List D → Prop) (Qx : Exn → Prop) (R : It → Hp → Prop), Rel X.K T n F H P σ ρ → I ρ Q Qx →
      (∀ J ds F1 H1 P1, Step T F H P F1 H1 P1 → WalkD X.K T n false J ds F1 H1 P1 → ds.length ≤ sizeLine → Q ds → R J H1) → XOk X T W F H P σ Qx → wi σ H R)
    (R : Rel X.K T n F H P σ ρ) (hE : xLc I g G E (own.map (·.2)) ρ Q Qx) (hq : ROk X T n .nw F H P Q QV) (hx : XOk X T W F H P σ Qx) :
    tLc wi (canG X T js g) (canT X T W0 G) (canE X T W0 .fr E) (own.map (·.2)) σ H QV := by
  have noX : ∀ F H P σ, XOk X T W0 F H P σ (fun _ => False) := fun _ _ _ _ _ _ _ _ _ _ _ _ z => z.elim
  refine hI n F H P σ ρ _ Qx _ R hE (fun J ds F1 H1 P1 st1 wd hz qd => ?_) hx
  intro Dl hD
  obtain ⟨Gw, Y, w, hG, hY⟩ := wd.ex
  have R1 := R.step st1
  have hF1 : F1 Dl = none := by
    cases z : F1 Dl with
    | none => rfl
    | some o => rw [st1.exF Dl o z] at hD; cases hD
  have hP1 : ¬ P1 Dl := fun z => st1.pH Dl z hD
  refine lc_it w (fun i H' => ∃ F' P' xs acc, Step T F1 H1 P1 F' H' P' ∧ H' Dl = some (.lst xs) ∧ F' Dl = none ∧ ¬ P' Dl ∧ DpAll X.K F' xs acc ∧ acc.length ≤ i ∧
    lcD g G E (wipeR ρ (own.map (·.2))) (ds.drop i) (fun ys => Q (.list (acc ++ ys)))) ?_ ?_ ?_ ?_
  · exact ⟨F1, P1, [], [], R1.refl.newN hD, upd_same, hF1, hP1, .nil, Nat.le_refl _, qd⟩
  · rintro i H' hi ⟨F', P', xs, acc, st, _⟩
    exact hG F' H' P' st
  · rintro i x H' H'' hi ⟨F', P', xs, acc, st, hDl, hFD, hPD, hxs, hac, hl⟩ hy
    obtain ⟨F3, d, st3, hd, hdp⟩ := hY i F' H' P' x H'' st st.refl2 hi hy
    have e1 : ds.drop i = d :: ds.drop (i + 1) := by
      obtain ⟨hlt, e⟩ := List.getElem?_eq_some_iff.mp hd
      rw [← e]
      exact List.drop_eq_getElem_cons hlt
    rw [e1] at hl
    have st4 := st.trans st3
    have R3 := (R1.step st4).wipe (own.map (·.2))
    have hDl3 : H'' Dl = some (.lst xs) := st3.keep Dl _ hDl hPD
    have hFD3 : F3 Dl = none := by
      cases z : F3 Dl with
      | none => rfl
      | some o =>
        rcases st3.new Dl (by rw [z]; simp) with y | y
        · exact absurd hFD y
        · rw [hDl] at y; cases y
    refine ⟨n, F3, P', _, d, _, R3, hdp, hl, fun σ' ρ' R4 hw q1 => ⟨?_, n, F3, P', ρ', _, _, R4, q1, fun b F5 H5 P5 st5 q2 => ?_, noX _ _ _ _⟩⟩
    · have := hw.wipe (own.map (·.2)) hjs
      rw [this]
      exact wipe_idem _ _
    · have hDl5 : H5 Dl = some (.lst xs) := st5.keep Dl _ hDl3 hPD
      have st45 := st4.trans st5
      have hP5 : ¬ P5 Dl := fun z => by
        rcases st45.pnew Dl z with y | y
        · exact hP1 y
        · rcases st5.pnew Dl z with y | y
          · exact hPD y
          · rw [hDl3] at y; cases y
      have hF5 : F5 Dl = none := by
        cases z : F5 Dl with
        | none => rfl
        | some o =>
          rcases st5.new Dl (by rw [z]; simp) with y | y
          · exact absurd hFD3 y
          · rw [hDl3] at y; cases y
      cases b with
      | false =>
        simp only [Bool.false_eq_true, if_false] at q2 ⊢
        exact ⟨F5, P5, xs, acc, st45, hDl5, hF5, hP5, dps_ex (st3.grow.trans st5.grow) hxs, Nat.le_succ_of_le hac, q2⟩
      | true =>
        simp only [if_true] at q2 ⊢
        refine ⟨n, F5, P5, ρ', _, _, R4.step st5, q2, fun v y F6 H6 P6 st6 r6 q3 => ?_, noX _ _ _ _⟩
        have hDl6 : H6 Dl = some (.lst xs) := st6.keep Dl _ hDl5 hP5
        have hP6 : ¬ P6 Dl := fun z => by
          rcases st6.pnew Dl z with y | y
          · exact hP5 y
          · rw [hDl5] at y; cases y
        have hF6 : F6 Dl = none := by
          cases z : F6 Dl with
          | none => rfl
          | some o =>
            rcases st6.new Dl (by rw [z]; simp) with y | y
            · exact absurd hF5 y
            · rw [hDl5] at y; cases y
        have hxl := dps_len hxs
        refine ⟨xs, hDl6, by omega, F6, P6, xs ++ [v], acc ++ [y], (st45.trans st6).mutN hD (by rw [hDl6]; simp) hF6 hP6, upd_same, hF6, hP6, dps_app (dps_ex ((st3.grow.trans st5.grow).trans st6.grow) hxs) (.cons r6 .nil), by rw [List.length_append]; simp; omega, ?_⟩
        simpa using q3
  · rintro H' ⟨F', P', xs, acc, st, hDl, hFD, hPD, hxs, hac, hl⟩
    have e1 : ds.drop ds.length = [] := List.drop_length
    rw [e1] at hl
    have hl : Q (.list (acc ++ [])) := hl
    rw [List.append_nil] at hl
    refine hq _ (.list acc) F' H' P' (st1.trans st) ⟨Dl, rfl, ⟨xs, hDl, hxs⟩, ?_, hFD, hPD⟩ hl
    cases z : H Dl with
    | none => rfl
    | some o => exact absurd hD (st1.dom Dl (by rw [z]; simp))
theorem px_lc (hc : X.calm = true) (hN : X.N.Nodup) (hi : PIx X T W false tg iter I) (ok : BlkOk X.N X.env.scope scope own)
    (hg : ∀ (s : Shared) (H : Hp) (C : Addr) (cl : List (Str × Addr)) (fp : List Addr), PGx (X.blk s H scope (compEnvC scope cl C X.env) fp) T js tg g) (ht : ∀ (s : Shared) (H : Hp) (C : Addr) (cl : List (Str × Addr)) (fp : List Addr), PTsx (X.blk s H scope (compEnvC scope cl C X.env) fp) T W0 ifs G)
    (he : ∀ (s : Shared) (H : Hp) (C : Addr) (cl : List (Str × Addr)) (fp : List Addr), PX (X.blk s H scope (compEnvC scope cl C X.env) fp) T W0 .fr elt E) (hjs : ∀ j ∈ js, j ∈ own.map (·.2) := by decide) (hs : ∀ x, foldedSetIterable iter X.env x = pure x := by intro _; rfl) :
    PX X T W .nw (.ListComp elt [⟨tg, iter, ifs, 0⟩] scope pos) (xLc I g G E (own.map (·.2))) := by
  obtain ⟨wi, hwi, hI⟩ := hi.ex
  exact ⟨_, pe_lc (own := own) (g := canG X T js g) (tt := canT X T W0 G) (te := canE X T W0 .fr E) hc hN hwi ok (fun s H C cl fp => (hg s H C cl fp).can) (fun s H C cl fp => (ht s H C cl fp).can) (fun s H C cl fp => (he s H C cl fp).can) hs,
    fun n F H P σ ρ Q Qx QV R hE hq hx => lc_sem hjs hI R hE hq hx⟩
end
end Dt

set_option maxRecDepth 100000
set_option maxHeartbeats 4000000
namespace Dt
open PySem PySem.Spec PyProof.Rows L2

structure SE where
  nx : Env → Prop
  rt : D → Prop
  bk : Env → Prop
  ct : Env → Prop
  xx : Env → Exn → Prop
abbrev DS := Env → SE → Prop
structure EOk (X : Cx) (T : Tape) (W : WX) (n : En) (rk : RK) (A : SE) (Dd : Ends) : Prop where
  nx : ∀ F H P σ ρ, Rel X.K T n F H P σ ρ → A.nx ρ → Dd.nx σ H
  rt : ∀ v d F H P σ ρ, Rel X.K T n F H P σ ρ → Res X.K T n rk n.H0 F H P v d → A.rt d → Dd.rt v H
  bk : ∀ F H P σ ρ, Rel X.K T n F H P σ ρ → A.bk ρ → Dd.bk σ H
  ct : ∀ F H P σ ρ, Rel X.K T n F H P σ ρ → A.ct ρ → Dd.ct σ H
  xx : ∀ x c dd F H P σ ρ, Rel X.K T n F H P σ ρ → ExnIs X.K X.mg F H P c dd x → A.xx ρ x → W c dd σ H
structure PSx (X : Cx) (T : Tape) (W : WX) (rk : RK) (st : Stmt) (S : DS) : Prop where
  ex : ∃ t, PS X st t ∧ ∀ n F H P σ ρ A Dd, Rel X.K T n F H P σ ρ → S ρ A → EOk X T W n rk A Dd → t Dd σ H
structure PSsx (X : Cx) (T : Tape) (W : WX) (rk : RK) (sts : List Stmt) (S : DS) : Prop where
  ex : ∃ t, PSs X sts t ∧ ∀ n F H P σ ρ A Dd, Rel X.K T n F H P σ ρ → S ρ A → EOk X T W n rk A Dd → t Dd σ H

section
variable {X : Cx} {T : Tape} {W : WX} {rk k : RK} {e a b c : Expr} {es : List Expr} {E Ea Eb : DE} {A : DA} {G : DT} {g : DG} {js : List Nat} {st : Stmt} {sts rest body orelse : List Stmt} {S S1 S2 : DS} {pos : Pos}

theorem EOk.xok {n : En} {A : SE} {Dd : Ends} {F H : Hp} {P : Fp} {σ : L2.St} {ρ : Env} (h : EOk X T W n rk A Dd) (R : Rel X.K T n F H P σ ρ) : XOk X T W F H P σ (A.xx ρ) :=
  fun x c dd F' H' P' s q z => h.xx x c dd F' H' P' σ ρ (R.step s) q z

/-! ### blocks -/
def sNil : DS := fun ρ A => A.nx ρ
def sSeq (S1 S2 : DS) : DS := fun ρ A => S1 ρ { A with nx := fun ρ' => S2 ρ' A }
theorem pssx_nil : PSsx X T W rk [] sNil := ⟨_, pss_nil, fun n F H P σ ρ A Dd R h ok => ok.nx F H P σ ρ R h⟩
theorem pssx_cons (h1 : PSx X T W rk st S1) (h2 : PSsx X T W rk rest S2) : PSsx X T W rk (st :: rest) (sSeq S1 S2) := by
  obtain ⟨t, ht, s1⟩ := h1.ex
  obtain ⟨u, hu, s2⟩ := h2.ex
  refine ⟨_, pss_cons ht hu, fun n F H P σ ρ A Dd R h ok => ?_⟩
  exact s1 n F H P σ ρ _ _ R h ⟨fun F' H' P' σ' ρ' R' q => s2 n F' H' P' σ' ρ' A Dd R' q ok, ok.rt, ok.bk, ok.ct, ok.xx⟩
theorem pssx_one (h1 : PSx X T W rk st S1) : PSsx X T W rk [st] S1 := by
  obtain ⟨t, ht, s1⟩ := h1.ex
  exact ⟨t, pss_one ht, s1⟩
theorem psx_pass : PSx X T W rk (.Pass pos) sNil := ⟨_, ps_pass, fun n F H P σ ρ A Dd R h ok => ok.nx F H P σ ρ R h⟩
def sBreak : DS := fun ρ A => A.bk ρ
def sCont : DS := fun ρ A => A.ct ρ
theorem psx_break : PSx X T W rk (.Break pos) sBreak := ⟨_, ps_break, fun n F H P σ ρ A Dd R h ok => ok.bk F H P σ ρ R h⟩
theorem psx_cont : PSx X T W rk (.Continue pos) sCont := ⟨_, ps_continue, fun n F H P σ ρ A Dd R h ok => ok.ct F H P σ ρ R h⟩
/-- a statement that is never reached -/
def sNever : DS := fun _ _ => False
theorem psx_never : PSx X T W rk st sNever := ⟨_, ps_never, fun n F H P σ ρ A Dd R h ok => h.elim⟩
theorem pssx_never : PSsx X T W rk sts sNever := ⟨_, pss_never, fun n F H P σ ρ A Dd R h ok => h.elim⟩

/-! ### an expression as a statement, return, if -/
def sDrop (E : DE) : DS := fun ρ A => E ρ (fun _ => A.nx ρ) (A.xx ρ)
theorem psx_expr (h : PX X T W k e E) (hs : swapsWith e none pos.line X.env = pure false := by rfl) : PSx X T W rk (.Expr e pos) (sDrop E) := by
  obtain ⟨t, ht, s1⟩ := h.ex
  refine ⟨_, ps_expr ht hs, fun n F H P σ ρ A Dd R h ok => ?_⟩
  exact s1 n F H P σ ρ _ _ _ R h (fun v d F' H' P' st' r q => ok.nx F' H' P' σ ρ (R.step st') q) (ok.xok R)
def sRet (E : DE) : DS := fun ρ A => E ρ A.rt (A.xx ρ)
theorem Res.own0 {n : En} {Hs F H : Hp} {P : Fp} {v : V} {d : D} (h : Res X.K T n .own Hs F H P v d) : Res X.K T n .own n.H0 F H P v d := h
theorem psx_ret (h : PX X T W rk e E) (hk : rk = .fr ∨ rk = .own) : PSx X T W rk (.Return (some e) pos) (sRet E) := by
  obtain ⟨t, ht, s1⟩ := h.ex
  refine ⟨_, ps_ret ht, fun n F H P σ ρ A Dd R h ok => ?_⟩
  refine s1 n F H P σ ρ _ _ _ R h (fun v d F' H' P' st' r q => ok.rt v d F' H' P' σ ρ (R.step st') ?_ q) (ok.xok R)
  rcases hk with hk | hk
  · subst hk; exact r
  · subst hk; exact r
def sRetN : DS := fun _ A => A.rt .none
theorem psx_retN : PSx X T W .fr (.Return none pos) sRetN := ⟨_, ps_retN, fun n F H P σ ρ A Dd R h ok => ok.rt .non .none F H P σ ρ R .non h⟩
def sIf (G : DT) (S1 S2 : DS) : DS := fun ρ A => G ρ (fun b => if b = true then S1 ρ A else S2 ρ A) (A.xx ρ)
theorem psx_if (hc : PTx X T W c G) (h1 : PSsx X T W rk body S1) (h2 : PSsx X T W rk orelse S2) : PSx X T W rk (.If c body orelse pos) (sIf G S1 S2) := by
  obtain ⟨tc, htc, s0⟩ := hc.ex
  obtain ⟨t, ht, s1⟩ := h1.ex
  obtain ⟨u, hu, s2⟩ := h2.ex
  refine ⟨_, ps_if htc ht hu, fun n F H P σ ρ A Dd R h ok => ?_⟩
  refine s0 n F H P σ ρ _ _ _ R h (fun b F' H' P' st' q => ?_) (ok.xok R)
  cases b with
  | true =>
    simp only [if_true] at q ⊢
    exact s1 n F' H' P' σ ρ A Dd (R.step st') q ok
  | false =>
    simp only [Bool.false_eq_true, if_false] at q ⊢
    exact s2 n F' H' P' σ ρ A Dd (R.step st') q ok

/-! ### x = e -/
def sSet (i : Nat) (E : DE) : DS := fun ρ A => E ρ (fun d => A.nx (ρ.put i (.fr d))) (A.xx ρ)
def sSetN (i : Nat) (E : DE) : DS := fun ρ A => E ρ (fun d => A.nx (ρ.put i (.ow d))) (A.xx ρ)
theorem Rel.putN {n : En} {F H F' H' : Hp} {P P' : Fp} {σ : L2.St} {ρ : Env} {v : V} {d : D} (R : Rel X.K T n F H P σ ρ) (st : Step T F H P F' H' P') (r : Res X.K T n .nw H F' H' P' v d) (i : Nat) : Rel X.K T n F' H' P' (σ.set i (some v)) (ρ.put i (.ow d)) := by
  obtain ⟨a, e, q, q1, q2, p⟩ := r
  subst e
  have h0 : n.H0 a = none := by
    cases z : n.H0 a with
    | none => rfl
    | some o => exact absurd q1 (R.dom a (by rw [z]; simp))
  refine (R.step st).putO ⟨a, rfl, q, h0, q2, p⟩ fun j d' hj ej es => ?_
  obtain ⟨b, e1, z1, _⟩ := R.slot j _ ej
  have e1 := join_some e1
  rw [es] at e1
  cases e1
  obtain ⟨o, w⟩ := hold_some z1
  rw [w] at q1; cases q1
theorem psx_asg {tg : Expr} (hg : PGx X T js tg g) (h : PX X T W .fr e E) (hs : swapsWithSole [tg] e pos.line X.env = pure false := by rfl) (hw : swappedStores [tg] e X.env = pure none := by rfl) (h1 : (assignEach [tg] X.env).map (·.2) = [assign tg X.env] := by rfl) : PSx X T W rk (.Assign [tg] e pos) (fun ρ A => E ρ (fun d => g d ρ A.nx) (A.xx ρ)) := by
  obtain ⟨t, ht, s1⟩ := h.ex
  obtain ⟨u, hu, s2⟩ := hg.ex
  refine ⟨_, ps_asg ht hu hs hw h1, fun n F H P σ ρ A Dd R h ok => ?_⟩
  refine s1 n F H P σ ρ _ _ _ R h (fun v d F' H' P' st' r q => ?_) (ok.xok R)
  exact s2 n F' H' P' σ ρ v d _ _ (R.step st') r q fun σ' ρ' R' _ q' => ok.nx F' H' P' σ' ρ' R' q'
def sAsg (E : DE) (g : DG) : DS := fun ρ A => E ρ (fun d => g d ρ A.nx) (A.xx ρ)
theorem psx_set (i : Nat) {x : Str} {px : Pos} (hN : X.N.Nodup) (hi : X.N[i]? = some x) (hx : Loc X.env.scope x) (h : PX X T W .fr e E) (hs : swapsWith e (some (.Name x px)) pos.line X.env = pure false := by rfl) (hf : X.fn x = true ∨ X.env.scope.names.lookup x = some .local := by first | exact .inl rfl | exact .inr rfl | assumption) : PSx X T W rk (.Assign [.Name x px] e pos) (sSet i E) := by
  obtain ⟨t, ht, s1⟩ := h.ex
  refine ⟨_, ps_set hN hi hx ht hs hf, fun n F H P σ ρ A Dd R h ok => ?_⟩
  refine s1 n F H P σ ρ _ _ _ R h (fun v d F' H' P' st' r q => ?_) (ok.xok R)
  exact ok.nx F' H' P' _ _ ((R.step st').put (s := .fr d) ⟨v, rfl, r⟩ (fun _ => by simp)) q
theorem psx_setN (i : Nat) {x : Str} {px : Pos} (hN : X.N.Nodup) (hi : X.N[i]? = some x) (hx : Loc X.env.scope x) (h : PX X T W .nw e E) (hs : swapsWith e (some (.Name x px)) pos.line X.env = pure false := by rfl) (hf : X.fn x = true ∨ X.env.scope.names.lookup x = some .local := by first | exact .inl rfl | exact .inr rfl | assumption) : PSx X T W rk (.Assign [.Name x px] e pos) (sSetN i E) := by
  obtain ⟨t, ht, s1⟩ := h.ex
  refine ⟨_, ps_set hN hi hx ht hs hf, fun n F H P σ ρ A Dd R h ok => ?_⟩
  refine s1 n F H P σ ρ _ _ _ R h (fun v d F' H' P' st' r q => ?_) (ok.xok R)
  exact ok.nx F' H' P' _ _ (R.putN st' r i) q
theorem psx_setLc (i : Nat) {x : Str} {px : Pos} {tg iter elt : Expr} {ifs : List Expr} {scope : Scope} {own : List (Str × Nat)} {pos2 : Pos} {I : DI} (hc : X.calm = true) (hN : X.N.Nodup) (hi : X.N[i]? = some x) (hx : X.env.scope.names.lookup x = some .local)
    (hsw : swapsWith (.ListComp elt [⟨tg, iter, ifs, 0⟩] scope pos2) (some (.Name x px)) pos.line X.env = pure true) (hi2 : PIx X T W false tg iter I) (ok2 : BlkOk X.N X.env.scope scope own)
    (hg : ∀ (s : Shared) (H : Hp) (C : Addr) (cl : List (Str × Addr)) (fp : List Addr), PGx (X.blk s H scope (compEnvC scope cl C X.env) fp) T js tg g) (ht : ∀ (s : Shared) (H : Hp) (C : Addr) (cl : List (Str × Addr)) (fp : List Addr), PTsx (X.blk s H scope (compEnvC scope cl C X.env) fp) T W0 ifs G)
    (he : ∀ (s : Shared) (H : Hp) (C : Addr) (cl : List (Str × Addr)) (fp : List Addr), PX (X.blk s H scope (compEnvC scope cl C X.env) fp) T W0 .fr elt E) (hjs : ∀ j ∈ js, j ∈ own.map (·.2) := by decide) (hs : ∀ x, foldedSetIterable iter X.env x = pure x := by intro _; rfl) :
    PSx X T W rk (.Assign [.Name x px] (.ListComp elt [⟨tg, iter, ifs, 0⟩] scope pos2) pos) (sSetN i (xLc I g G E (own.map (·.2)))) := by
  obtain ⟨wi, hwi, hI⟩ := hi2.ex
  refine ⟨_, ps_setLc (own := own) (g := canG X T js g) (tt := canT X T W0 G) (te := canE X T W0 .fr E) hc hN hi hx hsw hwi ok2 (fun s H C cl fp => (hg s H C cl fp).can) (fun s H C cl fp => (ht s H C cl fp).can) (fun s H C cl fp => (he s H C cl fp).can) hs, fun n F H P σ ρ A Dd R h ok => ?_⟩
  exact lc_sem (QV := fun v H1 => gName i v σ H1 Dd.nx) hjs hI R h (fun v d F' H' P' st' r q => ok.nx F' H' P' _ _ (R.putN st' r i) q) (ok.xok R)
/-- x = y, y owned: it moves -/
def sMove (i j : Nat) : DS := fun ρ A => match ρ.get j with | .ow d => A.nx ((ρ.put j .un).put i (.ow d)) | _ => False
theorem psx_move (i j : Nat) {x y : Str} {px py : Pos} (hN : X.N.Nodup) (hi : X.N[i]? = some x) (hx : Loc X.env.scope x) (h : PE X (.Name y py) (tVar j)) (hs : swapsWith (.Name y py) (some (.Name x px)) pos.line X.env = pure false := by rfl) (hf : X.fn x = true ∨ X.env.scope.names.lookup x = some .local := by first | exact .inl rfl | exact .inr rfl | assumption) : PSx X T W rk (.Assign [.Name x px] (.Name y py) pos) (sMove i j) := by
  refine ⟨_, ps_set hN hi hx h hs hf, fun n F H P σ ρ A Dd R h ok => ?_⟩
  unfold sMove at h
  split at h
  · rename_i d ej
    have ej := get_some ej (by simp)
    obtain ⟨a, e1, q, q1, q2, q3⟩ := R.slot j _ ej
    have e1 := join_some e1
    refine ⟨_, e1, ?_⟩
    have R1 : Rel X.K T n F H P σ (ρ.put j .un) := by
      refine { R with len := by simp [R.len], slot := fun l sl e => ?_, sep := fun (l k : Nat) b d1 d2 z1 z2 z3 z4 => ?_ }
      · have e : (ρ.set j .un)[l]? = some sl := e
        rw [get_set] at e
        by_cases hh : j = l ∧ l < ρ.length
        · rw [if_pos hh] at e; cases e; trivial
        · rw [if_neg hh] at e; exact R.slot l sl e
      · have key : ∀ (l : Nat) (d1 : D), (ρ.set j .un)[l]? = some (.ow d1) → ρ[l]? = some (.ow d1) := fun l d1 e => by
          rw [get_set] at e
          by_cases hh : j = l ∧ l < ρ.length
          · rw [if_pos hh] at e; cases e
          · rw [if_neg hh] at e; exact e
        exact R.sep l k b d1 d2 (key _ _ z1) (key _ _ z2) z3 z4
    refine ok.nx F H P _ _ (R1.putO ⟨a, rfl, q, q1, q2, q3⟩ fun l d' hl el es => ?_) h
    have el : (ρ.set j .un)[l]? = some (.ow d') := el
    rw [get_set] at el
    by_cases hh : j = l ∧ l < ρ.length
    · rw [if_pos hh] at el; cases el
    · rw [if_neg hh] at el
      have := R.sep j l a d d' ej el e1 es
      exact hh ⟨this, (List.getElem?_eq_some_iff.mp el).1⟩
  · exact h.elim
/-- an owned thing is frozen from here on -/
def sFreeze (i : Nat) (S : DS) : DS := fun ρ A => match ρ.get i with | .ow d => S (ρ.put i (.fr d)) A | _ => False
theorem Rel.freeze {n : En} {F H : Hp} {P : Fp} {σ : L2.St} {ρ : Env} {i : Nat} {d : D} (R : Rel X.K T n F H P σ ρ) (ej : ρ[i]? = some (.ow d)) : ∃ F', Rel X.K T n F' H P σ (ρ.put i (.fr d)) := by
  obtain ⟨a, e1, q, q1, q2, q3⟩ := R.slot i _ ej
  have e1' := join_some e1
  cases d with
  | list ds =>
    obtain ⟨xs, h1, h2⟩ := q
    have gr : Ex F (upd F a (.lst xs)) := Ex.new q2
    refine ⟨upd F a (.lst xs), { R with exF := fun x u e => ?_, grow := R.grow.trans gr, fnew := fun x e => ?_, pF := fun x e => ?_, len := by simp [R.len], slot := fun j sl e => ?_, sep := fun (j k : Nat) b d1 d2 z1 z2 z3 z4 => ?_ }⟩
    · by_cases z : x = a
      · subst z; rw [upd_same] at e; cases e; exact h1
      · rw [upd_ne z] at e; exact R.exF x u e
    · by_cases z : x = a
      · subst z; exact .inr q1
      · rw [upd_ne z] at e; exact R.fnew x e
    · have : x ≠ a := fun z => by subst z; exact q3 e
      rw [upd_ne this]; exact R.pF x e
    · have e : (ρ.set i (.fr (.list ds)))[j]? = some sl := e
      rw [get_set] at e
      by_cases hh : i = j ∧ j < ρ.length
      · rw [if_pos hh] at e
        cases e
        obtain ⟨hh1, _⟩ := hh
        subst hh1
        exact ⟨_, e1, .lst (SqL.of upd_same) (dps_ex gr h2)⟩
      · rw [if_neg hh] at e
        have w := R.slot j sl e
        cases sl with
        | un => trivial
        | fr d => obtain ⟨x, z1, z2⟩ := w; exact ⟨x, z1, dp_ex gr z2⟩
        | ow d' =>
          obtain ⟨b, z1, z2, z3, z4, z5⟩ := w
          have nb : b ≠ a := fun zz => by
            subst zz
            have := R.sep i j b _ _ ej e e1' (join_some z1)
            exact hh ⟨this, (List.getElem?_eq_some_iff.mp e).1⟩
          exact ⟨b, z1, hold_ex gr (fun _ z => z) z2, z3, by rw [upd_ne nb]; exact z4, z5⟩
        | bo d =>
          obtain ⟨x, z1, z2⟩ := w
          refine ⟨x, z1, ?_⟩
          rcases z2 with z2 | ⟨b, z3, z4, z5⟩
          · exact .inl (dp_ex gr z2)
          · exact .inr ⟨b, z3, hold_ex gr (fun _ z => z) z4, z5⟩
        | tp => exact w
        | ex e0 dd y =>
          obtain ⟨z0, b, vs, z1, z2, z3, z4⟩ := w
          exact ⟨z0, b, vs, z1, z2, fsOk_ex gr z3, z4⟩
    · have key : ∀ (j : Nat) (d1 : D), (ρ.set i (.fr (.list ds)))[j]? = some (.ow d1) → ρ[j]? = some (.ow d1) := fun j d1 e => by
        rw [get_set] at e
        by_cases hh : i = j ∧ j < ρ.length
        · rw [if_pos hh] at e; cases e
        · rw [if_neg hh] at e; exact e
      exact R.sep j k b d1 d2 (key _ _ z1) (key _ _ z2) z3 z4
  | _ => exact (show False from q).elim
theorem psx_freeze (i : Nat) (h : PSx X T W rk st S) : PSx X T W rk st (sFreeze i S) := by
  obtain ⟨t, ht, s1⟩ := h.ex
  refine ⟨t, ht, fun n F H P σ ρ A Dd R h ok => ?_⟩
  unfold sFreeze at h
  split at h
  · rename_i d ej
    obtain ⟨F', R'⟩ := R.freeze (get_some ej (by simp))
    exact s1 n F' H P σ _ A Dd R' h ok
  · exact h.elim

/-! ### for, while -/
theorem SlOk.base {K : PySem.W.Frag} {n m : En} {F H : Hp} {P : Fp} {v : Option V} {s : Sl} (e1 : m.H0 = n.H0) (e2 : m.P0 = n.P0) (h : SlOk K T n F H P v s) : SlOk K T m F H P v s := by
  obtain ⟨a, b, c⟩ := n
  obtain ⟨a', b', c'⟩ := m
  simp only at e1 e2
  subst e1 e2
  cases s <;> exact h
theorem Res.base {K : PySem.W.Frag} {n m : En} {k : RK} {Hs F H : Hp} {P : Fp} {v : V} {d : D} (e1 : m.H0 = n.H0) (e2 : m.P0 = n.P0) (h : Res K T n k Hs F H P v d) : Res K T m k Hs F H P v d := by
  obtain ⟨a, b, c⟩ := n
  obtain ⟨a', b', c'⟩ := m
  simp only at e1 e2
  subst e1 e2
  cases k <;> exact h
theorem Rel.rebase {n : En} {F H : Hp} {P : Fp} {σ : L2.St} {ρ : Env} (R : Rel X.K T n F H P σ ρ) : Rel X.K T (En.mk n.H0 F n.P0) F H P σ ρ :=
  { R with grow := Ex.refl F, fnew := fun a h => .inl h, slot := fun i s e => SlOk.base rfl rfl (R.slot i s e), sep := R.sep }
theorem Rel.unbase {n : En} {F1 H1 F H : Hp} {P P1 : Fp} {σ σ1 : L2.St} {ρ ρ1 : Env} (R : Rel X.K T (En.mk n.H0 F1 n.P0) F H P σ ρ) (R1 : Rel X.K T n F1 H1 P1 σ1 ρ1) : Rel X.K T n F H P σ ρ :=
  { R with grow := R1.grow.trans R.grow, fnew := fun a h => (R.fnew a h).elim (fun q => R1.fnew a q) (fun q => .inr q), slot := fun i s e => SlOk.base rfl rfl (R.slot i s e), sep := R.sep }
def forD (g : DG) (S : DS) : List D → DS
  | [], ρ, A => A.nx ρ
  | d :: ds, ρ, A => g d ρ (fun ρ1 => S ρ1 { A with nx := fun ρ2 => forD g S ds ρ2 A, ct := fun ρ2 => forD g S ds ρ2 A, bk := A.nx })
def sFor (I : DI) (g : DG) (S : DS) : DS := fun ρ A => I ρ (fun ds => forD g S ds ρ A) (A.xx ρ)
theorem psx_for {tg iter : Expr} {I : DI} (hp : PassesOwn (model X.prog X.w) X.A X.env X.xe) (hc : X.calm = true) (hi : PIx X T W true tg iter I) (hg : PGx X T js tg g) (hb : PSsx X T W rk body S) (hs : ∀ x, foldedSetIterable iter X.env x = pure x := by intro _; rfl) :
    PSx X T W rk (.For tg iter body [] pos) (sFor I g S) := by
  obtain ⟨wi, hwi, s0⟩ := hi.ex
  obtain ⟨tg', htg, s1⟩ := hg.ex
  obtain ⟨t, ht, s2⟩ := hb.ex
  refine ⟨_, ps_for hp hc hwi htg ht hs, fun n F H P σ ρ A Dd R h ok => ?_⟩
  refine s0 n F H P σ ρ _ _ _ R h (fun J ds F1 H1 P1 st1 wd hz q => ?_) (ok.xok R)
  obtain ⟨Gw, Y, w, hG, hY⟩ := wd.ex
  refine for_it w (fun i σ' H' => ∃ F' P' ρ', Rel X.K T n F' H' P' σ' ρ' ∧ Ex F1 F' ∧ forD g S (ds.drop i) ρ' A) ?_ ?_ ?_ ?_
  · exact ⟨F1, P1, ρ, R.step st1, Ex.refl _, q⟩
  · rintro i σ' H' hi ⟨F', P', ρ', R', gr, _⟩
    exact hG F' H' P' ⟨gr, R'.exF, R'.keep⟩
  · rintro i x σ' H' H'' hi ⟨F', P', ρ', R', gr, hl⟩ hy
    obtain ⟨F3, d, st3, hd, hdp⟩ := hY i F' H' P' x H'' ⟨gr, R'.exF, R'.keep⟩ R'.refl hi hy
    have e1 : ds.drop i = d :: ds.drop (i + 1) := by
      obtain ⟨hlt, e⟩ := List.getElem?_eq_some_iff.mp hd
      rw [← e]
      exact List.drop_eq_getElem_cons hlt
    rw [e1] at hl
    refine s1 n F3 H'' P' σ' ρ' x d _ _ (R'.step st3) hdp hl fun σ4 ρ4 R4 _ q4 => ?_
    -- the frozen part only grows
    refine s2 (En.mk n.H0 F3 n.P0) F3 H'' P' σ4 ρ4 _ _ R4.rebase q4 ⟨fun F5 H5 P5 σ5 ρ5 R5 q5 => ⟨F5, P5, ρ5, R5.unbase (R'.step st3), gr.trans (st3.grow.trans R5.grow), q5⟩, fun v d F5 H5 P5 σ5 ρ5 R5 r5 q5 => ok.rt v d F5 H5 P5 σ5 ρ5 (R5.unbase (R'.step st3)) (Res.base rfl rfl r5) q5, fun F5 H5 P5 σ5 ρ5 R5 q5 => ok.nx F5 H5 P5 σ5 ρ5 (R5.unbase (R'.step st3)) q5, fun F5 H5 P5 σ5 ρ5 R5 q5 => ⟨F5, P5, ρ5, R5.unbase (R'.step st3), gr.trans (st3.grow.trans R5.grow), q5⟩, fun x c dd F5 H5 P5 σ5 ρ5 R5 z q5 => ok.xx x c dd F5 H5 P5 σ5 ρ5 (R5.unbase (R'.step st3)) z q5⟩
  · rintro σ' H' ⟨F', P', ρ', R', gr, hl⟩
    have e1 : ds.drop ds.length = [] := List.drop_length
    rw [e1] at hl
    exact ok.nx F' H' P' σ' ρ' R' hl
def whileD (G : DT) (S : DS) : DS := fun ρ A => ∃ I : Nat → Env → Prop, (∃ m, I m ρ) ∧ ∀ m ρ, I m ρ → G ρ (fun b => if b = true then S ρ { A with nx := fun ρ' => ∃ m', m' < m ∧ I m' ρ', ct := fun ρ' => ∃ m', m' < m ∧ I m' ρ', bk := A.nx } else A.nx ρ) (A.xx ρ)
theorem psx_while (hp : PassesOwn (model X.prog X.w) X.A X.env X.xe) (hc : PTx X T W c G) (hb : PSsx X T W rk body S) : PSx X T W rk (.While c body [] pos) (whileD G S) := by
  obtain ⟨tc, htc, s0⟩ := hc.ex
  obtain ⟨t, ht, s1⟩ := hb.ex
  refine ⟨_, ps_while hp htc ht, fun n F H P σ ρ A Dd R h ok => ?_⟩
  obtain ⟨I, ⟨m0, i0⟩, hI⟩ := h
  refine ⟨fun m σ H => ∃ F P ρ, Rel X.K T n F H P σ ρ ∧ I m ρ, ⟨m0, F, P, ρ, R, i0⟩, ?_⟩
  rintro m σ' H' ⟨F', P', ρ', R', im⟩
  refine s0 n F' H' P' σ' ρ' _ _ _ R' (hI m ρ' im) (fun b F1 H1 P1 st1 q => ?_) (ok.xok R')
  cases b with
  | true =>
    simp only [if_true] at q ⊢
    refine ⟨fun σ2 H2 => ∃ m', m' < m ∧ ∃ F P ρ, Rel X.K T n F H2 P σ2 ρ ∧ I m' ρ, fun σ2 H2 z => z, ?_⟩
    exact s1 n F1 H1 P1 σ' ρ' _ _ (R'.step st1) q ⟨fun F2 H2 P2 σ2 ρ2 R2 ⟨m', hm, q2⟩ => ⟨m', hm, F2, P2, ρ2, R2, q2⟩, ok.rt, ok.nx, fun F2 H2 P2 σ2 ρ2 R2 ⟨m', hm, q2⟩ => ⟨m', hm, F2, P2, ρ2, R2, q2⟩, ok.xx⟩
  | false =>
    simp only [Bool.false_eq_true, if_false] at q ⊢
    exact ok.nx F1 H1 P1 σ' ρ' (R'.step st1) q

/-! ### an owned list is changed -/
theorem Rel.mut {n : En} {F H : Hp} {P : Fp} {σ : L2.St} {ρ : Env} {i : Nat} {ds es : List D} {a : Addr} {ys : List V} (R : Rel X.K T n F H P σ ρ) (ej : ρ[i]? = some (.ow (.list ds))) (ea : σ[i]? = some (some (.ref a))) (hy : DpAll X.K F ys es) :
    Rel X.K T n F (upd H a (.lst ys)) P σ (ρ.put i (.ow (.list es))) := by
  obtain ⟨b, e1, q, q1, q2, q3⟩ := R.slot i _ ej
  have e1 := join_some e1
  rw [ea] at e1
  cases e1
  obtain ⟨o, w⟩ := hold_some q
  refine { R with exF := fun x u e => ?_, keep := fun x o e hp => ?_, dom := fun x e => ?_, pH := fun x e => ?_, tape := fun t h => T.stable _ _ _ _ (R.tape t h) fun x z => ?_, len := by simp [R.len], slot := fun j sl e => ?_, sep := fun (j k : Nat) c d1 d2 z1 z2 z3 z4 => ?_ }
  · have : x ≠ a := fun z => by subst z; rw [q2] at e; cases e
    rw [upd_ne this]; exact R.exF x u e
  · have : x ≠ a := fun z => by subst z; rw [q1] at e; cases e
    rw [upd_ne this]; exact R.keep x o e hp
  · by_cases z : x = a
    · subst z; rw [upd_same]; simp
    · rw [upd_ne z]; exact R.dom x e
  · by_cases z : x = a
    · subst z; rw [upd_same]; simp
    · rw [upd_ne z]; exact R.pH x e
  · have : x ≠ a := fun e => by subst e; exact q3 z
    rw [upd_ne this]
  · have e : (ρ.set i (.ow (.list es)))[j]? = some sl := e
    rw [get_set] at e
    by_cases hh : i = j ∧ j < ρ.length
    · rw [if_pos hh] at e
      cases e
      obtain ⟨hh1, _⟩ := hh
      subst hh1
      exact ⟨a, by rw [ea]; rfl, ⟨ys, upd_same, hy⟩, q1, q2, q3⟩
    · rw [if_neg hh] at e
      have w := R.slot j sl e
      cases sl with
      | un => trivial
      | fr d => exact w
      | ow d' =>
        obtain ⟨b, z1, z2, z3, z4, z5⟩ := w
        have nb : b ≠ a := fun zz => by
          subst zz
          have := R.sep i j b _ _ ej e ea (join_some z1)
          exact hh ⟨this, (List.getElem?_eq_some_iff.mp e).1⟩
        exact ⟨b, z1, hold_ex (Ex.refl F) (fun o z => by rw [upd_ne nb]; exact z) z2, z3, z4, z5⟩
      | bo d => exact w
      | tp =>
        obtain ⟨t, z1, z2⟩ := w
        refine ⟨t, z1, T.stable _ _ _ _ z2 fun x z => ?_⟩
        have : x ≠ a := fun e => by subst e; exact q3 z
        rw [upd_ne this]
      | ex e0 dd y =>
        obtain ⟨z0, b, vs, z1, z2, z3, z4⟩ := w
        have nb : b ≠ a := fun zz => by
          subst zz
          obtain ⟨zs, y1, _⟩ := (show ∃ xs, H b = some (.lst xs) ∧ DpAll X.K F xs ds from q)
          rw [y1] at z2; cases z2
        exact ⟨z0, b, vs, z1, by rw [upd_ne nb]; exact z2, z3, z4⟩
  · have key : ∀ (j : Nat) (d1 : D), (ρ.set i (.ow (.list es)))[j]? = some (.ow d1) → ∃ d2, ρ[j]? = some (.ow d2) := fun j d1 e => by
      rw [get_set] at e
      by_cases hh : i = j ∧ j < ρ.length
      · obtain ⟨hh1, _⟩ := hh
        subst hh1
        exact ⟨_, ej⟩
      · rw [if_neg hh] at e; exact ⟨_, e⟩
    obtain ⟨d3, k1⟩ := key _ _ z1
    obtain ⟨d4, k2⟩ := key _ _ z2
    exact R.sep j k c d3 d4 k1 k2 z3 z4
def fOwL (ρ : Env) (i : Nat) (k : List D → Prop) : Prop := match ρ.get i with | .ow (.list ds) => k ds | _ => False
theorem fOwL_some {ρ : Env} {i : Nat} {k : List D → Prop} (h : fOwL ρ i k) : ∃ ds, ρ[i]? = some (.ow (.list ds)) ∧ k ds := by
  unfold fOwL at h
  split at h
  · rename_i ds e
    exact ⟨ds, get_some e (by simp), h⟩
  · exact h.elim
/-- xs.append(e) -/
def sApp (i : Nat) (E : DE) : DS := fun ρ A => fOwL ρ i fun ds => E ρ (fun d => ds.length < sizeLine ∧ A.nx (ρ.put i (.ow (.list (ds ++ [d]))))) (A.xx ρ)
theorem psx_app (i : Nat) (h : PX X T W .fr e E) (mk : ∀ {te : TE}, PE X e te → PS X st (tDrop (tBM X.K "list" rAppend (tVar i) (tCons te tNil)))) : PSx X T W rk st (sApp i E) := by
  obtain ⟨t, ht, s1⟩ := h.ex
  refine ⟨_, mk ht, fun n F H P σ ρ A Dd R h ok => ?_⟩
  obtain ⟨ds, ej, h⟩ := fOwL_some h
  obtain ⟨a, e1, ⟨xs, q, qd⟩, q1, q2, q3⟩ := R.slot i _ ej
  have e1 := join_some e1
  refine ⟨_, e1, .inl ⟨rfl, xs, SqL.of q⟩, ?_⟩
  refine s1 n F H P σ ρ _ _ _ R h (fun v d F1 H1 P1 st1 r1 q4 => ?_) (ok.xok R)
  have hl := dps_len qd
  refine ⟨a, xs, v, rfl, rfl, st1.keep a _ q q3, by omega, ?_⟩
  exact ok.nx F1 _ P1 σ _ ((R.step st1).mut ej e1 (dps_app (dps_ex st1.grow qd) (.cons r1 .nil))) q4.2
/-- xs.extend(e), e a list -/
def fListQ (Q : List D → Prop) : D → Prop
  | .list ds => Q ds
  | _ => False
def sExt (i : Nat) (E : DE) : DS := fun ρ A => fOwL ρ i fun ds => E ρ (fListQ fun es => ds.length + es.length ≤ sizeLine ∧ A.nx (ρ.put i (.ow (.list (ds ++ es))))) (A.xx ρ)
theorem psx_ext (i : Nat) (h : PX X T W .nw e E) (mk : ∀ {te : TE}, PE X e te → PS X st (tDrop (tBM X.K "list" rExtend (tVar i) (tCons te tNil)))) : PSx X T W rk st (sExt i E) := by
  obtain ⟨t, ht, s1⟩ := h.ex
  refine ⟨_, mk ht, fun n F H P σ ρ A Dd R h ok => ?_⟩
  obtain ⟨ds, ej, h⟩ := fOwL_some h
  obtain ⟨a, e1, ⟨xs, q, qd⟩, q1, q2, q3⟩ := R.slot i _ ej
  have e1 := join_some e1
  refine ⟨_, e1, .inl ⟨rfl, xs, SqL.of q⟩, ?_⟩
  refine s1 n F H P σ ρ _ _ _ R h (fun v d F1 H1 P1 st1 r1 q4 => ?_) (ok.xok R)
  have hl := dps_len qd
  cases d with
  | list es =>
    obtain ⟨b, ev, ⟨zs, z1, z2⟩, _⟩ := r1
    subst ev
    have hl2 := dps_len z2
    refine ⟨a, b, xs, zs, rfl, rfl, st1.keep a _ q q3, z1, by have := q4.1; omega, ?_⟩
    exact ok.nx F1 _ P1 σ _ ((R.step st1).mut ej e1 (dps_app (dps_ex st1.grow qd) z2)) q4.2
  | _ => exact (show False from q4).elim
/-- x = xs.pop() into a target -/
def sPop (i : Nat) (g : DG) : DS := fun ρ A => fOwL ρ i fun ds => match ds.getLast? with | some d => g d (ρ.put i (.ow (.list ds.dropLast))) A.nx | none => False
theorem last_dps {K : PySem.W.Frag} {F : Hp} {xs : List V} {ds : List D} {d : D} (h : DpAll K F xs ds) (e : ds.getLast? = some d) : ∃ v, xs[xs.length - 1]? = some v ∧ Dp K F v d := by
  rw [List.getLast?_eq_getElem?] at e
  obtain ⟨v, q, r⟩ := dps_get h e
  exact ⟨v, by rw [dps_len h]; exact q, r⟩
theorem dropLast_dps {K : PySem.W.Frag} {F : Hp} {xs : List V} {ds : List D} (h : DpAll K F xs ds) : DpAll K F xs.dropLast ds.dropLast := by
  rw [List.dropLast_eq_take, List.dropLast_eq_take, dps_len h]
  exact dps_take _ h
theorem psx_popTo {tg : Expr} (i : Nat) (hg : PGx X T js tg g) (mk : ∀ {t : TG}, PG X tg t → PS X st (tAsg (tBM0 X.K "list" rPop (tVar i)) t)) : PSx X T W rk st (sPop i g) := by
  obtain ⟨t, ht, s1⟩ := hg.ex
  refine ⟨_, mk ht, fun n F H P σ ρ A Dd R h ok => ?_⟩
  obtain ⟨ds, ej, h⟩ := fOwL_some h
  obtain ⟨a, e1, ⟨xs, q, qd⟩, q1, q2, q3⟩ := R.slot i _ ej
  have e1 := join_some e1
  cases z : ds.getLast? with
  | none => rw [z] at h; exact h.elim
  | some d =>
    rw [z] at h
    obtain ⟨v, hv, hd⟩ := last_dps qd z
    refine ⟨_, e1, .inl ⟨rfl, xs, SqL.of q⟩, a, xs, v, rfl, rfl, q, hv, ?_⟩
    exact s1 n F _ P σ _ v d _ _ (R.mut ej e1 (dropLast_dps qd)) hd h fun σ' ρ' R' _ q' => ok.nx F _ P σ' ρ' R' q'
def sPop0 (i : Nat) : DS := fun ρ A => fOwL ρ i fun ds => ds ≠ [] ∧ A.nx (ρ.put i (.ow (.list ds.dropLast)))
theorem psx_pop (i : Nat) (mk : PS X st (tDrop (tBM0 X.K "list" rPop (tVar i)))) : PSx X T W rk st (sPop0 i) := by
  refine ⟨_, mk, fun n F H P σ ρ A Dd R h ok => ?_⟩
  obtain ⟨ds, ej, h0, h⟩ := fOwL_some h
  obtain ⟨a, e1, ⟨xs, q, qd⟩, q1, q2, q3⟩ := R.slot i _ ej
  have e1 := join_some e1
  cases z : ds.getLast? with
  | none => exact absurd (List.getLast?_eq_none_iff.mp z) h0
  | some d =>
    obtain ⟨v, hv, hd⟩ := last_dps qd z
    exact ⟨_, e1, .inl ⟨rfl, xs, SqL.of q⟩, a, xs, v, rfl, rfl, q, hv, ok.nx F _ P σ _ (R.mut ej e1 (dropLast_dps qd)) h⟩
/-- xs[i] = e -/
def sSetIx (i : Nat) (Ei Ev : DE) : DS := fun ρ A => Ev ρ (fun d => fOwL ρ i fun ds => Ei ρ (fInt fun k => match ixN ds.length k with | some j => A.nx (ρ.put i (.ow (.list (ds.set j d)))) | none => False) (A.xx ρ)) (A.xx ρ)
theorem psx_setIx (i : Nat) {ie : Expr} (hi : PX X T W .vw ie Ea) (hv : PX X T W .fr e E) (mk : ∀ {ti te : TE}, PE X ie ti → PE X e te → PS X st (tAsg te (gSub (tVar i) ti rSetL))) : PSx X T W rk st (sSetIx i Ea E) := by
  obtain ⟨t, ht, s1⟩ := hv.ex
  obtain ⟨u, hu, s2⟩ := hi.ex
  refine ⟨_, mk hu ht, fun n F H P σ ρ A Dd R h ok => ?_⟩
  refine s1 n F H P σ ρ _ _ _ R h (fun v d F1 H1 P1 st1 r1 h => ?_) (ok.xok R)
  have R1 := R.step st1
  obtain ⟨ds, ej, h⟩ := fOwL_some h
  obtain ⟨a, e1, ⟨xs, q, qd⟩, q1, q2, q3⟩ := R1.slot i _ ej
  have e1 := join_some e1
  refine ⟨_, e1, ?_⟩
  refine s2 n F1 H1 P1 σ ρ _ _ _ R1 h (fun w d2 F2 H2 P2 st2 r2 h => ?_) (ok.xok R1)
  obtain ⟨k, e2, _, h⟩ := fInt_vw r2 h
  cases z : ixN ds.length k with
  | none => rw [z] at h; exact h.elim
  | some j =>
    rw [z] at h
    refine ⟨a, xs, k, j, rfl, e2, st2.keep a _ q q3, by rw [dps_len qd]; exact z, ?_⟩
    exact ok.nx F2 _ P2 σ _ ((R1.step st2).mut ej e1 (dps_set (dp_ex st2.grow r1) j (dps_ex st2.grow qd))) h

/-! ### x op= e on ints -/
def sAug (i : Nat) (f : Int → Int → Int) (E : DE) : DS := fun ρ A => match ρ.get i with | .fr (.int a) => E ρ (fInt fun b => A.nx (ρ.put i (.fr (.int (f a b))))) (A.xx ρ) | _ => False
theorem psx_aug (i : Nat) {f : Int → Int → Int} (h : PX X T W .vw e E) (mk : ∀ {te : TE}, PE X e te → PS X st (tAug i te (ipI f))) : PSx X T W rk st (sAug i f E) := by
  obtain ⟨t, ht, s1⟩ := h.ex
  refine ⟨_, mk ht, fun n F H P σ ρ A Dd R h ok => ?_⟩
  unfold sAug at h
  split at h
  · rename_i a ej
    obtain ⟨x, e1, q⟩ := R.slot i _ (get_some ej (by simp))
    cases q
    refine ⟨_, join_some e1, ?_⟩
    refine s1 n F H P σ ρ _ _ _ R h (fun v d F1 H1 P1 st1 r1 h => ?_) (ok.xok R)
    obtain ⟨k, e2, _, h⟩ := fInt_vw r1 h
    exact ⟨a, k, rfl, e2, ok.nx F1 H1 P1 _ _ ((R.step st1).put (s := .fr (.int (f a k))) ⟨_, rfl, .int _⟩ (fun _ => by simp)) h⟩
  · exact h.elim
/-- a, b = x, y -/
def sPar (i j : Nat) (A0 : DA) : DS := fun ρ A => A0 ρ (fun ds => match ds with | [d, e] => A.nx ((ρ.put i (.fr d)).put j (.fr e)) | _ => False) (A.xx ρ)
theorem psx_par (i j : Nat) (h : PAx X T W [.fr, .fr] es A) (mk : ∀ {ta : TA}, PA X es ta → PS X st (tPar i j ta)) : PSx X T W rk st (sPar i j A) := by
  obtain ⟨t, ht, s1⟩ := h.ex
  refine ⟨_, mk ht, fun n F H P σ ρ A Dd R h ok => ?_⟩
  refine s1 n F H P σ ρ _ _ _ R h (fun vs ds F1 H1 P1 st1 r1 h => ?_) (ok.xok R)
  have r2 := resL_fr (ks := [.fr, .fr]) ⟨rfl, rfl, trivial⟩ r1
  split at h
  · cases r2 with
    | cons a r2 =>
      cases r2 with
      | cons b r2 =>
        cases r2
        exact ⟨_, _, rfl, ok.nx F1 H1 P1 _ _ (((R.step st1).put (s := .fr _) ⟨_, rfl, a⟩ (fun _ => by simp)).put (s := .fr _) ⟨_, rfl, b⟩ (fun _ => by simp)) h⟩
  · exact h.elim
end

/-! ### a def -/
def slOf : RK → D → Sl
  | .fr, d => .fr d
  | .vw, d => .bo d
  | .tp, _ => .tp
  | _, _ => .un
def env0 : List RK → List D → Nat → Env
  | k :: ks, d :: ds, m => slOf k d :: env0 ks ds (m - 1)
  | _, _, m => List.replicate m .un
def retK : RK → RK
  | .nw => .own
  | k => k
theorem env0_get {K : PySem.W.Frag} {T : Tape} {n : En} {Hs F H : Hp} {P : Fp} : ∀ {ks : List RK} {vs : List V} {ds : List D} {m : Nat}, ResL K T n Hs F H P ks vs ds → ∀ (i : Nat) (s : Sl), (env0 ks ds m)[i]? = some s → s = .un ∨ ∃ k d v, vs[i]? = some v ∧ s = slOf k d ∧ Res K T n k Hs F H P v d
  | [], [], [], m, _, i, s, e => by
    simp only [env0, List.getElem?_replicate] at e
    split at e
    · cases e; exact .inl rfl
    · cases e
  | k :: ks, v :: vs, d :: ds, m, ⟨a, b⟩, i, s, e => by
    cases i with
    | zero => simp only [env0, List.getElem?_cons_zero] at e; cases e; exact .inr ⟨k, d, v, rfl, rfl, a⟩
    | succ i =>
      simp only [env0, List.getElem?_cons_succ] at e
      rcases env0_get b i s e with q | ⟨k, d, v, q1, q2, q3⟩
      · exact .inl q
      · exact .inr ⟨k, d, v, by simpa using q1, q2, q3⟩
  | [], [], _ :: _, _, h, _, _, _ => h.elim
  | [], _ :: _, _, _, h, _, _, _ => h.elim
  | _ :: _, [], _, _, h, _, _, _ => h.elim
  | _ :: _, _ :: _, [], _, h, _, _, _ => h.elim
theorem env0_len : ∀ {ks : List RK} {ds : List D} {m : Nat}, ks.length = ds.length → ks.length ≤ m → (env0 ks ds m).length = m
  | [], [], m, _, _ => by simp [env0]
  | k :: ks, d :: ds, m, h, hm => by
    simp only [env0, List.length_cons]
    have := env0_len (ks := ks) (ds := ds) (m := m - 1) (by simpa using h) (by simp only [List.length_cons] at hm; omega)
    simp only [List.length_cons] at hm
    omega
  | [], _ :: _, _, h, _ => by simp at h
  | _ :: _, [], _, h, _ => by simp at h
theorem start_get {N : List Str} {vs : List V} {i : Nat} {v : V} (h : vs[i]? = some v) : ((L2.start N vs)[i]?).join = some v := by
  have hl := (List.getElem?_eq_some_iff.mp h).1
  unfold L2.start
  rw [List.getElem?_append_left (by simpa using hl), List.getElem?_map, h]
  rfl
theorem rel_start {K : PySem.W.Frag} {T : Tape} {n : En} {N : List Str} {Hs F H : Hp} {P : Fp} {ks : List RK} {vs : List V} {ds : List D} (hF : Ex F H) (pF : ∀ a, P a → F a = none) (pH : ∀ a, P a → H a ≠ none) (hl : ks.length ≤ N.length)
    (r : ResL K T n Hs F H P ks vs ds) : Rel K T (En.mk H F P) F H P (L2.start N vs) (env0 ks ds N.length) := by
  obtain ⟨l1, l2⟩ := resL_len r
  refine ⟨hF, Ex.refl F, fun a h => .inl h, fun _ _ h _ => h, fun _ h => h, fun _ h => .inl h, pF, pH, fun _ h => h, ?_, fun i s e => ?_, fun i j a d d' e1 _ _ _ => ?_⟩
  · rw [env0_len l2.symm hl]
    unfold L2.start
    simp only [List.length_append, List.length_map, List.length_replicate]
    omega
  · rcases env0_get r i s e with q | ⟨k, d, v, q1, q2, q3⟩
    · subst q; trivial
    · subst q2
      cases k with
      | fr => exact ⟨v, start_get q1, q3⟩
      | vw => exact ⟨v, start_get q1, q3⟩
      | tp =>
        obtain ⟨t, e2, z⟩ := q3
        exact ⟨t, by rw [start_get q1, e2], z⟩
      | _ => trivial
  · rcases env0_get r i _ e1 with q | ⟨k, d, v, q1, q2, q3⟩
    · cases q
    · cases k <;> cases q2
theorem rel_end {K : PySem.W.Frag} {T : Tape} {F0 H0 F H : Hp} {P0 P : Fp} {σ : L2.St} {ρ : Env} (R : Rel K T (En.mk H0 F0 P0) F H P σ ρ) : Step T F0 H0 P0 F H P :=
  ⟨R.grow, R.fnew, R.exF, R.keep, R.dom, R.pnew, R.pF, R.pH, R.tape⟩
/-- THE RULE for a def -/
theorem fn_ok {P0 : Program} {w : World} {K : PySem.W.Frag} {mg : Str → Option Value} {base : Heap} {x qual : Str} {st : Stmt} {f : Addr} {fd : FuncData} {N ps : List Str} {k : Nat} {T : Tape} {S : FSp} (F : Fun K x qual st f fd) (Sc : FnScope N ps (defScope st)) (hk : S.ks.length = ps.length) (hr : S.rk = .fr ∨ S.rk = .nw)
    (body : ∀ (cdv : Value) (A : Around) (outer : List PySem.Env) (s : Shared) (H : Hp) (E : XK), Room k (A.deeper (envOfC qual (defScope st) s.heap.objs.size f cdv)) →
      ∃ B : DS, PSsx (cxOf (L2.CX P0 w) P0 w K mg base N qual (defScope st) f cdv A outer s H E) T (fun c d _ H => E c d H) (retK S.rk) (defBody st) B ∧
        ∀ ds Q Qx, S.f ds Q Qx → B (env0 S.ks ds N.length) ⟨fun _ => S.rk = .fr ∧ Q .none, Q, fun _ => False, fun _ => False, fun _ => Qx⟩) :
    FnOk P0 w K mg base (L2.CX P0 w) (k + 1) f fd ps (spD K mg T S) := by
  have hpl : ps.length ≤ N.length := by have := congrArg List.length Sc.pre; rw [List.length_take] at this; omega
  refine F.okX Sc (fun vs H Q E h => ?_) (fun cdv A outer s H vs Q E hr2 h => ?_)
  · obtain ⟨n, Hs, F', P', ds, _, _, _, r, _⟩ := h
    rw [(resL_len r).1, hk]
  · obtain ⟨n, Hs, F', P', ds, hF, pF, pH, r, hf⟩ := h
    obtain ⟨B, hB, hS⟩ := body cdv A outer s H E hr2
    obtain ⟨t, ht, s1⟩ := hB.ex
    refine ⟨t, ht, ?_⟩
    have R := rel_start (N := N) hF pF pH (by rw [hk]; exact hpl) r
    refine s1 _ F' H P' _ _ _ _ R (hS ds _ _ hf) ⟨fun F2 H2 P2 σ2 ρ2 R2 q => ?_, fun v d F2 H2 P2 σ2 ρ2 R2 r2 q => ?_, fun F2 H2 P2 σ2 ρ2 R2 q => q.elim, fun F2 H2 P2 σ2 ρ2 R2 q => q.elim, fun x c dd F2 H2 P2 σ2 ρ2 R2 z q => ?_⟩
    · obtain ⟨e, q⟩ := q
      exact q .non F2 H2 P2 (rel_end R2) (by rw [e]; exact Dp.non)
    · refine q v F2 H2 P2 (rel_end R2) ?_
      rcases hr with e | e
      · rw [e] at r2 ⊢; exact r2
      · rw [e] at r2 ⊢; exact r2
    · exact q c dd F2 H2 P2 (rel_end R2) z
end Dt

set_option maxRecDepth 100000
set_option maxHeartbeats 4000000
namespace Dt
open PySem PySem.Spec PyProof.Rows L2

/-- a def that keeps its promise, by its name -/
structure FnD (P : Program) (w : World) (K : PySem.W.Frag) (mg : Str → Option Value) (base : Heap) (T : Tape) (x : Str) (k : Nat) (S : FSp) : Prop where
  ex : ∃ f fd ps, FnOk P w K mg base (L2.CX P w) k f fd ps (spD K mg T S) ∧ mg x = some (.ref f) ∧ PySem.W.keepIn K (.ref f) = true ∧ Binds K fd ps []
/-- a def as the top has laid it -/
structure DefD (K : PySem.W.Frag) (mg : Str → Option Value) (x : Str) (st : Stmt) (ps : List Str) : Prop where
  ex : ∃ f fd, Fun K x x st f fd ∧ mg x = some (.ref f) ∧ Binds K fd ps []
section
variable {X : Cx} {T : Tape} {W : WX} {k : RK} {e a b c : Expr} {es : List Expr} {E Ea Eb : DE} {A : DA} {pos p : Pos} {st : Stmt}
theorem px_callD {S : FSp} {j : Nat} {x : Str} (F : FnD X.prog X.w X.K X.mg X.base T x j S) (tk : Takes X W) (hr : Room j X.A) (hg : Gl X x) (ha : PAx X T W S.ks (e :: es) A) (hdb : (x == ("__debug__" : Str)) = false := by decide)
    (he : starEach (e :: es) X.env = (false, eval e X.env) :: starEach es X.env := by rfl) (hpl : (backTo pos (starEach es X.env)).any (·.1) = false := by rfl) :
    PX X T W S.rk (.Call (.Name x p) (e :: es) [] pos) (xCall S A) := by
  obtain ⟨f, fd, ps, F, hm, hk, hb⟩ := F.ex
  exact px_call F tk hr hg hm hk hb ha hdb he hpl
theorem fnD {P0 : Program} {w : World} {K : PySem.W.Frag} {mg : Str → Option Value} {base : Heap} {x : Str} {N ps : List Str} {k : Nat} {S : FSp} {B : DS} (D : DefD K mg x st ps) (Sc : FnScope N ps (defScope st)) (hk : S.ks.length = ps.length) (hr : S.rk = .fr ∨ S.rk = .nw)
    (body : ∀ (f : Addr) (cdv : Value) (A : Around) (outer : List PySem.Env) (s : Shared) (H : Hp) (E : XK), Room k (A.deeper (envOfC x (defScope st) s.heap.objs.size f cdv)) →
      PSsx (cxOf (L2.CX P0 w) P0 w K mg base N x (defScope st) f cdv A outer s H E) T (fun c d _ H => E c d H) (retK S.rk) (defBody st) B)
    (pure : ∀ ds Q Qx, S.f ds Q Qx → B (env0 S.ks ds N.length) ⟨fun _ => S.rk = .fr ∧ Q .none, Q, fun _ => False, fun _ => False, fun _ => Qx⟩) : FnD P0 w K mg base T x (k + 1) S := by
  obtain ⟨f, fd, F, hm, hb⟩ := D.ex
  exact ⟨f, fd, ps, fn_ok F Sc hk hr fun cdv A outer s H E hroom => ⟨B, body f cdv A outer s H E hroom, pure⟩, hm, F.kp, hb⟩
theorem hu64 {j : Nat} {A : Around} (hr : Room j A) : A.units + 64 < cLine := hr.units
theorem hu65 {j : Nat} {A : Around} (hr : Room j A) : A.units + 65 < cLine := by have := hr.un; omega
/-- built-in functions and types, by name -/
theorem px_b {id : String} {x : Str} {r : List V → Hp → VK → Prop} {f : List D → (D → Prop) → Prop} {ks : List RK} (hc : CallR X (.builtin id) r) (hr : RCOk X T k r f) (hg : Gl X x) (hm : X.mg x = none) (hv : bootBuiltins x = some (.builtin id)) (ha : PAx X T W ks (e :: es) A) (hk : AllVw ks := by repeat (first | exact trivial | refine ⟨rfl, ?_⟩))
    (hn : x ≠ "__name__" := by decide) (hdb : (x == ("__debug__" : Str)) = false := by decide) (hs : starEach (e :: es) X.env = (false, eval e X.env) :: starEach es X.env := by rfl) (hpl : (backTo pos (starEach es X.env)).any (·.1) = false := by rfl) :
    PX X T W k (.Call (.Name x p) (e :: es) [] pos) (xCB f A) := px_cb ha hk (fun h => pe_callB hc hg hm hv h hn hdb hs hpl) hr
theorem px_ty {id : String} {x : Str} {r : List V → Hp → VK → Prop} {f : List D → (D → Prop) → Prop} {ks : List RK} (hc : CallR X (.type id) r) (hr : RCOk X T k r f) (hg : Gl X x) (hm : X.mg x = none) (hv : bootBuiltins x = some (.type id)) (ha : PAx X T W ks (e :: es) A) (hk : AllVw ks := by repeat (first | exact trivial | refine ⟨rfl, ?_⟩))
    (hn : x ≠ "__name__" := by decide) (hdb : (x == ("__debug__" : Str)) = false := by decide) (hs : starEach (e :: es) X.env = (false, eval e X.env) :: starEach es X.env := by rfl) (hpl : (backTo pos (starEach es X.env)).any (·.1) = false := by rfl) :
    PX X T W k (.Call (.Name x p) (e :: es) [] pos) (xCB f A) := px_cb ha hk (fun h => pe_callTy hc hg hm hv h hn hdb hs hpl) hr
theorem px_add (ha : PX X T W .vw a Ea) (hb : PX X T W .vw b Eb) : True := trivial

/-! ### isinstance(x, T), T a built-in type -/
theorem tyX_of {K : PySem.W.Frag} {H : Hp} {v : V} {d : D} (h : Dp K H v d) : TyX K H v (.type (tyOf d)) := by
  cases h with
  | non => exact .base .non
  | bl b => exact .base (.bl b)
  | int i => exact .base (.int i)
  | str x => exact .base (.str x)
  | lst h r =>
    rcases h with (h | ⟨o, h⟩) | ⟨o, its, n, hk, hc, _⟩
    · exact .base (.lst h)
    · exact .base (.frz h)
    · exact .kList hk hc
  | tup h r =>
    rcases h with (h | ⟨o, h⟩) | ⟨o, its, n, hk, hc, _⟩
    · exact .base (.tup h)
    · exact .fTuple h
    · exact .kTuple hk hc
def fIsi (t : String) : D → (D → Prop) → Prop
  | .dict _, _ => False
  | d, Q => Q (.bool (isA t d))
def isTys : List String := ["int", "bool", "str", "list", "tuple"]
theorem kit_tab : ∀ a ∈ ["NoneType", "bool", "int", "str", "list", "tuple"], ∀ b ∈ isTys, kitB a b = some (isTn b a) := by decide +kernel
theorem isi_ok {K : PySem.W.Frag} {t : String} (ht : t ∈ isTys) {d : D} (hd : ∀ kvs, d ≠ .dict kvs) : PySem.W.kitOne K (.type (tyOf d)) (.type t) = some (isA t d) := by
  refine kit_ty (kit_tab (tyOf d) ?_ t ht)
  cases d with
  | dict kvs => exact absurd rfl (hd kvs)
  | _ => simp [tyOf]
def xIsi (t : String) (Ea : DE) : DE := fun ρ Q Qx => Ea ρ (fun d => fIsi t d Q) Qx
theorem px_isi {t : String} {ts : Str} {p2 : Pos} (ht : t ∈ isTys) (hg : Gl X "isinstance") (hm : X.mg "isinstance" = none) (hg2 : Gl X ts) (hm2 : X.mg ts = none) (hv : bootBuiltins ts = some (.type t)) (hn : ts ≠ "__name__") (hd : (ts == ("__debug__" : Str)) = false) (ha : PX X T W .vw a Ea)
    (hs : starEach (a :: [.Name ts p2]) X.env = (false, eval a X.env) :: starEach [.Name ts p2] X.env := by rfl) (hs2 : starEach ([.Name ts p2]) X.env = (false, eval (.Name ts p2) X.env) :: starEach [] X.env := by rfl) (hpl : (backTo pos (starEach [.Name ts p2] X.env)).any (·.1) = false := by rfl) :
    PX X T W .fr (.Call (.Name "isinstance" p) [a, .Name ts p2] [] pos) (xIsi t Ea) := by
  obtain ⟨ta, h1, s1⟩ := ha.ex
  refine ⟨_, pe_callB call_isi hg hm PyProof.Rows.boot_isinstance (pa_cons h1 (pa_cons (pe_bltn (v := .ty t) hg2 hm2 hv rfl hn hd) pa_nil hs2) hs) (by decide) (by decide) hs hpl, fun n F H P σ ρ Q Qx QV R hE hq hx => ?_⟩
  refine s1 n F H P σ ρ _ _ _ R hE (fun v d F1 H1 P1 st1 r1 q => ?_) hx
  have R1 := R.step st1
  have nd : ∀ kvs, d ≠ .dict kvs := fun kvs e => by subst e; exact (show False from q)
  have q : Q (.bool (isA t d)) := by
    cases d with
    | dict kvs => exact absurd rfl (nd kvs)
    | _ => exact q
  exact ⟨v, .ty t, _, _, isA t d, rfl, .ty t, tyX_of (View.dp R1.exF r1), isi_ok ht nd, hq _ _ F1 H1 P1 st1 (.bl _) q⟩
end
end Dt

set_option maxRecDepth 100000
set_option maxHeartbeats 4000000
namespace Dt
open PySem PySem.Spec PyProof.Rows L2
/-- the built-in names are nobody's else -/
structure Bn (mg : Str → Option Value) : Prop where
  len : mg "len" = none
  tuple : mg "tuple" = none
  list : mg "list" = none
  int : mg "int" = none
  bool : mg "bool" = none
  str : mg "str" = none
  abs : mg "abs" = none
  any : mg "any" = none
  all : mg "all" = none
  sum : mg "sum" = none
  max : mg "max" = none
  min : mg "min" = none
  range : mg "range" = none
  zip : mg "zip" = none
  enumerate : mg "enumerate" = none
  isinstance : mg "isinstance" = none
  sorted : mg "sorted" = none
  set : mg "set" = none
/-! ### laws of the readings -/
theorem lcD_map {α : Type} {g : DG} {tt : DT} {E : DE} {ρ : Env} (enc : α → D) (f : α → D) : ∀ (xs : List α) (Q : List D → Prop),
    (∀ x ∈ xs, ∀ R : D → Prop, R (f x) → g (enc x) ρ (fun ρ1 => tt ρ1 (fun b => b = true ∧ E ρ1 R (fun _ => False)) (fun _ => False))) →
    (hm : ∀ d ρ R R', (∀ b, R b → R' b) → g d ρ R → g d ρ R') → (ht : ∀ ρ R R' Rx, (∀ b, R b → R' b) → tt ρ R Rx → tt ρ R' Rx) → Q (xs.map f) → lcD g tt E ρ (xs.map enc) Q
  | [], Q, _, _, _, q => q
  | x :: xs, Q, h, hm, ht, q => by
    refine hm _ _ _ _ (fun ρ1 z => ht _ _ _ _ (fun b w => ?_) z) (h x (List.mem_cons_self ..) (fun y => lcD g tt E ρ (xs.map enc) fun ys => Q (y :: ys)) (lcD_map enc f xs (fun ys => Q (f x :: ys)) (fun y hy => h y (List.mem_cons_of_mem _ hy)) hm ht q))
    rw [if_pos w.1]
    exact w.2
/-- .. with a condition -/
theorem lcD_filter {α : Type} {g : DG} {tt : DT} {E : DE} {ρ : Env} (enc : α → D) (p : α → Bool) (f : α → D) : ∀ (xs : List α) (Q : List D → Prop),
    (∀ x ∈ xs, ∀ R : D → Prop, ∀ R0 : Prop, (p x = true → R (f x)) → (p x = false → R0) → g (enc x) ρ (fun ρ1 => tt ρ1 (fun b => if b = true then E ρ1 R (fun _ => False) else R0) (fun _ => False))) →
    Q ((xs.filter p).map f) → lcD g tt E ρ (xs.map enc) Q
  | [], Q, _, q => q
  | x :: xs, Q, h, q => by
    refine h x (List.mem_cons_self ..) (fun y => lcD g tt E ρ (xs.map enc) fun ys => Q (y :: ys)) (lcD g tt E ρ (xs.map enc) Q) (fun hp => ?_) (fun hp => ?_)
    · exact lcD_filter enc p f xs _ (fun y hy => h y (List.mem_cons_of_mem _ hy)) (by rw [List.filter_cons_of_pos hp] at q; exact q)
    · exact lcD_filter enc p f xs _ (fun y hy => h y (List.mem_cons_of_mem _ hy)) (by rw [List.filter_cons_of_neg (by rw [hp]; simp)] at q; exact q)
/-- .. without one -/
theorem lcD_all {α : Type} {g : DG} {tt : DT} {E : DE} {ρ : Env} (enc : α → D) (f : α → D) : ∀ (xs : List α) (Q : List D → Prop),
    (∀ x ∈ xs, ∀ R : D → Prop, ∀ R0 : Prop, R (f x) → g (enc x) ρ (fun ρ1 => tt ρ1 (fun b => if b = true then E ρ1 R (fun _ => False) else R0) (fun _ => False))) →
    Q (xs.map f) → lcD g tt E ρ (xs.map enc) Q
  | [], Q, _, q => q
  | x :: xs, Q, h, q => h x (List.mem_cons_self ..) (fun y => lcD g tt E ρ (xs.map enc) fun ys => Q (y :: ys)) (lcD g tt E ρ (xs.map enc) Q)
      (lcD_all enc f xs _ (fun y hy => h y (List.mem_cons_of_mem _ hy)) q)
/-- a walk with an invariant: I done rest state -/
theorem forD_inv {α : Type} {g : DG} {S : DS} (enc : α → D) (I : List α → Env → Prop) (A : SE) : ∀ (xs pre : List α) (ρ : Env), I pre ρ →
    (∀ pre x ρ, x ∈ xs → I pre ρ → ∀ (N : Env → Prop), (∀ ρ', I (pre ++ [x]) ρ' → N ρ') → g (enc x) ρ (fun ρ1 => S ρ1 { A with nx := N, ct := N, bk := A.nx })) →
    (∀ ρ, I (pre ++ xs) ρ → A.nx ρ) → forD g S (xs.map enc) ρ A
  | [], pre, ρ, h0, _, he => he ρ (by simpa using h0)
  | x :: xs, pre, ρ, h0, hs, he => hs pre x ρ (List.mem_cons_self ..) h0 _ fun ρ' h' => forD_inv enc I A xs (pre ++ [x]) ρ' h' (fun pre y ρ hy => hs pre y ρ (List.mem_cons_of_mem _ hy)) fun ρ h => he ρ (by simpa using h)
/-! ### calls, the kind told -/
section
variable {X : Cx} {T : Tape} {W : WX} {e : Expr} {es : List Expr} {A : DA} {pos p : Pos}
theorem px_callF {S : FSp} {j : Nat} {x : Str} (F : FnD X.prog X.w X.K X.mg X.base T x j S) (tk : Takes X W) (hr : Room j X.A) (hg : Gl X x) (ha : PAx X T W S.ks (e :: es) A) (hk : S.rk = .fr := by rfl) (hdb : (x == ("__debug__" : Str)) = false := by decide)
    (he : starEach (e :: es) X.env = (false, eval e X.env) :: starEach es X.env := by rfl) (hpl : (backTo pos (starEach es X.env)).any (·.1) = false := by rfl) :
    PX X T W .fr (.Call (.Name x p) (e :: es) [] pos) (xCall S A) := hk ▸ px_callD F tk hr hg ha hdb he hpl
theorem px_callN {S : FSp} {j : Nat} {x : Str} (F : FnD X.prog X.w X.K X.mg X.base T x j S) (tk : Takes X W) (hr : Room j X.A) (hg : Gl X x) (ha : PAx X T W S.ks (e :: es) A) (hk : S.rk = .nw := by rfl) (hdb : (x == ("__debug__" : Str)) = false := by decide)
    (he : starEach (e :: es) X.env = (false, eval e X.env) :: starEach es X.env := by rfl) (hpl : (backTo pos (starEach es X.env)).any (·.1) = false := by rfl) :
    PX X T W .nw (.Call (.Name x p) (e :: es) [] pos) (xCall S A) := hk ▸ px_callD F tk hr hg ha hdb he hpl
end
/-! ### places -/
theorem fIx_t0 {a : D} {r : List D} {Q : D → Prop} : fIx (.tuple (a :: r)) (.int 0) Q = Q a := by simp [fIx, atI, ixN]
theorem atI_nat {α : Type} {xs : List α} {i : Nat} {d : α} (h : xs[i]? = some d) : atI xs (i : Int) = some d := by
  obtain ⟨hl, _⟩ := List.getElem?_eq_some_iff.mp h
  have h1 : (i : Int) < (xs.length : Int) := by omega
  have h0 : (0 : Int) ≤ (i : Int) := by omega
  simp [atI, ixN, h1, h0, h]
theorem fIx_t1 {a b : D} {r : List D} {Q : D → Prop} : fIx (.tuple (a :: b :: r)) (.int 1) Q = Q b := by
  have : atI (a :: b :: r) (1 : Int) = some b := atI_nat (i := 1) rfl
  simp only [fIx, this]
theorem fIx_t2 {a b c : D} {r : List D} {Q : D → Prop} : fIx (.tuple (a :: b :: c :: r)) (.int 2) Q = Q c := by
  have : atI (a :: b :: c :: r) (2 : Int) = some c := atI_nat (i := 2) rfl
  simp only [fIx, this]
theorem fIx_t3 {a b c e : D} {r : List D} {Q : D → Prop} : fIx (.tuple (a :: b :: c :: e :: r)) (.int 3) Q = Q e := by
  have : atI (a :: b :: c :: e :: r) (3 : Int) = some e := atI_nat (i := 3) rfl
  simp only [fIx, this]
theorem ixN_nat {n i : Nat} (h : i < n) : ixN n (i : Int) = some i := by
  have h1 : (i : Int) < (n : Int) := by omega
  have h0 : (0 : Int) ≤ (i : Int) := by omega
  simp [ixN, h1, h0]
theorem fIx_t {ds : List D} {i : Nat} {d : D} {Q : D → Prop} (h : ds[i]? = some d) (q : Q d) : fIx (.tuple ds) (.int (i : Int)) Q := by
  simp only [fIx, atI_nat h]; exact q
theorem fIx_l {ds : List D} {i : Nat} {d : D} {Q : D → Prop} (h : ds[i]? = some d) (q : Q d) : fIx (.list ds) (.int (i : Int)) Q := by
  simp only [fIx, atI_nat h]; exact q
end Dt

set_option maxRecDepth 100000
set_option maxHeartbeats 4000000
namespace Dx
open PySem PySem.Spec PyProof.Rows L2 NdefX PySem.W
/-! super().__init__(..) ahead of the rest of an own exception's __init__ (over ValueError, own classes between) -/
section
variable {prog : Program} {w : World} {A : Around} {E : Value → Shared → Prop} {h : Heap} {g : Array GenState} {d : Drawn} {t : Nat} {os : OsState}
/-- the wrapper called -/
theorem call_mw {u e C t0 : Addr} {c2 : Value} {rest : List Value} {Q : Value → Shared → Prop} {nm q : Str} {N : Addr} {bs bm : List Value} {hdct : Bool} {sn : List Str} {sub : List Value} {ab : Bool} {col : Option Bool} {dd : Option Addr} {k0 k1 k2 k3 k5 : Option Value}
    (hC : h.get? C = some (excClassObj nm q C N bs bm hdct sn sub ab col dd k0 k1 k2 k3 k5 "ValueError.__new__")) (he : h.get? e = some (excObj C t0 none c2)) (hu : h.get? u = some (kxs_mw "ValueError.__init__" e)) (hz : rest.length ≤ sizeLine)
    (hq : ∀ h' t1, (∀ b o, b ≠ e → h.get? b = some o → h'.get? b = some o) → h'.get? e = some (excObj C t1 none c2) → Q .none ⟨h', g, d, t, os⟩) :
    wpAny (model prog w) A (call (.ref u) rest) Q E ⟨h, g, d, t, os⟩ := by
  refine wpAny_call (codeAny_of_tree ?_)
  show wpAny _ A.in1 (callAny (.ref u) ⟨rest, []⟩) _ _ _
  simp only [callAny]
  refine wpAny_bind (wpAny_load hu ?_)
  simp only [kxs_mw, show (Value.type "method-wrapper" == Value.type "method" || Value.type "method-wrapper" == Value.type "builtin_function_or_method" || Value.type "method-wrapper" == Value.type "method-wrapper") = true by decide, if_true]
  refine KFB.if_so (by decide) ?_
  refine wpAny_bind (check_bound_init F.excBase_ValueError.toExcCallFacts hC he rfl ?_)
  refine wpAny_bind (wpAny_pure (wpAny_pure ?_))
  refine ⟨plainId_quiet F.excBase_ValueError.init.plain _, codeAny_builtin F.excBase_ValueError.initEntry ?_⟩
  exact exc_init_tree (cls := .ref C) (t0 := t0) (dv := none) (c2 := c2) (c3 := .none) (b4 := .bool false) he hz fun h' k e' t' => hq h' _ k e'
end
abbrev xnf (name qual : Str) (params : Arguments) (body : List Stmt) (scope : Scope) (cc cda : Addr) : NF := ⟨name, qual, params, body, scope, [("__class__", cc)], cda⟩
section
variable {CX : CXT} {P : Program} {w : World} {K : PySem.W.Frag} {mg : Str → Option Value} {base : Heap} {N ps ps' : List Str} {f cc cda D : Addr} {k : Nat} {name qual : Str} {params : Arguments} {body rest : List Stmt} {scope : Scope} {dV kV doc pm ct oc cl ccl : Value} {an od cld cdd : Option Addr}
  {osl csl ccs : Array (Option Value)} {cvs : Array Value} {file : Str} {tf : Tok} {ar : Arg} {cdD : ClassData} {e : Expr} {es : List Expr} {p0 p1 p2 p3 p4 : Pos} {sp : Sp}
theorem xinit (lk : K.lookup f = some ⟨oc, od, .func (fnX name qual params body scope [("__class__", cc)] dV kV doc pm an (.ref cda) ct), osl⟩) (hcd : codeIn K (.ref cda) qual = true)
    (lcell : K.lookup cc = some ⟨cl, cld, .cell (some (.ref D)), csl⟩) (lcode : K.lookup cda = some ⟨ccl, cdd, .fields cvs, ccs⟩) (hvs : cvs[2]? = some (.str file tf)) (hfile : ((P.main.file : Str) == file) = true)
    (S : NScope N ps ["__class__"] scope) (hsup : scope.names.lookup ("super" : Str) = some .globalImplicit) (hmg : mg "super" = none) (htop : (P.main.scope.names.lookup ("super" : Str)).isSome = false)
    (hp : (params.posonlyargs ++ params.args).head? = some ar) (har : ps = ar.arg :: ps') (he : ∀ env : Env, starEach (e :: es) env = (false, eval e env) :: starEach es env) (hpl : ∀ env : Env, (backTo p3 (starEach es env)).any (·.1) = false) {pl : Env → Sem Bool} (hcall : ∀ env : Env, eval (.Call (.Attribute (.Call (.Name "super" p0) [] [] p1) "__init__" p2) (e :: es) [] p3) env = (do
      let ov ← attributeBase (.Call (.Name "super" p0) [] [] p1) "__init__" env (eval (.Call (.Name "super" p0) [] [] p1) env)
      standAt p2.atName
      let (f, first) ← holding [ov] (getMethod ov "__init__" (pl env))
      callWith p3 f first (backTo p3 (starEach (e :: es) env)) []))
    (hsw : ∀ env : Env, swapsWith (.Call (.Attribute (.Call (.Name "super" p0) [] [] p1) "__init__" p2) (e :: es) [] p3) none p4.line env = pure false) (hD : clsIn K D = some cdD) (hany : nsIn K cStatics "thirdparty.any" = some none)
    (hb : body = .Expr (.Call (.Attribute (.Call (.Name "super" p0) [] [] p1) "__init__" p2) (e :: es) [] p3) p4 :: rest) (len : ∀ vs H Q E, sp vs H Q E → vs.length = ps.length)
    (hbody : ∀ (A : Around) (outer : List Env) (s : Shared) (H : Hp) (vs : List V) (Q : VK) (E : XK), Room k (A.deeper (envF (xnf name qual params body scope cc cda) f s.heap.objs.size)) → sp vs H Q E →
      ∃ (a C : Addr) (vs0 : List V) (ta : TA) (t : TS), vs = .ref a :: vs0 ∧ OexC K C ∧ H a = some (exo a C none) ∧ mroIn K C (.ref D) = some true ∧ ks_superIn K C D "__init__" = some (some (.builtin "ValueError.__init__")) ∧ subIn K (.ref C) (.type "ValueError") = some true ∧
        PA (ncx CX P w K mg base N (xnf name qual params body scope cc cda) f A outer s H E) (e :: es) ta ∧ PSs (ncx CX P w K mg base N (xnf name qual params body scope cc cda) f A outer s H E) rest t ∧
        ta (startF N vs [none]) H fun us H1 => us.length ≤ 1000 ∧ H1 = H ∧ t { nx := fun _ H' => Q .non H', rt := Q } (startF N vs [none]) H) :
    FnOk P w K mg base CX (k + 1) f (fnX name qual params body scope [("__class__", cc)] dV kV doc pm an (.ref cda) ct) ps sp := by
  refine ⟨len, fun A outer s H args us vs Q E hr e0 hbd r hsp => ?_⟩
  have hl := len _ _ _ _ hsp
  have KX : K.In s.heap := e0.mod.kin.keeps fun b o e => (e0.bs b o e).1
  have lim : s.heap.NoLimit := e0.mod.nolimit.keeps fun b o e => (e0.bs b o e).1
  have C0 : CellsAt [("__class__", cc)] ["__class__"] [none] s.heap H := by
    have look : ∀ y c, ([("__class__", cc)] : List (Str × Addr)).lookup y = some c → y = "__class__" ∧ c = cc := fun y c e => by
      have := mem_of_lookup e
      simp at this
      exact this
    have hcell : s.heap.IsCell cc (some (.ref D)) := ⟨_, KX _ _ lcell, rfl⟩
    refine ⟨rfl, fun y c e => ?_, fun x y c e1 e2 => ?_, fun i y e => ?_⟩
    · obtain ⟨rfl, rfl⟩ := look _ _ e
      exact ⟨(e0.bs _ _ (e0.mod.kin _ _ lcell)).2, _, hcell⟩
    · rw [(look _ _ e1).1, (look _ _ e2).1]
    · cases i with
      | zero =>
        simp at e
        subst e
        exact ⟨cc, by simp [List.lookup], fun v z => by simp at z⟩
      | succ i => simp at e
  refine ks_codeAny_call_defAt (fd := fnX name qual params body scope [("__class__", cc)] dV kV doc pm an (.ref cda) ct) (body := body) (binds := ps.zip us) hr.depth (KX _ _ lk) rfl lim (codeRec_of KX hcd) rfl hbd S.nocell
    (fun x hx => S.par x.1 (List.of_mem_zip hx).1) (fun h₁ hns kp => ?_) S.co S.gen S.kind
  show _root_.PySem.wpAt (model P w) (A.deeper (envF (xnf name qual params body scope cc cda) f s.heap.objs.size)) (.func body (envF (xnf name qual params body scope cc cda) f s.heap.objs.size)) (execs body (envF (xnf name qual params body scope cc cda) f s.heap.objs.size)) _ _ _
  obtain ⟨a, C, vs0, ta, t, ev, T, ha, hsub, hsupr, hve, hta, ht, hq⟩ := hbody A outer s H vs Q E (hr.deeper _) hsp
  have I : Inv (ncx CX P w K mg base N (xnf name qual params body scope cc cda) f A outer s H E) [] (startF N vs [none]) H { s with heap := h₁, toks := s.toks + (ps.zip us).length } := inv_startN S hr.hd e0 hl r C0 hns kp
  subst ev
  have X1 : K.In h₁ := by exact I.kIn
  obtain ⟨mb, hb1, hb2⟩ := e0.mod.blt
  have bk : ∀ b o, base.get? b = some o → h₁.get? b = some o := by exact I.bk
  have hskind : scope.kind = .function := S.kind
  have hkc : scope.names.lookup ("__class__" : Str) = some .free := S.frk _ (List.mem_singleton.mpr rfl)
  have hka : scope.names.lookup ar.arg = some .local := S.par _ (by rw [har]; exact List.mem_cons_self)
  have ndP : ps.Nodup := by
    have q := S.nd.sublist (List.take_sublist (ps.length + 1) N)
    have := S.pre
    rw [show ps.length + 1 = ps.length + (["__class__"] : List Str).length from rfl, this] at q
    exact (List.nodup_append.mp q).1
  obtain ⟨us0, rfl⟩ : ∃ us0, us = .ref a :: us0 := by
    cases r with
    | cons ra rr =>
      obtain rfl := (show _ = Value.ref a from ra)
      exact ⟨_, rfl⟩
  have hself : (ps.zip (Value.ref a :: us0)).reverse.lookup ar.arg = some (.ref a) := zip_look (i := 0) ndP (by rw [har]; rfl) rfl
  obtain ⟨oD, hD1, hD2⟩ : ∃ oD, h₁.get? D = some oD ∧ oD.data = .cls cdD := by
    unfold clsIn at hD
    split at hD
    · rename_i c d cd' sl ho
      cases hD
      exact ⟨_, X1 _ _ ho, rfl⟩
    · cases hD
  have hokI : HOk P w H h₁ := by exact I.hok
  obtain ⟨t1, hx⟩ := exo_at hokI ha
  have J0 : ∀ {hp : Heap} {tt : Addr}, hp.get? a = some (excObj C tt none .none) → InstAt hp a (excObj C tt none .none) C none := fun z => ⟨z, rfl, rfl, trivial⟩
  obtain ⟨nm, q, NN, bs, bm, sn, sub, ab, col, dd, k0, k1, k2, k3, k5, hC, hbm⟩ := T.cls
  have hcl : clsIn K C = some { name := nm, bases := bs, mro := .ref C :: bm, ns := NN, qualname := q, hasDict := true, slotNames := sn, subclasses := sub, abstract := ab, collection := col, hasDel := false } := by unfold clsIn; rw [hC] <;> rfl
  rw [show execs body (envF (xnf name qual params body scope cc cda) f s.heap.objs.size) = execs (.Expr (.Call (.Attribute (.Call (.Name "super" p0) [] [] p1) "__init__" p2) (e :: es) [] p3) p4 :: rest) (envF (xnf name qual params body scope cc cda) f s.heap.objs.size) from by rw [← hb]]
  refine ks_wpAt_execs_cons (ks_wpAt_Expr_any (ks_wpAt_MethodCall ?_ (hcall _)) I.quiet (hsw _))
  refine ks_wpAt_super_base (f := f) (cc := cda) (ar := ar) (vs := cvs) (file := file) (tf := tf) hsup hkc (by decide) rfl (X1 _ _ lk) rfl hp rfl (X1 _ _ lcode) rfl hvs hfile htop ?_
  refine ks_loadName_global hskind hsup (Calls.loadGlobal_builtin (mg := mg) (e0.mod.glob.keeps bk) hmg (hb1.keeps bk) ((hb2 _ (by decide)).trans (by first | rfl | decide +kernel)) ⟨rfl, ?_⟩)
  refine wpAny_loadName_free hskind hkc (by first | rfl | simp [List.lookup]) ⟨_, X1 _ _ lcell, rfl⟩ ?_
  refine wpAny_loadName_local hskind hka hns hself ?_
  refine ks_wpAny_isType_cls hD1 hD2 ⟨rfl, ?_⟩
  refine ks_wpAny_call_super hD1 hD2 hx rfl (fun c z => by cases z) (looks_mroIn X1 hsub) (fun h2 hso k2 => ?_)
  -- getMethod
  have nhx : ∀ {b o}, h₁.get? b = some o → h2.get? b = some o := fun {b o} z => k2 b o z
  have X2 : K.In h2 := fun b o z => k2 b o (X1 b o z)
  have hx2 := k2 _ _ hx
  have hsup2 : alongIn K "__init__" (((Value.ref C :: bm).dropWhile (· != .ref D)).drop 1) = some (some (.builtin "ValueError.__init__")) := by
    unfold ks_superIn at hsupr
    rw [hcl] at hsupr
    exact hsupr
  refine kxs_getMethod kxs_ValueError hso (looks_opaque X2 hany) (l₀ := .ref C :: bm) ?_ rfl X2 hsup2 ((J0 hx2).type.andThen (looks_subIn X2 hve)) (ks_ne X2 (J0 hx2) hcl) (by decide) ?_
  · exact fun A Q E s k q => wpAny_bind ((looks_clsIn X2 hcl) A _ E s k (wpAny_pure q))
  have k3' : ∀ b o, h₁.get? b = some o → (h2.push (kxs_mw "ValueError.__init__" a)).get? b = some o := fun b o z => Heap.get?_push_of_some _ (k2 b o z)
  have I3 : Inv (ncx CX P w K mg base N (xnf name qual params body scope cc cda) f A outer s H E) [(h2.objs.size, kxs_mw "ValueError.__init__" a)] (startF N (V.ref a :: vs0) [none]) H
      { heap := h2.push (kxs_mw "ValueError.__init__" a), gens := s.gens, drawn := s.drawn, toks := s.toks + (ps.zip (Value.ref a :: us0)).length + 1, os := s.os } := by
    have I3 := I.kept (h' := h2.push (kxs_mw "ValueError.__init__" a)) (t' := s.toks + (ps.zip (Value.ref a :: us0)).length + 1) k3'
    have hge : h₁.objs.size ≤ h2.objs.size := by
      exact Nat.le_of_lt (Heap.lt_size hso)
    refine I3.pins_of fun p hp => ?_
    obtain rfl := List.mem_singleton.mp hp
    refine ⟨Heap.get?_push_at rfl rfl, I.hok.fresh hge, fun z => ?_, I.nofs hge, fun v z => by cases z⟩
    have := I.lt
    have z : h2.objs.size = (ncx CX P w K mg base N (xnf name qual params body scope cc cda) f A outer s H E).env.locals := z
    have hge' : (ncx CX P w K mg base N (xnf name qual params body scope cc cda) f A outer s H E).env.locals < h₁.objs.size := this
    exact absurd (Nat.lt_of_lt_of_le hge' hge) (by rw [← z]; exact Nat.lt_irrefl _)
  refine kxs_callWith (i := "ValueError.__init__") (x := a) (by rw [he]; exact hpl _) ?_
  rw [he]
  refine PySem.Calls.evalArgs_plain ?_
  have hspl := hta.run p3 _ _ _ H _ I3 hq
  rw [show (ncx CX P w K mg base N (xnf name qual params body scope cc cda) f A outer s H E).env = envF (xnf name qual params body scope cc cda) f s.heap.objs.size from rfl, he] at hspl
  refine _root_.PySem.wpAny_mono hspl (fun ur s4 ⟨ws, H4, I4, r4, hz, eH, hq4⟩ => ?_) (fun _ _ z => z)
  subst eH
  obtain ⟨hu4, _⟩ := I4.pin _ (List.mem_append_right _ (List.mem_singleton.mpr rfl))
  refine ⟨hu4, ?_⟩
  obtain ⟨t4, hx4⟩ := exo_at I4.hok ha
  obtain ⟨hp4, g4, d4, tk4, os4⟩ := s4
  show _root_.PySem.wpAny _ _ (call _ ([] ++ ur)) _ _ _
  rw [List.nil_append]
  refine call_mw (I4.kIn _ _ hC) hx4 hu4 (by rw [← r4.length, sizeLine_eq]; omega) fun h5 t5 k5 hx5 => ?_
  have J4 : Inv (ncx CX P w K mg base N (xnf name qual params body scope cc cda) f A outer s H4 E) [] (startF N (V.ref a :: vs0) [none]) H4 ⟨hp4, g4, d4, tk4, os4⟩ := I4.pins_of fun p hp => absurd hp (by simp)
  have J5 := J4.write (h' := h5) (t' := tk4) (x := a) (e := a) (o := exo a C none) (by rw [ha]; exact True.intro) (.inl rfl) k5 ⟨_, hx5⟩ (exo_ok hx5)
  have eu : upd H4 a (exo a C none) = H4 := by
    funext b
    by_cases hb : b = a
    · rw [hb, upd_same, ha]
    · rw [upd_ne hb]
  rw [eu] at J5
  -- the rest
  refine wpAt_of_wpAny ?_
  refine _root_.PySem.wpAny_mono (ht.run [] _ _ H4 _ J5 hq4) (fun fl s' hs => ?_) fun e s' hs => hs
  have fin : ∀ {σ' : L2.St} {H' : Hp} {v : V} {u : Value}, Inv (ncx CX P w K mg base N (xnf name qual params body scope cc cda) f A outer s H4 E) [] σ' H' s' → L2.RelV v u → Q v H' → CE outer P w H4 s Q u s' :=
    fun {σ' H' v u} J rv q => ⟨v, H', J.os, J.bare, J.base, J.hok, rv, q⟩
  cases fl with
  | ret u =>
    obtain ⟨v, σ', H', J, rv, q⟩ := hs
    exact fin J rv q
  | next =>
    obtain ⟨σ', H', J, q⟩ := hs
    exact fin (v := V.non) (u := Value.none) J rfl q
  | brk =>
    obtain ⟨_, _, _, q⟩ := hs
    exact False.elim q
  | cont =>
    obtain ⟨_, _, _, q⟩ := hs
    exact False.elim q
end
end Dx

set_option maxRecDepth 100000
set_option maxHeartbeats 4000000
namespace Dx
open PySem PySem.Spec PyProof.Rows L2 NdefX PySem.W
/-! what the __init__ of an own error promises: its fields are stored -/
abbrev mkx {α : Type} (flds : List Str) (ws : List α) : List (Str × α) := (flds.zip ws).reverse
def spXI (K : Frag) (C : Addr) (flds : List Str) : Sp := fun vs H Q _ => ∃ (a : Addr) (ws : List V), vs = .ref a :: ws ∧ ws.length = flds.length ∧ H a = some (exo a C none) ∧
  ∀ (d : Addr) (H' : Hp), H d = none → d ≠ a → H' = upd (upd H d (exd d (mkx flds ws))) a (exo a C (some d)) → Q .non H'
theorem spXI_len {K : Frag} {C : Addr} {flds : List Str} {n : Nat} (hn : flds.length + 1 = n) : ∀ vs H Q E, spXI K C flds vs H Q E → vs.length = n := fun vs H Q E ⟨a, ws, e, l, _⟩ => by rw [e, List.length_cons, l, hn]
/-- the class as the written part tells it -/
structure XFacts (K : Frag) (C D : Addr) (flds : List Str) : Prop where
  oex : OexC K C
  mro : mroIn K C (.ref D) = some true
  sup : ks_superIn K C D "__init__" = some (some (.builtin "ValueError.__init__"))
  sub : subIn K (.ref C) (.type "ValueError") = some true
  no : ∀ f ∈ flds, findIn K (.ref C) f = some none
section
variable {X : Cx} {K : Frag} {C D : Addr} {e : Expr} {es : List Expr} {rest : List Stmt} {f1 f2 : Str} {N : List Str} {vs : List V} {H : Hp} {Q : VK} {E : XK}
theorem upd_swap {H : Hp} {a d : Addr} {o o' u u' : HO} (h : d ≠ a) : upd (upd (upd H d o) a u) d o' = upd (upd H d o') a u := by
  funext b
  by_cases h1 : b = a
  · subst h1; rw [upd_ne (Ne.symm h), upd_same, upd_same]
  · by_cases h2 : b = d
    · subst h2; rw [upd_same, upd_ne h1, upd_same]
    · rw [upd_ne h2, upd_ne h1, upd_ne h2, upd_ne h1, upd_ne h2]
theorem xb1 (F : XFacts X.K C D [f1]) (h : spXI X.K C [f1] vs H Q E) (ha : PA X (e :: es) (tCons (tVar 1) tNil)) (hs : PSs X rest (tOst X.K f1 (tVar 0) (tVar 1))) :
    ∃ (a C : Addr) (vs0 : List V) (ta : TA) (t : TS), vs = .ref a :: vs0 ∧ OexC X.K C ∧ H a = some (exo a C none) ∧ mroIn X.K C (.ref D) = some true ∧ ks_superIn X.K C D "__init__" = some (some (.builtin "ValueError.__init__")) ∧ subIn X.K (.ref C) (.type "ValueError") = some true ∧
        PA X (e :: es) ta ∧ PSs X rest t ∧ ta (startF N vs [none]) H fun us H1 => us.length ≤ 1000 ∧ H1 = H ∧ t { nx := fun _ H' => Q .non H', rt := Q } (startF N vs [none]) H := by
  obtain ⟨a, ws, rfl, l, ha0, q⟩ := h
  obtain ⟨y, rfl⟩ : ∃ y, ws = [y] := by
    match ws, l with
    | [y], _ => exact ⟨y, rfl⟩
  refine ⟨a, C, [y], _, _, rfl, F.oex, ha0, F.mro, F.sup, F.sub, ha, hs, ?_⟩
  refine ⟨y, rfl, by show 1 ≤ 1000; decide, rfl, y, rfl, .ref a, rfl, a, C, rfl, F.oex, F.no _ (by simp), .inl ⟨ha0, fun d hd hda => q d _ hd hda rfl⟩⟩
theorem xb2 (F : XFacts X.K C D [f1, f2]) (h : spXI X.K C [f1, f2] vs H Q E) (ha : PA X (e :: es) (tCons (tVar 1) (tCons (tVar 2) tNil))) (hs : PSs X rest (fun D σ H => tOst X.K f1 (tVar 0) (tVar 1) { D with nx := fun σ H => tOst X.K f2 (tVar 0) (tVar 2) D σ H } σ H)) :
    ∃ (a C : Addr) (vs0 : List V) (ta : TA) (t : TS), vs = .ref a :: vs0 ∧ OexC X.K C ∧ H a = some (exo a C none) ∧ mroIn X.K C (.ref D) = some true ∧ ks_superIn X.K C D "__init__" = some (some (.builtin "ValueError.__init__")) ∧ subIn X.K (.ref C) (.type "ValueError") = some true ∧
        PA X (e :: es) ta ∧ PSs X rest t ∧ ta (startF N vs [none]) H fun us H1 => us.length ≤ 1000 ∧ H1 = H ∧ t { nx := fun _ H' => Q .non H', rt := Q } (startF N vs [none]) H := by
  obtain ⟨a, ws, rfl, l, ha0, q⟩ := h
  obtain ⟨y, z, rfl⟩ : ∃ y z, ws = [y, z] := by
    match ws, l with
    | [y, z], _ => exact ⟨y, z, rfl⟩
  refine ⟨a, C, [y, z], _, _, rfl, F.oex, ha0, F.mro, F.sup, F.sub, ha, hs, ?_⟩
  refine ⟨y, rfl, z, rfl, by show 2 ≤ 1000; decide, rfl, y, rfl, .ref a, rfl, a, C, rfl, F.oex, F.no _ (by simp), .inl ⟨ha0, fun d hd hda => ?_⟩⟩
  refine ⟨z, rfl, .ref a, rfl, a, C, rfl, F.oex, F.no _ (by simp), .inr ⟨d, _, upd_same, by rw [upd_ne hda, upd_same], by show 1 ≤ 900; decide, ?_⟩⟩
  exact q d _ hd hda (upd_swap (u' := exo a C none) hda)
end
/-! isinstance of a caught error that has fields -/
section
variable {prog : Program} {w : World} {A : Around} {E : Value → Shared → Prop} {s : Shared} {K : Frag} {x D : Addr} {ox : Obj} {od : Option Obj}
theorem findObj_dat {C : Addr} {name : Str} {a g : Value} (hc : (clsIn K C).isSome = true) (ha : findIn K (.ref C) name = some (some a)) (hg : specialIn K a "__get__" = some (some g)) (ht : takesIn K a = some true) : findObj K C od name = some (.bind g a) := by
  obtain ⟨cd, hc⟩ := Option.isSome_iff_exists.mp hc
  unfold findObj
  rw [hc, Option.bind_some, ha, Option.bind_some]
  simp [hg, ht]
theorem classE (C : ExcC K D) {Q : Option Value → Shared → Prop} (X : K.In s.heap) (I : InstAt s.heap x ox D od) (h : Q (some (.ref D)) { s with toks := s.toks + 1 }) : wpAny (model prog w) A (getAttr? (.ref x) "__class__") Q E s := by
  have hf : findObj K D od "__class__" = some (.bind (.builtin "getset_descriptor.__get__") (.builtin "object.__class__")) := findObj_dat (by obtain ⟨cd, hc, _⟩ := any_some C.hd; rw [hc]; rfl) C.ha C.hn C.ht
  obtain ⟨hp, g, d, t, os⟩ := s
  have M0 := I.type (M := model prog w)
  have M1 := looks_findIn (M := model prog w) X C.hg
  have M2 := looks_findIn (M := model prog w) X C.hk
  have M3 := looks_find (M := model prog w) X I hf
  have sub : Looks (model prog w) hp (isInstance (.ref x) (.type "BaseException")) true := M0.andThen (looks_subIn X C.hs)
  have hx0 : (false && onTheHeap (Value.builtin "BaseException.__getattribute__")) = false := rfl
  have hx2 : (Value.builtin "BaseException.__getattribute__" == Value.builtin "object.__getattribute__") = false := by decide +kernel
  have hx1 : (onTheHeap (Value.ref D) && Value.builtin "BaseException.__getattribute__" == Value.builtin "object.__getattribute__") = false := by rw [hx2]; rfl
  unfold getAttr? getAttrBy? getAttrBy
  refine wpAny_bind (wpAny_mkText (wpAny_bind (wpAny_attempt (wpAny_holding (wpAny_bind (M0.at (wpAny_bind (M1.at ?_))))))))
  show wpAny _ _ (if (onTheHeap (Value.ref D) && Value.builtin "BaseException.__getattribute__" == Value.builtin "object.__getattribute__") = true then _ else _) _ _ _
  rw [hx1, if_neg Bool.false_ne_true]
  unfold getAttrByItsOwn hookBefore
  refine wpAny_bind ?_
  rw [if_pos (show onTheHeap (Value.ref D) = true from rfl)]
  refine M2.at ?_
  refine wpAny_bind (wpAny_attempt (wpAny_holding ?_))
  unfold callGetattribute
  rw [hx0, if_neg Bool.false_ne_true]
  unfold boundAndCalled
  rw [PySem.F.excAttr_ValueError.ga.bind (.ref x)]
  refine wpAny_bind (wpAny_pure ?_)
  show wpAny _ _ (call (.builtin "BaseException.__getattribute__") [.ref x, .str "__class__" t]) _ _ _
  refine wpAny_call (codeAny_call_builtin PySem.F.excAttr_ValueError.ga.plain PySem.F.entry_bexc_ga ?_)
  refine @check_slot (model prog w) _ _ ⟨hp, g, d, t + 1, os⟩ "BaseException.__getattribute__" "BaseException" "__getattribute__" (.ref x) [.str "__class__" t] [] _ (by decide +kernel) (by decide +kernel) sub (PySem.F.args_bexc_ga (.ref x) (.str "__class__" t)) ?_
  unfold Builtin.«object.__getattribute__»
  refine wpAny_bind (wpAny_of_eq (a := ((Value.ref x : Value), [Value.str "__class__" t])) (by first | rfl | (simp only [slotArgs]; rfl)) ?_)
  refine wpAny_bind (wpAny_pure (wpAny_bind (M0.at (wpAny_bind (M3.at ?_)))))
  show wpAny _ _ (holding [Value.builtin "object.__class__"] (call (.builtin "getset_descriptor.__get__") [.builtin "object.__class__", .ref x, .ref D]) >>= ret) _ _ _
  refine wpAny_bind (wpAny_holding (wpAny_call (class_get (s := ⟨hp, g, d, t + 1, os⟩) (ox := ox) (od := od) X I C.hm ?_)))
  refine wpAny_pure ?_
  show wpAny _ _ (handedOut (.ref D)) _ _ _
  rw [handedOut_of (v := .ref D) rfl]
  first
    | exact wpAny_pure (wpAny_pure h)
    | exact wpAny_pure h
    | exact wpAny_pure (wpAny_bind (wpAny_pure (wpAny_pure h)))
theorem kitE (C : ExcC K D) : KitX K (.ref x) (.ref D) (fun h => InstAt h x ox D od) where
  ty := fun _ _ _ I => I.type
  it := fun _ _ X _ => by
    obtain ⟨cdD, hcD, _⟩ := any_some C.hd
    unfold clsIn at hcD
    split at hcD
    · rename_i c' d' cd' sl' ho
      intro A' Q' E' s' k q
      unfold isType loadHead
      exact wpAny_bind (wpAny_loadPart (k _ _ (X _ _ ho)) (wpAny_pure q))
    · cases hcD
  ne := fun h tp dd its n sl X htp => by
    obtain ⟨cdD, hcD, _⟩ := any_some C.hd
    refine Bool.eq_false_iff.mpr fun q => ?_
    have e : D = tp := Value.ref.inj (beq_iff_eq.mp q)
    subst e
    unfold clsIn at hcD
    split at hcD
    · rename_i c' d' cd' sl' ho
      have z := (X _ _ ho).symm.trans htp
      cases z
    · cases hcD
  ca := fun X I k => classE C X I k
end
/-- isinstance(e, c), e the caught exception, with its dict at dd -/
def rIsD (K : Frag) (D a dd : Addr) : List V → Hp → VK → Prop := fun xs H Q => ∃ (c : V) (cv : Value) (b : Bool) (fs : List (Str × V)), xs = [.ref a, c] ∧ (∀ u, RelV c u → u = cv) ∧ kitOne K (.ref D) cv = some b ∧ H dd = some (.xd fs) ∧ Q (.bl b) H
theorem call_isD {X : Cx} {a D dd : Addr} {oe : Obj} {pn : List (Addr × Obj)} (C : ExcC X.K D) (hz : Zc (.ref D) (some dd) oe) (hf : ∃ vs, oe.data = .fields vs) : CallR (X.suite a ((a, oe) :: pn)) (.builtin "isinstance") (rIsD X.K D a dd) := by
  intro pins s σ H xs us Q I r h
  obtain ⟨c, cv, b, fs, rfl, hcv, e, hdd, q⟩ := h
  cases r with
  | cons rx rr =>
    cases rr with
    | cons rt rr =>
      cases rr
      cases rx
      have ec := hcv _ rt
      subst ec
      obtain ⟨hget, _⟩ := I.pin (a, oe) (List.mem_append.mpr (.inl List.mem_cons_self))
      obtain ⟨vs, hv⟩ := hf
      have hx : ObjOk X.prog X.w H s.heap dd (.xd fs) := I.hok dd _ hdd
      obtain ⟨mA, hns, hr⟩ := hx
      obtain ⟨o, _, _, ho, _⟩ := hns
      have J : InstAt s.heap a oe D (some o) := by
        obtain ⟨oc, od, oda, osl⟩ := oe
        obtain ⟨h1, h2⟩ := hz
        dsimp only at h1 h2 hv
        subst h1 h2 hv
        exact ⟨hget, rfl, rfl, ho⟩
      exact kia_one (kitE C) I.kIn J e (fun z => nomatch z) fun tk => ⟨.bl b, H, I.kept (t' := tk) fun _ _ z => z, rfl, q⟩
end Dx

set_option maxRecDepth 100000
set_option maxHeartbeats 4000000
namespace Dt
open PySem PySem.Spec PyProof.Rows L2 Dx
/-! ### own errors: raise -/
/-- an own error class: its fields, its __init__ -/
structure XCls (P : Program) (w : World) (K : PySem.W.Frag) (mg : Str → Option Value) (base : Heap) (nm : Str) (flds : List Str) : Prop where
  ex : ∃ C fI fd ps, mg nm = some (.ref C) ∧ OexC K C ∧ PySem.W.findIn K (.ref C) "__init__" = some (some (.ref fI)) ∧ PySem.W.typeIn K (.ref fI) = some (.type "function") ∧ FnOk P w K mg base CX0 1 fI fd ps (spXI K C flds) ∧ Binds K fd ps []
theorem fsOk_app {K : PySem.W.Frag} {F : Hp} : ∀ {r1 r2 : List (Str × V)} {s1 s2 : List (Str × D)}, FsOk K F r1 s1 → FsOk K F r2 s2 → FsOk K F (r1 ++ r2) (s1 ++ s2)
  | [], _, [], _, _, h => h
  | (_, _) :: _, _, (_, _) :: _, _, ⟨a, b, c⟩, h => ⟨a, b, fsOk_app c h⟩
  | [], _, _ :: _, _, h, _ => h.elim
  | _ :: _, _, [], _, h, _ => h.elim
theorem fsOk_mkx {K : PySem.W.Frag} {F : Hp} : ∀ {fl : List Str} {vs : List V} {ds : List D}, DpAll K F vs ds → FsOk K F (mkx fl vs) (mkx fl ds)
  | [], _, _, _ => trivial
  | _ :: _, _, _, .nil => trivial
  | f :: fl, _, _, .cons h r => by
    show FsOk K F (List.reverse ((f, _) :: fl.zip _)) (List.reverse ((f, _) :: fl.zip _))
    rw [List.reverse_cons, List.reverse_cons]
    exact fsOk_app (fsOk_mkx r) ⟨rfl, h, trivial⟩
theorem fsOk_look {K : PySem.W.Frag} {F : Hp} {f : Str} {d : D} : ∀ {r : List (Str × V)} {s : List (Str × D)}, FsOk K F r s → s.lookup f = some d → ∃ v, r.lookup f = some v ∧ Dp K F v d
  | [], [], _, e => by simp at e
  | (x, v) :: r, (y, z) :: s, ⟨a, b, c⟩, e => by
    subst a
    by_cases q : f = x
    · subst q
      simp [List.lookup] at e
      subst e
      exact ⟨v, by simp [List.lookup], b⟩
    · have q' : (f == x) = false := by simpa using q
      simp only [List.lookup, q'] at e ⊢
      exact fsOk_look c e
  | [], _ :: _, h, _ => h.elim
  | _ :: _, [], h, _ => h.elim
def sRaise (nm : Str) (flds : List Str) (A0 : DA) : DS := fun ρ A => A0 ρ (fun ds => A.xx ρ ⟨nm, mkx flds ds⟩) (A.xx ρ)
section
variable {X : Cx} {T : Tape} {W : WX} {rk k : RK} {ks : List RK} {e a b c : Expr} {es : List Expr} {E Ea Eb : DE} {A : DA} {G : DT} {pos pos1 p : Pos} {nm : Str} {flds : List Str}
theorem psx_raise {j : Nat} (hc : X.calm = true) (tk : Takes X W) (XC : XCls X.prog X.w X.K X.mg X.base nm flds) (hr : Room j X.A) (hg : Gl X nm) (ha : PAx X T W ks (e :: es) A) (hk : AllFr ks := by repeat (first | exact trivial | refine ⟨rfl, ?_⟩)) (hl : ks.length = flds.length := by rfl) (hj : 2 ≤ j := by decide)
    (hz : ks.length ≤ 900 := by decide) (hdb : (nm == ("__debug__" : Str)) = false := by decide) (he : starEach (e :: es) X.env = (false, eval e X.env) :: starEach es X.env := by rfl) (hpl : (backTo pos1 (starEach es X.env)).any (·.1) = false := by rfl) :
    PSx X T W rk (.Raise (some (.Call (.Name nm p) (e :: es) [] pos1)) none pos) (sRaise nm flds A) := by
  obtain ⟨ta, hta, s1⟩ := ha.ex
  obtain ⟨C, fI, fd, ps, hm, T1, iC, tI, F1, hb⟩ := XC.ex
  refine ⟨_, ps_raise hc tk (pmk_oex T1 iC tI F1 (hr.mono hj) hb .nil pass0 hg hm hta hdb he hpl), fun n F H P σ ρ A0 Dd R h ok => ?_⟩
  refine s1 n F H P σ ρ _ _ _ R h (fun vs ds F1 H1 P1 st1 r q => ?_) (ok.xok R)
  have hl2 := resL_len r
  have hall := resL_fr hk r
  refine ⟨by omega, fun x hx => ?_⟩
  refine ⟨x, vs ++ [], rfl, by rw [List.append_nil]; omega, upd_same, fun d H' hd hda eH => ?_⟩
  rw [List.append_nil] at eH
  have hd1 : H1 d = none := by rw [upd_ne hda] at hd; exact hd
  subst eH
  refine ⟨rfl, d, mkx flds vs, upd_same, by rw [upd_ne hda, upd_same], hd1, ?_⟩
  have eH : upd (del (upd (upd (upd H1 x (exo x C none)) d (exd d (mkx flds vs))) x (exo x C (some d))) x) d (.xd (mkx flds vs)) = upd H1 d (.xd (mkx flds vs)) := by
    funext y
    by_cases y1 : y = d
    · subst y1; rw [upd_same, upd_same]
    · rw [upd_ne y1, upd_ne y1]
      by_cases y2 : y = x
      · subst y2; rw [del_same, hx]
      · rw [del_ne y2, upd_ne y2, upd_ne y1, upd_ne y2]
  rw [eH]
  have R1 := R.step st1
  have st2 := R1.refl.newN (o := .xd (mkx flds vs)) hd1
  refine ok.xx _ _ _ _ _ _ _ _ (R1.step st2) ⟨C, d, mkx flds vs, hm, rfl, rfl, upd_same, fsOk_mkx hall, fun z => R1.pH d z hd1⟩ q
/-! ### try -/
def canS (X : Cx) (T : Tape) (W : WX) (rk : RK) (S : DS) : TS := fun Dd σ H => ∃ n F P ρ A, Rel X.K T n F H P σ ρ ∧ S ρ A ∧ EOk X T W n rk A Dd
theorem PSsx.can {sts : List Stmt} {S : DS} (h : PSsx X T W rk sts S) : PSs X sts (canS X T W rk S) := by
  obtain ⟨t, ht, hs⟩ := h.ex
  refine ⟨fun pins s σ H Dd I hw => ?_⟩
  obtain ⟨n, F, P, ρ, A, R, hS, ok⟩ := hw
  exact ht.run pins s σ H Dd I (hs n F H P σ ρ A Dd R hS ok)
theorem EOk.tr {W : WX} {n : En} {A : SE} {Dd : Ends} {pn : List (Addr × Obj)} {xe : Value → Shared → Prop} (h : EOk X T W n rk A Dd) : EOk (X.tr pn xe) T W n rk A Dd := ⟨h.nx, h.rt, h.bk, h.ct, h.xx⟩
theorem EOk.su {W : WX} {n : En} {A : SE} {Dd : Ends} {a : Addr} {pn : List (Addr × Obj)} (h : EOk X T W n rk A Dd) : EOk (X.suite a pn) T W n rk A Dd := ⟨h.nx, h.rt, h.bk, h.ct, h.xx⟩
/-- what the written part tells of error classes: which is caught by which; their fields -/
structure XTab (K : PySem.W.Frag) (mg : Str → Option Value) (names : List Str) (flds : List Str) (tgts : List Str) (sub : Str → Str → Bool) : Prop where
  tgt : ∀ t ∈ tgts, ∃ D, mg t = some (.ref D)
  exm : ∀ nm ∈ names, ∀ t ∈ tgts, ∀ C D, mg nm = some (.ref C) → mg t = some (.ref D) → PySem.W.exmOne K (.ref C) (.ref D) = some (sub nm t)
  kit : ∀ nm ∈ names, ∀ t ∈ tgts, ∀ C D, mg nm = some (.ref C) → mg t = some (.ref D) → PySem.W.kitOne K (.ref C) (.ref D) = some (sub nm t)
  cls : ∀ nm ∈ names, ∀ C, mg nm = some (.ref C) → XfC K C ∧ ExcC K C ∧ ∀ f ∈ flds, PySem.W.findIn K (.ref C) f = some none
abbrev SX := Exn → Addr → Option Addr → DS
def sTry (names : List Str) (sub : Str → Str → Bool) (tgt : Str) (i : Nat) (S1 : DS) (S2 : SX) : DS := fun ρ A => S1 ρ { A with xx := fun ρ' x => x.nm ∈ names ∧ (if sub x.nm tgt = true then ∀ a d, S2 x a d (ρ'.put i (.ex a d x))
  { nx := fun ρ2 => A.nx (ρ2.put i .un), rt := A.rt, bk := fun ρ2 => A.bk (ρ2.put i .un), ct := fun ρ2 => A.ct (ρ2.put i .un), xx := fun _ _ => False } else A.xx ρ' x) }
theorem psx_tryAs (i : Nat) {names flds tgts : List Str} {sub : Str → Str → Bool} {tgt n : Str} {body suite : List Stmt} {b0 : Stmt} {np pos' : Pos} {S1 : DS} {S2 : SX} (hs : X.stack = X.env :: X.outer) (hf : X.env.frame = some X.env.locals) (hN : X.N.Nodup) (hi : X.N[i]? = some n) (hln : X.env.kindOf n = some .local) (Tb : XTab X.K X.mg names flds tgts sub) (ht : tgt ∈ tgts) (hg : Gl X tgt) (hdb : (tgt == ("__debug__" : Str)) = false) (tk : Takes X W)
    (hb : ∀ (W : WX) (pn : List (Addr × Obj)) (xe : Value → Shared → Prop), Takes (X.tr pn xe) W → PassesOwn (model X.prog X.w) X.A X.env xe → PSsx (X.tr pn xe) T W rk body S1)
    (hsu : ∀ (a : Addr) (oe : Obj) (cls : Value) (d : Option Addr) (pn : List (Addr × Obj)), Zc cls d oe → (∃ vs, oe.data = .fields vs) → ∀ (x : Exn) (C : Addr), X.mg x.nm = some (.ref C) → cls = .ref C → PSsx (X.suite a ((a, oe) :: pn)) T W0 rk (b0 :: suite) (S2 x a d)) :
    PSx X T W rk (.Try body [.ExceptHandler (some (.Name tgt np)) (some n) (b0 :: suite) pos'] [] [] pos) (sTry names sub tgt i S1 S2) := by
  obtain ⟨D0, hD⟩ := Tb.tgt tgt ht
  refine ⟨_, ps_try_as (i := i) (c := .ref D0) (tb := fun W => canS X T W rk S1) (ts := fun a cls d Dd σ H => ∃ (x : Exn) (C : Addr), X.mg x.nm = some (.ref C) ∧ cls = .ref C ∧ canS X T W0 rk (S2 x a d) Dd σ H) hs hf hN hi hln ⟨hg, hdb, .inl hD⟩ tk ?_ ?_, fun n F H P σ ρ A Dd R h ok => ?_⟩
  · intro W' pn xe tk' pw
    refine ⟨fun pins s σ H Dd I ⟨n, F, P, ρ, A, R, hS, ok⟩ => ?_⟩
    exact (hb W' pn xe tk' pw).can.run pins s σ H Dd I ⟨n, F, P, ρ, A, R, hS, ok.tr⟩
  · intro a oe cls d pn hz hf
    refine ⟨fun pins s σ H Dd I ⟨x, C, hm, hc, n, F, P, ρ, A, R, hS, ok⟩ => ?_⟩
    exact (hsu a oe cls d pn hz hf x C hm hc).can.run pins s σ H Dd I ⟨n, F, P, ρ, A, R, hS, ok.su⟩
  · refine ⟨n, F, P, ρ, _, R, h, ok.nx, ok.rt, ok.bk, ok.ct, fun x c dd F2 H2 P2 σ2 ρ2 R2 hx hq => ?_⟩
    obtain ⟨hn, hq⟩ := hq
    have hx0 := hx
    obtain ⟨C, b, vs, hm, hc, hd, hb2, hfs, hp⟩ := hx
    subst hc
    refine ⟨sub x.nm tgt, Tb.exm _ hn _ ht _ _ hm hD, fun hb a ha => ?_, fun hb => ?_⟩
    · rw [if_pos hb] at hq
      refine ⟨x, C, hm, rfl, n, F2, P2, _, _, R2.put (i := i) (v := .ref a) (s := .ex a dd x) ⟨rfl, b, vs, hd, hb2, hfs, hp⟩ (fun d => by simp), hq a dd, ?_⟩
      exact ⟨fun F3 H3 P3 σ3 ρ3 R3 q => ok.nx F3 H3 P3 _ _ (R3.unslot i) q, ok.rt, fun F3 H3 P3 σ3 ρ3 R3 q => ok.bk F3 H3 P3 _ _ (R3.unslot i) q, fun F3 H3 P3 σ3 ρ3 R3 q => ok.ct F3 H3 P3 _ _ (R3.unslot i) q, fun _ _ _ _ _ _ _ _ _ _ z => z.elim⟩
    · rw [if_neg (by rw [hb]; simp)] at hq
      exact ok.xx x _ dd F2 H2 P2 σ2 ρ2 R2 hx0 hq
/-- .. without a name -/
def sTry0 (names : List Str) (sub : Str → Str → Bool) (tgt : Str) (S1 : DS) (S2 : DS) : DS := fun ρ A => S1 ρ { A with xx := fun ρ' x => x.nm ∈ names ∧ (if sub x.nm tgt = true then S2 ρ' { A with xx := fun _ _ => False } else A.xx ρ' x) }
theorem psx_try0 {names flds tgts : List Str} {sub : Str → Str → Bool} {tgt : Str} {body suite : List Stmt} {b0 : Stmt} {np pos' : Pos} {S1 S2 : DS} (hs : X.stack = X.env :: X.outer) (hf : X.env.frame = some X.env.locals) (Tb : XTab X.K X.mg names flds tgts sub) (ht : tgt ∈ tgts) (hg : Gl X tgt) (hdb : (tgt == ("__debug__" : Str)) = false) (tk : Takes X W)
    (hb : ∀ (W : WX) (pn : List (Addr × Obj)) (xe : Value → Shared → Prop), Takes (X.tr pn xe) W → PassesOwn (model X.prog X.w) X.A X.env xe → PSsx (X.tr pn xe) T W rk body S1)
    (hsu : ∀ (a : Addr) (oe : Obj) (pn : List (Addr × Obj)), PSsx (X.suite a ((a, oe) :: pn)) T W0 rk (b0 :: suite) S2) :
    PSx X T W rk (.Try body [.ExceptHandler (some (.Name tgt np)) none (b0 :: suite) pos'] [] [] pos) (sTry0 names sub tgt S1 S2) := by
  obtain ⟨D0, hD⟩ := Tb.tgt tgt ht
  refine ⟨_, ps_try_only (c := .ref D0) (tb := fun W => canS X T W rk S1) (ts := fun a cls d Dd σ H => canS X T W0 rk S2 Dd σ H) hs hf ⟨hg, hdb, .inl hD⟩ tk ?_ ?_, fun n F H P σ ρ A Dd R h ok => ?_⟩
  · intro W' pn xe tk' pw
    refine ⟨fun pins s σ H Dd I ⟨n, F, P, ρ, A, R, hS, ok⟩ => ?_⟩
    exact (hb W' pn xe tk' pw).can.run pins s σ H Dd I ⟨n, F, P, ρ, A, R, hS, ok.tr⟩
  · intro a oe cls d pn hz hf
    refine ⟨fun pins s σ H Dd I ⟨n, F, P, ρ, A, R, hS, ok⟩ => ?_⟩
    exact (hsu a oe pn).can.run pins s σ H Dd I ⟨n, F, P, ρ, A, R, hS, ok.su⟩
  · refine ⟨n, F, P, ρ, _, R, h, ok.nx, ok.rt, ok.bk, ok.ct, fun x c dd F2 H2 P2 σ2 ρ2 R2 hx hq => ?_⟩
    obtain ⟨hn, hq⟩ := hq
    have hx0 := hx
    obtain ⟨C, b, vs, hm, hc, hd, hb2, hfs, hp⟩ := hx
    subst hc
    refine ⟨sub x.nm tgt, Tb.exm _ hn _ ht _ _ hm hD, fun hb a ha => ?_, fun hb => ?_⟩
    · rw [if_pos hb] at hq
      exact ⟨n, F2, P2, _, _, R2, hq, ok.nx, ok.rt, ok.bk, ok.ct, fun _ _ _ _ _ _ _ _ _ _ z => z.elim⟩
    · rw [if_neg (by rw [hb]; simp)] at hq
      exact ok.xx x _ dd F2 H2 P2 σ2 ρ2 R2 hx0 hq
/-! ### the caught error: e.f, isinstance(e, X) -/
def xFld (i : Nat) (f : Str) (names : List Str) (x : Exn) (a : Addr) (d : Option Addr) : DE := fun ρ Q _ => match ρ.get i with | .ex a' d' y => a' = a ∧ d' = d ∧ y = x ∧ x.nm ∈ names ∧ ∃ v, x.fs.lookup f = some v ∧ Q v | _ => False
theorem px_fld (i : Nat) {names flds tgts : List Str} {sub : Str → Str → Bool} {a C : Addr} {oe : Obj} {cls : Value} {d : Option Addr} {pn : List (Addr × Obj)} {f n : Str} {x : Exn} (Tb : XTab X.K X.mg names flds tgts sub) (hff : f ∈ flds) (hz : Zc cls d oe) (hf : ∃ vs, oe.data = .fields vs) (hm : X.mg x.nm = some (.ref C)) (hc : cls = .ref C)
    (he : PE (X.suite a ((a, oe) :: pn)) (.Name n p) (tVar i)) (hb : attributeBase (.Name n p) f X.env (eval (.Name n p) X.env) = eval (.Name n p) X.env := by rfl) : PX (X.suite a ((a, oe) :: pn)) T W .fr (.Attribute (.Name n p) f pos) (xFld i f names x a d) := by
  by_cases hn : x.nm ∈ names
  · obtain ⟨c1, _, c3⟩ := Tb.cls _ hn _ hm
    refine ⟨_, pe_xf c1 (c3 f hff) hz hf he hb, fun n F H P σ ρ Q Qx QV R hE hq hx => ?_⟩
    unfold xFld at hE
    split at hE
    · rename_i a' d' y e
      obtain ⟨e1, e2, e3, _, v, hv, q⟩ := hE
      subst e1 e2 e3
      obtain ⟨s1, b, vs, s2, s3, s4, _⟩ := R.slot i _ (get_some e (by simp))
      obtain ⟨w, hw, hd⟩ := fsOk_look s4 hv
      exact ⟨_, join_some s1, rfl, hc, b, vs, w, s2, s3, hw, hq w v F H P R.refl hd q⟩
    · exact hE.elim
  · refine ⟨fun _ _ _ => False, ⟨fun _ _ _ _ _ _ z => z.elim⟩, fun n F H P σ ρ Q Qx QV R hE hq hx => ?_⟩
    unfold xFld at hE
    split at hE
    · exact hn hE.2.2.2.1
    · exact hE
def xIsE (i : Nat) (t : Str) (names : List Str) (sub : Str → Str → Bool) (x : Exn) (a : Addr) (d : Option Addr) : DE := fun ρ Q _ => match ρ.get i with | .ex a' d' y => a' = a ∧ d' = d ∧ y = x ∧ x.nm ∈ names ∧ Q (.bool (sub x.nm t)) | _ => False
theorem px_isE (i : Nat) {names flds tgts : List Str} {sub : Str → Str → Bool} {a C : Addr} {oe : Obj} {cls : Value} {d : Option Addr} {pn : List (Addr × Obj)} {t n : Str} {x : Exn} {p2 p3 : Pos} (Tb : XTab X.K X.mg names flds tgts sub) (htt : t ∈ tgts) (hz : Zc cls d oe) (hf : ∃ vs, oe.data = .fields vs) (hm : X.mg x.nm = some (.ref C)) (hc : cls = .ref C)
    (hg : Gl X "isinstance") (hmi : X.mg "isinstance" = none) (hgt : Gl X t) (hdt : (t == ("__debug__" : Str)) = false) (he : PE (X.suite a ((a, oe) :: pn)) (.Name n p) (tVar i)) :
    PX (X.suite a ((a, oe) :: pn)) T W .fr (.Call (.Name "isinstance" p2) [.Name n p, .Name t p3] [] pos) (xIsE i t names sub x a d) := by
  obtain ⟨D0, hD⟩ := Tb.tgt t htt
  by_cases hn : x.nm ∈ names ∧ ∃ b, d = some b
  · obtain ⟨hn, b, hb⟩ := hn
    subst hb
    subst hc
    obtain ⟨_, c2, _⟩ := Tb.cls _ hn _ hm
    refine ⟨_, pe_callB (call_isD c2 hz hf) hg hmi PyProof.Rows.boot_isinstance (pa_cons he (pa_cons (pe_glob (v := .ref D0) hgt hD rfl hdt) pa_nil)), fun n F H P σ ρ Q Qx QV R hE hq hx => ?_⟩
    unfold xIsE at hE
    split at hE
    · rename_i a' d' y e
      obtain ⟨e1, e2, e3, _, q⟩ := hE
      subst e1 e2 e3
      obtain ⟨s1, b2, vs, s2, s3, s4, _⟩ := R.slot i _ (get_some e (by simp))
      cases s2
      exact ⟨_, join_some s1, .ref D0, .ref D0, sub y.nm t, vs, rfl, fun u hu => hu, Tb.kit _ hn _ htt _ _ hm hD, s3, hq _ _ F H P R.refl (.bl _) q⟩
    · exact hE.elim
  · refine ⟨fun _ _ _ => False, ⟨fun _ _ _ _ _ _ z => z.elim⟩, fun n F H P σ ρ Q Qx QV R hE hq hx => ?_⟩
    unfold xIsE at hE
    split at hE
    · rename_i a' d' y e
      obtain ⟨e1, e2, e3, h1, q⟩ := hE
      subst e2
      obtain ⟨s1, b2, vs, s2, s3, s4, _⟩ := R.slot i _ (get_some e (by simp))
      exact hn ⟨h1, b2, s2⟩
    · exact hE
end
end Dt

set_option maxRecDepth 100000
set_option maxHeartbeats 4000000
namespace Dt
open PySem PySem.Spec PyProof.Rows L2
section
variable {X : Cx} {T : Tape} {W : WX} {m : Bool} {rk k : RK} {ks : List RK} {e a b c : Expr} {es : List Expr} {E Ea Eb : DE} {A : DA} {G : DT} {I I1 : DI} {g g1 : DG} {js js1 : List Nat} {pos p : Pos} {st : Stmt} {S : DS}
/-! ### [..] * n -/
theorem dps_rep {K : PySem.W.Frag} {F : Hp} {xs : List V} {ds : List D} (h : DpAll K F xs ds) : ∀ n : Nat, DpAll K F (List.replicate n xs).flatten (List.replicate n ds).flatten
  | 0 => .nil
  | n + 1 => by
    rw [List.replicate_succ, List.replicate_succ, List.flatten_cons, List.flatten_cons]
    exact dps_app h (dps_rep h n)
def fMulL : D → D → (D → Prop) → Prop
  | .list ds, .int k, Q => 0 ≤ k ∧ k < 2 ^ 63 ∧ ds.length * k.toNat ≤ sizeLine ∧ Q (.list (List.replicate k.toNat ds).flatten)
  | _, _, _ => False
theorem px_mulL (ha : PX X T W .nw a Ea) (hb : PX X T W .vw b Eb) : PX X T W .nw (.BinOp a .Mult b pos) (xOp2 fMulL Ea Eb) := by
  obtain ⟨ta, ht, hs⟩ := ha.ex
  obtain ⟨tb, ht2, hs2⟩ := hb.ex
  refine ⟨_, pe_op op_rep ht ht2, fun n F H P σ ρ Q Qx QV R hE hq hx => ?_⟩
  refine hs n F H P σ ρ _ Qx _ R hE (fun v d F1 H1 P1 st1 rv hE2 => ?_) hx
  refine hs2 n F1 H1 P1 σ ρ _ Qx _ (R.step st1) hE2 (fun w d2 F2 H2 P2 st2 rw2 hf => ?_) (hx.step st1)
  obtain ⟨x, ev, hold, _, _, hp⟩ := rv
  cases d with
  | list ds =>
    cases d2 with
    | int j =>
      obtain ⟨xs, h1, h2⟩ := hold
      obtain ⟨j0, j1, j2, q⟩ := (show 0 ≤ j ∧ j < 2 ^ 63 ∧ ds.length * j.toNat ≤ sizeLine ∧ Q (.list (List.replicate j.toNat ds).flatten) from hf)
      have hl := dps_len h2
      refine ⟨x, j, xs, ev, rw2.int, st2.keep x _ h1 hp, by omega, j1, by rw [hl]; exact j2, fun y hy => ?_⟩
      exact (hq.step (st1.trans st2)).lst ((R.step st1).step st2) (dps_rep (dps_ex st2.grow h2) _) q hy
    | _ => exact (show False from hf).elim
  | _ => exact (show False from hf).elim
/-! ### a new list, frozen at once -/
theorem psx_nfr {i : Nat} (h : PSx X T W rk st (sSetN i E)) : PSx X T W rk st (sSet i E) := by
  obtain ⟨t, ht, s1⟩ := h.ex
  refine ⟨t, ht, fun n F H P σ ρ A0 Dd R hE ok => ?_⟩
  refine s1 n F H P σ ρ { A0 with nx := fun ρ2 => (ρ.length ≤ i ∧ ρ2 = ρ ∧ A0.nx ρ) ∨ ∃ d, ρ2[i]? = some (.ow d) ∧ A0.nx (ρ2.put i (.fr d)) } Dd R ?_ ⟨fun F2 H2 P2 σ2 ρ2 R2 q => ?_, ok.rt, ok.bk, ok.ct, ok.xx⟩
  · have hE : E ρ (fun d => A0.nx (ρ.put i (.fr d))) (A0.xx ρ) := hE
    show E ρ (fun d => (ρ.length ≤ i ∧ ρ.put i (.ow d) = ρ ∧ A0.nx ρ) ∨ ∃ d', (ρ.put i (.ow d))[i]? = some (.ow d') ∧ A0.nx ((ρ.put i (.ow d)).put i (.fr d'))) (A0.xx ρ)
    have key : (fun d => A0.nx (ρ.put i (.fr d))) = fun d => (ρ.length ≤ i ∧ ρ.put i (.ow d) = ρ ∧ A0.nx ρ) ∨ ∃ d', (ρ.put i (.ow d))[i]? = some (.ow d') ∧ A0.nx ((ρ.put i (.ow d)).put i (.fr d')) := by
      funext d
      refine propext ⟨fun z => ?_, fun z => ?_⟩
      · by_cases hi : i < ρ.length
        · refine .inr ⟨d, ?_, ?_⟩
          · show (ρ.set i (.ow d))[i]? = _
            rw [get_set, if_pos ⟨rfl, hi⟩]
          · show A0.nx ((ρ.set i (.ow d)).set i (.fr d))
            rw [List.set_set]; exact z
        · have e1 : ρ.put i (.fr d) = ρ := List.set_eq_of_length_le (by omega)
          have e2 : ρ.put i (.ow d) = ρ := List.set_eq_of_length_le (by omega)
          rw [e1] at z
          exact .inl ⟨by omega, e2, z⟩
      · rcases z with ⟨h1, h2, h3⟩ | ⟨d', h1, h2⟩
        · have e1 : ρ.put i (.fr d) = ρ := List.set_eq_of_length_le h1
          rw [e1]; exact h3
        · have h1 : (ρ.set i (.ow d))[i]? = some (.ow d') := h1
          rw [get_set] at h1
          by_cases hi : i < ρ.length
          · rw [if_pos ⟨rfl, hi⟩] at h1
            cases h1
            have h2 : A0.nx ((ρ.set i (.ow d)).set i (.fr d)) := h2
            rw [List.set_set] at h2
            exact h2
          · rw [if_neg (fun z => hi z.2)] at h1
            rw [List.getElem?_eq_none (by omega)] at h1
            cases h1
    rw [← key]
    exact hE
  · rcases q with ⟨_, e, q⟩ | ⟨d, e, q⟩
    · subst e; exact ok.nx _ _ _ _ _ R2 q
    · obtain ⟨F', R'⟩ := R2.freeze e
      exact ok.nx _ _ _ _ _ R' q
/-! ### zip of two lists, of two tuples -/
def zipD (xs ys : List D) : List D := List.zipWith (fun x y => .tuple [x, y]) xs ys
def fZip (Q : List D → Prop) : List D → Prop
  | [.list xs, .list ys] => xs.length ≤ sizeLine ∧ Q (zipD xs ys)
  | [.tuple xs, .tuple ys] => xs.length ≤ sizeLine ∧ Q (zipD xs ys)
  | _ => False
def xZip (A : DA) : DI := fun ρ Q Qx => A ρ (fZip Q) Qx
theorem zipD_len (xs ys : List D) : (zipD xs ys).length = min xs.length ys.length := by simp [zipD]
theorem walk_zipT {K : PySem.W.Frag} {a b : Addr} {xs ys : List V} {n : Nat} (hn : n = min xs.length ys.length) : Walk (RZ.ItzT K a b) n (fun H => SqT K H a xs ∧ SqT K H b ys) (YPair (fun i => xs[i]?) (fun i => ys[i]?)) := by
  subst hn
  refine ⟨fun i _ hi q => ?_, fun _ q => ⟨xs, ys, q.1, q.2, by omega⟩, fun i H v H' _ q y => ?_⟩
  · have h1 : i < xs.length := by omega
    have h2 : i < ys.length := by omega
    exact ⟨xs, ys, xs[i], ys[i], q.1, q.2, by simp [h1], by simp [h2]⟩
  · obtain ⟨T, x, z, h1, h2, h3, h4, h5⟩ := y
    exact ⟨T, x, z, h1, h2, h3, h4 xs q.1, h5 ys q.2⟩
theorem walkD_pair {K : PySem.W.Frag} {n : En} {J : It} {xd yd : List D} {xs ys : List V} {Gw : Hp → Prop} {F1 H1 : Hp} {P1 : Fp} (hx : DpAll K F1 xs xd) (hy : DpAll K F1 ys yd) (w : Walk J (zipD xd yd).length Gw (YPair (fun i => xs[i]?) (fun i => ys[i]?)))
    (hG : ∀ F2 H2 P2, Later T n m F1 H1 P1 F2 H2 P2 → Gw H2) : WalkD K T n m J (zipD xd yd) F1 H1 P1 := by
  refine ⟨Gw, _, w, hG, fun i F2 H2 P2 x H3 l st hi y => ?_⟩
  obtain ⟨t, u, v, e1, e2, e3, e4, e5⟩ := y
  subst e1 e3
  obtain ⟨d1, q1, q2⟩ := dps_getV (dps_ex l.grow hx) e4
  obtain ⟨d2, q3, q4⟩ := dps_getV (dps_ex l.grow hy) e5
  have st2 := st.newF (o := .tup [u, v]) e2
  refine ⟨_, .tuple [d1, d2], st2, ?_, .tup (SqT.of upd_same) (.cons (dp_ex st2.grow q2) (.cons (dp_ex st2.grow q4) .nil))⟩
  unfold zipD
  rw [List.getElem?_zipWith, q1, q3]
theorem pix_zip {e2 : Expr} {tpos : Pos} {elts : List Expr} {kk : Nat} (hg : Gl X "zip") (hm : X.mg "zip" = none) (ha : PAx X T W [rkm m, rkm m] [e, e2] A)
    (hs : starEach [e, e2] X.env = (false, eval e X.env) :: starEach [e2] X.env := by rfl) (hpl : (backTo pos (starEach [e2] X.env)).any (·.1) = false := by rfl) :
    PIx X T W m (.Tuple elts kk tpos) (.Call (.Name "zip" p) [e, e2] [] pos) (xZip A) := by
  obtain ⟨ta, ht, s1⟩ := ha.ex
  refine ⟨_, RZ.pi_zipA hg hm ht hs hpl, fun n F H P σ ρ Q Qx R Rl hE hq hx => ?_⟩
  refine s1 n F H P σ ρ _ Qx _ Rl hE (fun vs ds F1 H1 P1 st1 r q => ?_) hx
  unfold fZip at q
  split at q
  · rename_i xd yd
    match vs, r with
    | [v, w], ⟨r1, r2, _⟩ =>
      obtain ⟨a, xs, e1, h1, l1⟩ := src_list r1
      obtain ⟨b, ys, e2, h2, l2⟩ := src_list r2
      subst e1 e2
      have k1 := dps_len h1
      have k2 := dps_len h2
      have hz := zipD_len xd yd
      refine ⟨a, b, xs, ys, rfl, .inl ⟨l1 _ _ _ (Later.self Rl st1), l2 _ _ _ (Later.self Rl st1), hq _ _ F1 H1 P1 st1 (walkD_pair h1 h2 (walk_zip (by rw [hz, k1, k2])) fun F2 H2 P2 l => ⟨l1 _ _ _ l, l2 _ _ _ l⟩) (by rw [hz]; exact Nat.le_trans (Nat.min_le_left _ _) q.1) q.2⟩⟩
  · rename_i xd yd
    match vs, r with
    | [v, w], ⟨r1, r2, _⟩ =>
      obtain ⟨a, xs, e1, h1, l1⟩ := src_tup r1
      obtain ⟨b, ys, e2, h2, l2⟩ := src_tup r2
      subst e1 e2
      have k1 := dps_len h1
      have k2 := dps_len h2
      have hz := zipD_len xd yd
      refine ⟨a, b, xs, ys, rfl, .inr ⟨l1 _ _ _ (Later.self Rl st1), l2 _ _ _ (Later.self Rl st1), hq _ _ F1 H1 P1 st1 (walkD_pair h1 h2 (walk_zipT (by rw [hz, k1, k2])) fun F2 H2 P2 l => ⟨l1 _ _ _ l, l2 _ _ _ l⟩) (by rw [hz]; exact Nat.le_trans (Nat.min_le_left _ _) q.1) q.2⟩⟩
  · exact q.elim
/-! ### xs.index(y) -/
def fIndex (ds : List D) (Q : D → Prop) (d : D) : Prop := SeqAt.shaped (.list ds) = true ∧ SeqAt.shaped d = true ∧ ∃ (j : Nat) (z : D), ds[j]? = some z ∧ PyData.eqv z d = true ∧ (∀ (m : Nat) (z' : D), m < j → ds[m]? = some z' → PyData.eqv z' d = false) ∧ Q (.int (j : Int))
def xIndex (Ea Eb : DE) : DE := fun ρ Q Qx => Ea ρ (fListQ fun ds => Eb ρ (fIndex ds Q) Qx) Qx
theorem px_index (ha : PX X T W .vw a Ea) (hb : PX X T W .vw b Eb) (mk : ∀ {ta tb : TE}, PE X a ta → PE X b tb → PE X e (tBM X.K "list" (rIndexD X.K) ta (tCons tb tNil))) : PX X T W .fr e (xIndex Ea Eb) := by
  obtain ⟨ta, ht, hs⟩ := ha.ex
  obtain ⟨tb, ht2, hs2⟩ := hb.ex
  refine ⟨_, mk ht ht2, fun n F H P σ ρ Q Qx QV R hE hq hx => ?_⟩
  refine hs n F H P σ ρ _ Qx _ R hE (fun v d F1 H1 P1 st1 rv hE2 => ?_) hx
  cases d with
  | list ds =>
    obtain ⟨x, xs, ev, h1, h2⟩ := View.list st1.exF rv
    subst ev
    refine ⟨.inl ⟨rfl, xs, h1⟩, ?_⟩
    refine hs2 n F1 H1 P1 σ ρ _ Qx _ (R.step st1) hE2 (fun w d2 F2 H2 P2 st2 rw2 hf => ?_) (hx.step st1)
    obtain ⟨s1, s2, j, z, e1, e2, e3, q⟩ := hf
    have R2 := (R.step st1).step st2
    exact ⟨x, w, d2, ds, j, z, rfl, rfl, View.dp R2.exF (View.step st2 rv), View.dp R2.exF rw2, s1, s2, e1, e2, e3, (hq.step (st1.trans st2)).plain R2 (.int _) q⟩
  | _ => exact (show False from hE2).elim
end
end Dt

set_option maxRecDepth 100000
set_option maxHeartbeats 4000000
namespace Dt
open PySem PySem.Spec PyProof.Rows L2
def canI (X : Cx) (T : Tape) (W : WX) (m : Bool) (I : DI) : TI := fun σ H R => ∃ n F P ρ Q Qx, Rel X.K T n F H P σ ρ ∧ I ρ Q Qx ∧ (∀ J ds F1 H1 P1, Step T F H P F1 H1 P1 → WalkD X.K T n m J ds F1 H1 P1 → ds.length ≤ sizeLine → Q ds → R J H1) ∧ XOk X T W F H P σ Qx
/-- [e for t in I if .. for t1 in I1 if ..]: k items stand already -/
def lc2D (g : DG) (tt : DT) (I1 : DI) (g1 : DG) (tt1 : DT) (E : DE) (own1 : List Nat) (ρ : Env) : List D → Nat → (List D → Prop) → Prop
  | [], _, Q => Q []
  | d :: ds, k, Q => g d ρ (fun ρ1 => tt ρ1 (fun b => if b = true then I1 ρ1 (fun es => k + es.length ≤ sizeLine ∧ lcD g1 tt1 E (wipeR ρ1 own1) es (fun ys => lc2D g tt I1 g1 tt1 E own1 ρ ds (k + ys.length) (fun zs => Q (ys ++ zs)))) (fun _ => False) else lc2D g tt I1 g1 tt1 E own1 ρ ds k Q) (fun _ => False))
def xLc2 (I : DI) (g : DG) (tt : DT) (I1 : DI) (g1 : DG) (tt1 : DT) (E : DE) (own own1 : List Nat) : DE := fun ρ Q Qx => I ρ (fun ds => lc2D g tt I1 g1 tt1 E own1 (wipeR ρ own) ds 0 (fun ys => Q (.list ys))) Qx
section
variable {X : Cx} {T : Tape} {W : WX} {m : Bool} {rk : RK} {e elt tg iter tg1 iter1 : Expr} {ifs ifs1 : List Expr} {E : DE} {G G1 : DT} {I I1 : DI} {g g1 : DG} {js js1 vs1 : List Nat} {scope : Scope} {own : List (Str × Nat)} {pos : Pos}
theorem PIx.can (h : PIx X T W m tg e I) : PI X tg e (canI X T W m I) := by
  obtain ⟨t, ht, hs⟩ := h.ex
  refine ⟨fun pins s σ H R I0 hw => ?_⟩
  obtain ⟨n, F, P, ρ, Q, Qx, Rl, hE, hq, hx⟩ := hw
  exact ht.run pins s σ H R I0 (hs n F H P σ ρ Q Qx R Rl hE hq hx)
/-- what the new list at Dl says along the way -/
structure Grown (K : PySem.W.Frag) (T : Tape) (F1 H1 : Hp) (P1 : Fp) (Dl : Addr) (acc : List D) (F' H' : Hp) (P' : Fp) : Prop where
  st : Step T F1 H1 P1 F' H' P'
  nF : F' Dl = none
  nP : ¬ P' Dl
  ex : ∃ xs, H' Dl = some (.lst xs) ∧ DpAll K F' xs acc
theorem Grown.step {K : PySem.W.Frag} {F1 H1 F' H' F2 H2 : Hp} {P1 P' P2 : Fp} {Dl : Addr} {acc : List D} (h : Grown K T F1 H1 P1 Dl acc F' H' P') (st : Step T F' H' P' F2 H2 P2) : Grown K T F1 H1 P1 Dl acc F2 H2 P2 := by
  obtain ⟨xs, e, r⟩ := h.ex
  refine ⟨h.st.trans st, ?_, fun z => ?_, xs, st.keep _ _ e h.nP, dps_ex st.grow r⟩
  · cases z : F2 Dl with
    | none => rfl
    | some o =>
      rcases st.new Dl (by rw [z]; simp) with y | y
      · exact absurd h.nF y
      · rw [e] at y; cases y
  · rcases st.pnew Dl z with y | y
    · exact h.nP y
    · rw [e] at y; cases y
theorem Grown.app {K : PySem.W.Frag} {F1 H1 F' H' : Hp} {P1 P' : Fp} {Dl : Addr} {acc : List D} {v : V} {y : D} {xs : List V} (h : Grown K T F1 H1 P1 Dl acc F' H' P') (hn : H1 Dl = none) (e : H' Dl = some (.lst xs)) (hd : Dp K F' v y) : Grown K T F1 H1 P1 Dl (acc ++ [y]) F' (upd H' Dl (.lst (xs ++ [v]))) P' := by
  obtain ⟨xs', e', r⟩ := h.ex
  rw [e] at e'
  cases e'
  exact ⟨h.st.mutN hn (by rw [e]; simp) h.nF h.nP, h.nF, h.nP, _, upd_same, dps_app r (.cons hd .nil)⟩
theorem drop_cons {α : Type} {ds : List α} {i : Nat} {d : α} (hd : ds[i]? = some d) : ds.drop i = d :: ds.drop (i + 1) := by
  obtain ⟨hlt, e⟩ := List.getElem?_eq_some_iff.mp hd
  rw [← e]
  exact List.drop_eq_getElem_cons hlt
/-- a list of nobody's is changed -/
theorem Rel.mutAt {K : PySem.W.Frag} {n : En} {F H : Hp} {P : Fp} {σ : L2.St} {ρ : Env} {Dl : Addr} {xs ys : List V} (R : Rel K T n F H P σ ρ) (hh : H Dl = some (.lst xs)) (h0 : n.H0 Dl = none) (hF : F Dl = none) (hP : ¬ P Dl) (ho : ∀ (j : Nat) (d : D), ρ[j]? = some (.ow d) → σ[j]? ≠ some (some (.ref Dl))) :
    Rel K T n F (upd H Dl (.lst ys)) P σ ρ := by
  refine { R with exF := fun x u e => ?_, keep := fun x o e hp => ?_, dom := fun x e => ?_, pH := fun x e => ?_, tape := fun t h => T.stable _ _ _ _ (R.tape t h) fun x z => ?_, slot := fun j sl e => ?_ }
  · have : x ≠ Dl := fun z => by subst z; rw [hF] at e; cases e
    rw [upd_ne this]; exact R.exF x u e
  · have : x ≠ Dl := fun z => by subst z; rw [h0] at e; cases e
    rw [upd_ne this]; exact R.keep x o e hp
  · by_cases z : x = Dl
    · subst z; rw [upd_same]; simp
    · rw [upd_ne z]; exact R.dom x e
  · by_cases z : x = Dl
    · subst z; rw [upd_same]; simp
    · rw [upd_ne z]; exact R.pH x e
  · have : x ≠ Dl := fun e => by subst e; exact hP z
    rw [upd_ne this]
  · have w := R.slot j sl e
    cases sl with
    | un => trivial
    | fr d => exact w
    | ow d =>
      obtain ⟨b, z1, z2, z3, z4, z5⟩ := w
      have nb : b ≠ Dl := fun zz => by
        subst zz
        exact ho j d e (join_some z1)
      exact ⟨b, z1, hold_ex (Ex.refl F) (fun o z => by rw [upd_ne nb]; exact z) z2, z3, z4, z5⟩
    | bo d => exact w
    | tp =>
      obtain ⟨t, z1, z2⟩ := w
      refine ⟨t, z1, T.stable _ _ _ _ z2 fun x z => ?_⟩
      have : x ≠ Dl := fun e => by subst e; exact hP z
      rw [upd_ne this]
    | ex e0 dd y =>
      obtain ⟨z0, b, vs, z1, z2, z3, z4⟩ := w
      have nb : b ≠ Dl := fun zz => by
        subst zz
        rw [hh] at z2; cases z2
      exact ⟨z0, b, vs, z1, by rw [upd_ne nb]; exact z2, z3, z4⟩
theorem lc2_sem {n : En} {F H : Hp} {P : Fp} {σ : L2.St} {ρ : Env} {Q : D → Prop} {Qx : Exn → Prop} {QV : VK} (hjs : ∀ j ∈ js, j ∈ own.map (·.2)) (hjs1 : ∀ j ∈ js1, j ∈ vs1)
    (R : Rel X.K T n F H P σ ρ) (hE : xLc2 I g G I1 g1 G1 E (own.map (·.2)) vs1 ρ Q Qx) (hq : ROk X T n .nw F H P Q QV) (hx : XOk X T W F H P σ Qx) :
    tLc2 (canI X T W false I) (canG X T js g) (canT X T W0 G) (canI X T W0 true I1) (canG X T js1 g1) (canT X T W0 G1) (canE X T W0 .fr E) (own.map (·.2)) vs1 σ H QV := by
  have noX : ∀ F H P σ, XOk X T W0 F H P σ (fun _ => False) := fun _ _ _ _ _ _ _ _ _ _ _ _ z => z.elim
  refine ⟨n, F, P, ρ, _, Qx, R, hE, fun J ds F1 H1 P1 st1 wd hz qd => ?_, hx⟩
  intro Dl hD
  obtain ⟨Gw, Y, w, hG, hY⟩ := wd.ex
  have R1 := R.step st1
  have g0 : Grown X.K T F1 H1 P1 Dl [] F1 (upd H1 Dl (.lst [])) P1 := by
    refine ⟨R1.refl.newN hD, ?_, fun z => st1.pH Dl z hD, [], upd_same, .nil⟩
    cases z : F1 Dl with
    | none => rfl
    | some o => rw [st1.exF Dl o z] at hD; cases hD
  refine ⟨fun i k H' => k = ds.length - i ∧ i ≤ ds.length ∧ ∃ F' P' acc, Grown X.K T F1 H1 P1 Dl acc F' H' P' ∧ lc2D g G I1 g1 G1 E vs1 (wipeR ρ (own.map (·.2))) (ds.drop i) acc.length (fun ys => Q (.list (acc ++ ys))),
    ⟨ds.length, by simp, Nat.zero_le _, F1, P1, [], g0, qd⟩, ?_⟩
  rintro i k H' ⟨rfl, hi, F', P', acc, gr, hl⟩
  have hGw := hG F' H' P' gr.st
  by_cases hlt : i < ds.length
  · refine .inr ⟨w.goes i H' hlt hGw, fun H2 => i + 1 ≤ ds.length ∧ ∃ F' P' acc, Grown X.K T F1 H1 P1 Dl acc F' H2 P' ∧ lc2D g G I1 g1 G1 E vs1 (wipeR ρ (own.map (·.2))) (ds.drop (i + 1)) acc.length (fun ys => Q (.list (acc ++ ys))),
      fun H2 ⟨h1, h2⟩ => ⟨ds.length - (i + 1), by omega, rfl, h1, h2⟩, fun x H'' hy => ?_⟩
    obtain ⟨F3, d, st3, hd, hdp⟩ := hY i F' H' P' x H'' gr.st gr.st.refl2 hlt (w.yields i H' x H'' hlt hGw hy)
    rw [drop_cons hd] at hl
    have g3 := gr.step st3
    have R3 := (R1.step g3.st).wipe (own.map (·.2))
    refine ⟨n, F3, P', _, d, _, R3, hdp, hl, fun σ2 ρ2 R4 hw q1 => ⟨?_, n, F3, P', ρ2, _, _, R4, q1, fun b F5 H5 P5 st5 q2 => ?_, noX _ _ _ _⟩⟩
    · have := hw.wipe (own.map (·.2)) hjs
      rw [this]
      exact wipe_idem _ _
    have g5 := g3.step st5
    cases b with
    | false =>
      simp only [Bool.false_eq_true, if_false] at q2 ⊢
      exact ⟨hlt, F5, P5, acc, g5, q2⟩
    | true =>
      simp only [if_true] at q2 ⊢
      have R5 := R4.step st5
      refine ⟨n, F5, P5, ρ2, _, _, R5, q2, fun J1 es F6 H6 P6 st6 wd1 hz1 q3 => ?_, noX _ _ _ _⟩
      obtain ⟨hk, q3⟩ := q3
      obtain ⟨Gw1, Y1, w1, hG1, hY1⟩ := wd1.ex
      have g6 := g5.step st6
      have R6 := R5.step st6
      have h0 : n.H0 Dl = none := by
        cases z : n.H0 Dl with
        | none => rfl
        | some o => exact absurd hD (R1.dom Dl (by rw [z]; simp))
      have own2 : ∀ (j : Nat) (d : D), ρ2[j]? = some (.ow d) → σ2[j]? ≠ some (some (.ref Dl)) := fun j d e z => by
        obtain ⟨o1, o2⟩ := hw.ow j d e
        obtain ⟨q, z1, z2, _⟩ := ((R1.wipe (own.map (·.2))).slot j _ o1)
        have z1 := join_some z1
        rw [← o2, z] at z1
        cases z1
        obtain ⟨o, zo⟩ := hold_some z2
        rw [hD] at zo; cases zo
      refine ⟨fun j k H' => k = es.length - j ∧ j ≤ es.length ∧ ∃ F' P' done, Rel X.K T n F' H' P' σ2 ρ2 ∧ Ex F6 F' ∧ Grown X.K T F1 H1 P1 Dl (acc ++ done) F' H' P' ∧ done.length ≤ j ∧
        lcD g1 G1 E (wipeR ρ2 vs1) (es.drop j) (fun ys => lc2D g G I1 g1 G1 E vs1 (wipeR ρ (own.map (·.2))) (ds.drop (i + 1)) (acc.length + (done ++ ys).length) (fun zs => Q (.list (acc ++ ((done ++ ys) ++ zs))))),
        ⟨es.length, by simp, Nat.zero_le _, F6, P6, [], R6, Ex.refl _, by rw [List.append_nil]; exact g6, Nat.le_refl _, q3⟩, ?_⟩
      rintro j k H7 ⟨rfl, hj, F7, P7, done, R7, x7, g7, hdn, hl7⟩
      have lat : Later T n true F6 H6 P6 F7 H7 P7 := ⟨x7, R7.exF, R7.keep⟩
      have hG7 := hG1 F7 H7 P7 lat
      by_cases hjl : j < es.length
      · refine .inr ⟨w1.goes j H7 hjl hG7, fun H2 => j + 1 ≤ es.length ∧ ∃ F' P' done, Rel X.K T n F' H2 P' σ2 ρ2 ∧ Ex F6 F' ∧ Grown X.K T F1 H1 P1 Dl (acc ++ done) F' H2 P' ∧ done.length ≤ j + 1 ∧
          lcD g1 G1 E (wipeR ρ2 vs1) (es.drop (j + 1)) (fun ys => lc2D g G I1 g1 G1 E vs1 (wipeR ρ (own.map (·.2))) (ds.drop (i + 1)) (acc.length + (done ++ ys).length) (fun zs => Q (.list (acc ++ ((done ++ ys) ++ zs))))),
          fun H2 ⟨h1, h2⟩ => ⟨es.length - (j + 1), by omega, rfl, h1, h2⟩, fun x8 H8 hy8 => ?_⟩
        obtain ⟨F8, d8, st8, hd8, hdp8⟩ := hY1 j F7 H7 P7 x8 H8 lat R7.refl hjl (w1.yields j H7 x8 H8 hjl hG7 hy8)
        rw [drop_cons hd8] at hl7
        have g8 := g7.step st8
        have R8 := R7.step st8
        refine ⟨n, F8, P7, _, d8, _, R8.wipe vs1, hdp8, hl7, fun σ9 ρ9 R9 hw9 q9 => ⟨?_, n, F8, P7, ρ9, _, _, R9, q9, fun b Fa Ha Pa sta qa => ?_, noX _ _ _ _⟩⟩
        · have := hw9.wipe vs1 hjs1
          rw [this]
          exact wipe_idem _ _
        have ga := g8.step sta
        have Ra := R8.step sta
        cases b with
        | false =>
          simp only [Bool.false_eq_true, if_false] at qa ⊢
          exact ⟨hjl, Fa, Pa, done, Ra, (x7.trans st8.grow).trans sta.grow, ga, Nat.le_succ_of_le hdn, qa⟩
        | true =>
          simp only [if_true] at qa ⊢
          refine ⟨n, Fa, Pa, ρ9, _, _, R9.step sta, qa, fun v y Fb Hb Pb stb rb qb => ?_, noX _ _ _ _⟩
          have gb := ga.step stb
          obtain ⟨xs, e, r⟩ := gb.ex
          have hxl := dps_len r
          rw [List.length_append] at hxl
          refine ⟨xs, e, by omega, hjl, Fb, Pb, done ++ [y], (Ra.step stb).mutAt e h0 gb.nF gb.nP own2, ((x7.trans st8.grow).trans sta.grow).trans stb.grow, ?_, by rw [List.length_append]; simp; omega, ?_⟩
          · rw [← List.append_assoc]
            exact gb.app hD e rb
          · simpa using qb
      · have hje : j = es.length := by omega
        subst hje
        refine .inl ⟨w1.stops H7 hG7, ?_⟩
        rw [List.drop_length] at hl7
        have hl7 : lc2D g G I1 g1 G1 E vs1 (wipeR ρ (own.map (·.2))) (ds.drop (i + 1)) (acc.length + (done ++ []).length) (fun zs => Q (.list (acc ++ ((done ++ []) ++ zs)))) := hl7
        rw [List.append_nil] at hl7
        refine ⟨hlt, F7, P7, acc ++ done, g7, ?_⟩
        rw [List.length_append]
        simpa [List.append_assoc] using hl7
  · have hil : i = ds.length := by omega
    subst hil
    refine .inl ⟨w.stops H' hGw, ?_⟩
    rw [List.drop_length] at hl
    have hl : Q (.list (acc ++ [])) := hl
    rw [List.append_nil] at hl
    obtain ⟨xs, e, r⟩ := gr.ex
    refine hq _ (.list acc) F' H' P' (st1.trans gr.st) ⟨Dl, rfl, ⟨xs, e, r⟩, ?_, gr.nF, gr.nP⟩ hl
    cases z : H Dl with
    | none => rfl
    | some o => exact absurd hD (st1.dom Dl (by rw [z]; simp))
theorem px_lc2 (vs1 : List Nat) (hc : X.calm = true) (hN : X.N.Nodup) (hi : PIx X T W false tg iter I) (ok : BlkOk X.N X.env.scope scope own)
    (hg : ∀ (s : Shared) (H : Hp) (C : Addr) (cl : List (Str × Addr)) (fp : List Addr), PGx (X.blk s H scope (compEnvC scope cl C X.env) fp) T js tg g) (ht : ∀ (s : Shared) (H : Hp) (C : Addr) (cl : List (Str × Addr)) (fp : List Addr), PTsx (X.blk s H scope (compEnvC scope cl C X.env) fp) T W0 ifs G)
    (hi1 : ∀ (s : Shared) (H : Hp) (C : Addr) (cl : List (Str × Addr)) (fp : List Addr), PIx (X.blk s H scope (compEnvC scope cl C X.env) fp) T W0 true tg1 iter1 I1)
    (hg1 : ∀ (s : Shared) (H : Hp) (C : Addr) (cl : List (Str × Addr)) (fp : List Addr), PGx (X.blk s H scope (compEnvC scope cl C X.env) fp) T js1 tg1 g1) (ht1 : ∀ (s : Shared) (H : Hp) (C : Addr) (cl : List (Str × Addr)) (fp : List Addr), PTsx (X.blk s H scope (compEnvC scope cl C X.env) fp) T W0 ifs1 G1)
    (he : ∀ (s : Shared) (H : Hp) (C : Addr) (cl : List (Str × Addr)) (fp : List Addr), PX (X.blk s H scope (compEnvC scope cl C X.env) fp) T W0 .fr elt E) (hv : ∀ i ∈ vs1, i ∈ own.map (·.2) := by decide) (hjs : ∀ j ∈ js, j ∈ own.map (·.2) := by decide) (hjs1 : ∀ j ∈ js1, j ∈ vs1 := by decide)
    (hs : ∀ x, foldedSetIterable iter X.env x = pure x := by intro _; rfl) (hs1 : ∀ env x, foldedSetIterable iter1 env x = pure x := by intro _ _; rfl) :
    PX X T W .nw (.ListComp elt [⟨tg, iter, ifs, 0⟩, ⟨tg1, iter1, ifs1, 0⟩] scope pos) (xLc2 I g G I1 g1 G1 E (own.map (·.2)) vs1) :=
  ⟨_, pe_lc2 (own := own) (vs1 := vs1) (wi := canI X T W false I) (wi1 := canI X T W0 true I1) (g := canG X T js g) (g1 := canG X T js1 g1) (tt := canT X T W0 G) (tt1 := canT X T W0 G1) (te := canE X T W0 .fr E) hc hN hi.can ok hv (fun s H C cl fp => (hg s H C cl fp).can) (fun s H C cl fp => (ht s H C cl fp).can)
      (fun s H C cl fp => (hi1 s H C cl fp).can) (fun s H C cl fp => (hg1 s H C cl fp).can) (fun s H C cl fp => (ht1 s H C cl fp).can) (fun s H C cl fp => (he s H C cl fp).can) hs hs1,
    fun n F H P σ ρ Q Qx QV R hE hq hx => lc2_sem hjs hjs1 R hE hq hx⟩
theorem psx_setLc2 (i : Nat) (vs1 : List Nat) {x : Str} {px pos2 : Pos} (hc : X.calm = true) (hN : X.N.Nodup) (hi0 : X.N[i]? = some x) (hx : X.env.scope.names.lookup x = some .local)
    (hsw : swapsWith (.ListComp elt [⟨tg, iter, ifs, 0⟩, ⟨tg1, iter1, ifs1, 0⟩] scope pos2) (some (.Name x px)) pos.line X.env = pure true) (hi : PIx X T W false tg iter I) (ok : BlkOk X.N X.env.scope scope own)
    (hg : ∀ (s : Shared) (H : Hp) (C : Addr) (cl : List (Str × Addr)) (fp : List Addr), PGx (X.blk s H scope (compEnvC scope cl C X.env) fp) T js tg g) (ht : ∀ (s : Shared) (H : Hp) (C : Addr) (cl : List (Str × Addr)) (fp : List Addr), PTsx (X.blk s H scope (compEnvC scope cl C X.env) fp) T W0 ifs G)
    (hi1 : ∀ (s : Shared) (H : Hp) (C : Addr) (cl : List (Str × Addr)) (fp : List Addr), PIx (X.blk s H scope (compEnvC scope cl C X.env) fp) T W0 true tg1 iter1 I1)
    (hg1 : ∀ (s : Shared) (H : Hp) (C : Addr) (cl : List (Str × Addr)) (fp : List Addr), PGx (X.blk s H scope (compEnvC scope cl C X.env) fp) T js1 tg1 g1) (ht1 : ∀ (s : Shared) (H : Hp) (C : Addr) (cl : List (Str × Addr)) (fp : List Addr), PTsx (X.blk s H scope (compEnvC scope cl C X.env) fp) T W0 ifs1 G1)
    (he : ∀ (s : Shared) (H : Hp) (C : Addr) (cl : List (Str × Addr)) (fp : List Addr), PX (X.blk s H scope (compEnvC scope cl C X.env) fp) T W0 .fr elt E) (hv : ∀ i ∈ vs1, i ∈ own.map (·.2) := by decide) (hjs : ∀ j ∈ js, j ∈ own.map (·.2) := by decide) (hjs1 : ∀ j ∈ js1, j ∈ vs1 := by decide)
    (hs : ∀ x, foldedSetIterable iter X.env x = pure x := by intro _; rfl) (hs1 : ∀ env x, foldedSetIterable iter1 env x = pure x := by intro _ _; rfl) :
    PSx X T W rk (.Assign [.Name x px] (.ListComp elt [⟨tg, iter, ifs, 0⟩, ⟨tg1, iter1, ifs1, 0⟩] scope pos2) pos) (sSetN i (xLc2 I g G I1 g1 G1 E (own.map (·.2)) vs1)) := by
  refine ⟨_, ps_setLc2 (own := own) (vs1 := vs1) (wi := canI X T W false I) (wi1 := canI X T W0 true I1) (g := canG X T js g) (g1 := canG X T js1 g1) (tt := canT X T W0 G) (tt1 := canT X T W0 G1) (te := canE X T W0 .fr E) hc hN hi0 hx hsw hi.can ok hv (fun s H C cl fp => (hg s H C cl fp).can) (fun s H C cl fp => (ht s H C cl fp).can)
      (fun s H C cl fp => (hi1 s H C cl fp).can) (fun s H C cl fp => (hg1 s H C cl fp).can) (fun s H C cl fp => (ht1 s H C cl fp).can) (fun s H C cl fp => (he s H C cl fp).can) hs hs1,
    fun n F H P σ ρ A Dd R h ok => ?_⟩
  exact lc2_sem (QV := fun v H1 => gName i v σ H1 Dd.nx) hjs hjs1 R h (fun v d F' H' P' st' r q => ok.nx F' H' P' _ _ (R.putN st' r i) q) (ok.xok R)
end
/-! ### more laws of readings, more promises -/
theorem lc2D_all {α : Type} {g g1 : DG} {tt tt1 : DT} {I1 : DI} {E : DE} {own1 : List Nat} {ρ : Env} (enc : α → D) (f : α → List D) : ∀ (xs : List α) (k : Nat) (Q : List D → Prop),
    (∀ x ∈ xs, ∀ (k : Nat) (R : List D → Prop) (R0 : Prop), k + (f x).length ≤ sizeLine → R (f x) → g (enc x) ρ (fun ρ1 => tt ρ1 (fun b => if b = true then I1 ρ1 (fun es => k + es.length ≤ sizeLine ∧ lcD g1 tt1 E (wipeR ρ1 own1) es R) (fun _ => False) else R0) (fun _ => False))) →
    k + (xs.flatMap f).length ≤ sizeLine → Q (xs.flatMap f) → lc2D g tt I1 g1 tt1 E own1 ρ (xs.map enc) k Q
  | [], _, _, _, _, q => q
  | x :: xs, k, Q, h, hk, q => by
    rw [List.flatMap_cons, List.length_append] at hk
    refine h x (List.mem_cons_self ..) k (fun ys => lc2D g tt I1 g1 tt1 E own1 ρ (xs.map enc) (k + ys.length) fun zs => Q (ys ++ zs)) _ (by omega) ?_
    exact lc2D_all enc f xs _ _ (fun y hy => h y (List.mem_cons_of_mem _ hy)) (by omega) (by rw [List.flatMap_cons] at q; exact q)
/-- any of some answers, any of some errors -/
def ndx {α : Type} (ks : List RK) (rk : RK) (enc : α → List D) (ok : α → Prop) (out : α → Except Exn D → Prop) : FSp where
  ks := ks
  rk := rk
  f := fun ds Q Qx => ∃ a, ds = enc a ∧ ok a ∧ (∀ d, out a (.ok d) → Q d) ∧ ∀ x, out a (.error x) → Qx x
  mono := fun ds Q Q' Qx Qx' h hx ⟨a, e, o, q, qx⟩ => ⟨a, e, o, fun d z => h d (q d z), fun x z => hx x (qx x z)⟩
theorem forD_pre {α : Type} {g : DG} {S : DS} (enc : α → D) (I : List α → Env → Prop) (A : SE) (all : List α) : ∀ (xs pre : List α) (ρ : Env), all = pre ++ xs → I pre ρ →
    (∀ pre x post ρ, all = pre ++ x :: post → I pre ρ → ∀ (N : Env → Prop), (∀ ρ', I (pre ++ [x]) ρ' → N ρ') → g (enc x) ρ (fun ρ1 => S ρ1 { A with nx := N, ct := N, bk := A.nx })) →
    (∀ ρ, I all ρ → A.nx ρ) → forD g S (xs.map enc) ρ A
  | [], pre, ρ, e, h0, _, he => he ρ (by rw [e, List.append_nil]; exact h0)
  | x :: xs, pre, ρ, e, h0, hs, he => hs pre x xs ρ e h0 _ fun ρ' h' => forD_pre enc I A all xs (pre ++ [x]) ρ' (by rw [e]; simp) h' hs he
/-- what comes next, told only at an environment that is laid out -/
structure thenD (S : DS) (A : SE) (ρ : Env) : Prop where
  go : S ρ A
theorem thenD_cons {S : DS} {A : SE} {s : Sl} {ρ : Env} : thenD S A (s :: ρ) = S (s :: ρ) A := propext ⟨fun h => h.go, fun h => ⟨h⟩⟩
theorem thenD_eq {S : DS} {A : SE} : (fun ρ => S ρ A) = thenD S A := funext fun ρ => propext ⟨fun h => ⟨h⟩, fun h => h.go⟩
theorem sSeq_eq {S1 S2 : DS} {ρ : Env} {nx bk ct : Env → Prop} {rt : D → Prop} {xx : Env → Exn → Prop} : sSeq S1 S2 ρ ⟨nx, rt, bk, ct, xx⟩ = S1 ρ ⟨thenD S2 ⟨nx, rt, bk, ct, xx⟩, rt, bk, ct, xx⟩ := by
  show S1 ρ ⟨fun ρ' => S2 ρ' ⟨nx, rt, bk, ct, xx⟩, rt, bk, ct, xx⟩ = _
  rw [thenD_eq]
end Dt

set_option maxRecDepth 100000
set_option maxHeartbeats 4000000
namespace Dt
open PySem PySem.Spec PyProof.Rows L2
/-! ### the tape: a list of a number, a list of numbers, and a dict of pairs by places -/
structure CrockAt (pl : List Str) (H : Hp) (t hl dd : Addr) (c : Int) (held : List Int) (kvs : List (Key × V)) (P : Fp) : Prop where
  t_ : H t = some (.lst [.int c, .ref hl, .ref dd])
  h_ : H hl = some (.lst (held.map V.int))
  d_ : H dd = some (.dK kvs)
  th : t ≠ hl
  td : t ≠ dd
  hd : hl ≠ dd
  vals : ∀ kv ∈ kvs, ∃ (b f : Int) (a : Addr), kv.2 = .ref a ∧ H a = some (.tup [.int b, .int f])
  keys : (kvs.map (·.1)).Nodup ∧ ∀ kv ∈ kvs, ∃ p ∈ pl, kv.1 = .inr p
  nn : ∀ h ∈ held, 0 ≤ h
  c0 : 0 ≤ c
  P_ : ∀ a, P a ↔ a = t ∨ a = hl ∨ a = dd ∨ ∃ kv ∈ kvs, kv.2 = .ref a
def crockT (pl : List Str) : Tape where
  ok := fun H t P => ∃ hl dd c held kvs, CrockAt pl H t hl dd c held kvs P
  stable := fun H H' t P ⟨hl, dd, c, held, kvs, C⟩ k => by
    have e1 := k t ((C.P_ t).mpr (.inl rfl))
    have e2 := k hl ((C.P_ hl).mpr (.inr (.inl rfl)))
    have e3 := k dd ((C.P_ dd).mpr (.inr (.inr (.inl rfl))))
    refine ⟨hl, dd, c, held, kvs, e1.trans C.t_, e2.trans C.h_, e3.trans C.d_, C.th, C.td, C.hd, fun kv hkv => ?_, C.keys, C.nn, C.c0, C.P_⟩
    obtain ⟨b, f, a, h1, h2⟩ := C.vals kv hkv
    exact ⟨b, f, a, h1, (k a ((C.P_ a).mpr (.inr (.inr (.inr ⟨kv, hkv, h1⟩))))).trans h2⟩
section
variable {pl : List Str} {H H' F : Hp} {P P' : Fp} {t t' hl dd hl' dd' : Addr} {c c' : Int} {held held' : List Int} {kvs kvs' : List (Key × V)}
theorem CrockAt.there (C : CrockAt pl H t hl dd c held kvs P) {a : Addr} (h : P a) : H a ≠ none := by
  rcases (C.P_ a).mp h with e | e | e | ⟨kv, hk, e⟩
  · rw [e, C.t_]; simp
  · rw [e, C.h_]; simp
  · rw [e, C.d_]; simp
  · obtain ⟨b, f, x, h1, h2⟩ := C.vals kv hk
    rw [h1] at e; cases e
    rw [h2]; simp
/-- the tape is told by its footprint -/
theorem CrockAt.same (C : CrockAt pl H t hl dd c held kvs P) (C' : CrockAt pl H t' hl' dd' c' held' kvs' P) : t' = t := by
  have h := (C'.P_ t').mpr (.inl rfl)
  have ht := C'.t_
  rcases (C.P_ t').mp h with e | e | e | ⟨kv, hk, e⟩
  · exact e
  · rw [e, C.h_] at ht
    have ht := Option.some.inj ht
    injection ht with ht
    cases held with
    | nil => simp at ht
    | cons a r =>
      cases r with
      | nil => simp at ht
      | cons b r => simp at ht
  · rw [e, C.d_] at ht; cases ht
  · obtain ⟨b, f, x, h1, h2⟩ := C.vals kv hk
    rw [h1] at e; cases e
    rw [h2] at ht; cases ht
/-- what a draw leaves -/
theorem crock_step (exF : Ex F H) (pF : ∀ a, P a → F a = none) (C : CrockAt pl H t hl dd c held kvs P) (C' : CrockAt pl H' t hl' dd' c' held' kvs' P') (pn : ∀ a, P' a → P a ∨ H a = none) (kp : ∀ a, ¬ P' a → H' a = H a) : Step (crockT pl) F H P F H' P' := by
  have nF : ∀ a o, F a = some o → ¬ P' a := fun a o e z => by
    rcases pn a z with q | q
    · rw [pF a q] at e; cases e
    · rw [exF a o e] at q; cases q
  refine ⟨Ex.refl F, fun _ h => .inl h, fun a o e => ?_, fun a o e hp => ?_, fun a e => ?_, pn, fun a h => ?_, fun a h => C'.there h, fun s ⟨hl2, dd2, c2, held2, kvs2, C2⟩ => ?_⟩
  · rw [kp a (nF a o e)]; exact exF a o e
  · rw [kp a fun z => by
      rcases pn a z with q | q
      · exact hp q
      · rw [e] at q; cases q]
    exact e
  · by_cases z : P' a
    · exact C'.there z
    · rw [kp a z]; exact e
  · rcases pn a h with q | q
    · exact pF a q
    · cases z : F a with
      | none => rfl
      | some o => rw [exF a o z] at q; cases q
  · have := C.same C2
    subst this
    exact ⟨hl', dd', c', held', kvs', C'⟩
theorem nodup_le {α : Type} [DecidableEq α] : ∀ (l m : List α), l.Nodup → (∀ x ∈ l, x ∈ m) → l.length ≤ m.length
  | [], _, _, _ => Nat.zero_le _
  | x :: l, m, h, hm => by
    have hx := hm x (by simp)
    have := nodup_le l (m.erase x) (List.nodup_cons.mp h).2 fun y hy => (List.mem_erase_of_ne (fun e => by subst e; exact (List.nodup_cons.mp h).1 hy)).mpr (hm y (List.mem_cons_of_mem _ hy))
    rw [List.length_erase_of_mem hx] at this
    have := List.length_pos_of_mem hx
    simp only [List.length_cons]; omega
theorem CrockAt.few (C : CrockAt pl H t hl dd c held kvs P) : kvs.length ≤ pl.length := by
  have := nodup_le (kvs.map (·.1)) (pl.map Sum.inr) C.keys.1 fun k hk => by
    obtain ⟨kv, h1, rfl⟩ := List.mem_map.mp hk
    obtain ⟨p, h2, h3⟩ := C.keys.2 kv h1
    rw [h3]; exact List.mem_map.mpr ⟨p, h2, rfl⟩
  simpa using this
/-- the held list is changed -/
theorem CrockAt.setH (C : CrockAt pl H t hl dd c held kvs P) {held' : List Int} (h : ∀ x ∈ held', 0 ≤ x) : CrockAt pl (upd H hl (.lst (held'.map V.int))) t hl dd c held' kvs P := by
  refine ⟨by rw [upd_ne C.th]; exact C.t_, upd_same, by rw [upd_ne (Ne.symm C.hd)]; exact C.d_, C.th, C.td, C.hd, fun kv hkv => ?_, C.keys, h, C.c0, C.P_⟩
  obtain ⟨b, f, a, h1, h2⟩ := C.vals kv hkv
  refine ⟨b, f, a, h1, ?_⟩
  rw [upd_ne (fun e => by rw [e, C.h_] at h2; cases h2)]; exact h2
/-- the number is changed -/
theorem CrockAt.setC (C : CrockAt pl H t hl dd c held kvs P) {c' : Int} (h : 0 ≤ c') : CrockAt pl (upd H t (.lst [.int c', .ref hl, .ref dd])) t hl dd c' held kvs P := by
  refine ⟨upd_same, by rw [upd_ne (Ne.symm C.th)]; exact C.h_, by rw [upd_ne (Ne.symm C.td)]; exact C.d_, C.th, C.td, C.hd, fun kv hkv => ?_, C.keys, C.nn, h, C.P_⟩
  obtain ⟨b, f, a, h1, h2⟩ := C.vals kv hkv
  refine ⟨b, f, a, h1, ?_⟩
  rw [upd_ne (fun e => by rw [e, C.t_] at h2; cases h2)]; exact h2
/-- a new place -/
theorem CrockAt.put (C : CrockAt pl H t hl dd c held kvs P) {p : Addr} {b f : Int} {k : Str} (hp : H p = none) (hk : k ∈ pl) (hn : valV kvs (.inr k : Key) = none) :
    CrockAt pl (upd (upd H p (.tup [.int b, .int f])) dd (.dK (putK kvs (.inr k : Key) (.ref p)))) t hl dd c held (kvs ++ [(.inr k, .ref p)]) (fun a => P a ∨ a = p) := by
  have e : putK kvs (.inr k : Key) (.ref p) = kvs ++ [(.inr k, .ref p)] := by
    unfold putK
    rw [if_neg]
    rw [valV_any, hn]; simp
  rw [e]
  have np : ∀ {a : Addr} {o : HO}, H a = some o → a ≠ p := fun {a o} h z => by rw [z, hp] at h; cases h
  refine ⟨by rw [upd_ne C.td, upd_ne (np C.t_)]; exact C.t_, by rw [upd_ne C.hd, upd_ne (np C.h_)]; exact C.h_, upd_same, C.th, C.td, C.hd, fun kv hkv => ?_, ⟨?_, fun kv hkv => ?_⟩, C.nn, C.c0, fun a => ?_⟩
  · rcases List.mem_append.mp hkv with z | z
    · obtain ⟨b', f', a, h1, h2⟩ := C.vals kv z
      refine ⟨b', f', a, h1, ?_⟩
      rw [upd_ne (fun e => by rw [e, C.d_] at h2; cases h2), upd_ne (np h2)]; exact h2
    · rw [List.mem_singleton.mp z]
      refine ⟨b, f, p, rfl, ?_⟩
      rw [upd_ne (Ne.symm (np C.d_)), upd_same]
  · rw [List.map_append, List.nodup_append]
    refine ⟨C.keys.1, by simp, fun x hx y hy => ?_⟩
    simp at hy
    subst hy
    intro z
    subst z
    obtain ⟨kv, h1, h2⟩ := List.mem_map.mp hx
    have : (kvs.any fun kv => decide (kv.1 = (.inr k : Key))) = true := List.any_eq_true.mpr ⟨kv, h1, by simpa using h2⟩
    rw [valV_any, hn] at this; cases this
  · rcases List.mem_append.mp hkv with z | z
    · exact C.keys.2 kv z
    · rw [List.mem_singleton.mp z]; exact ⟨k, hk, rfl⟩
  · constructor
    · rintro (h | h)
      · rcases (C.P_ a).mp h with e | e | e | ⟨kv, h1, h2⟩
        · exact .inl e
        · exact .inr (.inl e)
        · exact .inr (.inr (.inl e))
        · exact .inr (.inr (.inr ⟨kv, List.mem_append_left _ h1, h2⟩))
      · exact .inr (.inr (.inr ⟨_, List.mem_append_right _ (List.mem_singleton.mpr rfl), by rw [h]⟩))
    · rintro (e | e | e | ⟨kv, h1, h2⟩)
      · exact .inl ((C.P_ a).mpr (.inl e))
      · exact .inl ((C.P_ a).mpr (.inr (.inl e)))
      · exact .inl ((C.P_ a).mpr (.inr (.inr (.inl e))))
      · rcases List.mem_append.mp h1 with z | z
        · exact .inl ((C.P_ a).mpr (.inr (.inr (.inr ⟨kv, z, h2⟩))))
        · rw [List.mem_singleton.mp z] at h2
          cases h2; exact .inr rfl
theorem CrockAt.got (C : CrockAt pl H t hl dd c held kvs P) {k : Str} {v : V} (h : valV kvs (.inr k : Key) = some v) : ∃ (b f : Int) (a : Addr), v = .ref a ∧ H a = some (.tup [.int b, .int f]) := by
  unfold valV at h
  cases e : kvs.find? fun kv => decide (kv.1 = (.inr k : Key)) with
  | none => rw [e] at h; cases h
  | some kv =>
    rw [e] at h
    cases h
    exact C.vals kv (List.mem_of_find?_eq_some e)
theorem CrockAt.alloc (C : CrockAt pl H t hl dd c held kvs P) {p : Addr} {o : HO} (hp : H p = none) : CrockAt pl (upd H p o) t hl dd c held kvs P := by
  have np : ∀ {a : Addr} {u : HO}, H a = some u → a ≠ p := fun {a u} h z => by rw [z, hp] at h; cases h
  refine ⟨by rw [upd_ne (np C.t_)]; exact C.t_, by rw [upd_ne (np C.h_)]; exact C.h_, by rw [upd_ne (np C.d_)]; exact C.d_, C.th, C.td, C.hd, fun kv hkv => ?_, C.keys, C.nn, C.c0, C.P_⟩
  obtain ⟨b, f, a, h1, h2⟩ := C.vals kv hkv
  exact ⟨b, f, a, h1, by rw [upd_ne (np h2)]; exact h2⟩
theorem CrockAt.get (C : CrockAt pl H t hl dd c held kvs P) {k : Str} {v : V} (h : valV kvs (.inr k : Key) = some v) : DGet H dd (.str k) (some v) := by
  have := DGet.k (k := (Sum.inr k : Key)) C.d_
  rw [h] at this
  exact this
theorem ifF {A B : Prop} {b : Bool} (hb : b = false) (h : B) : if b = true then A else B := by rw [hb]; exact iteF h
theorem ifT {A B : Prop} {b : Bool} (hb : b = true) (h : A) : if b = true then A else B := by rw [hb]; exact iteT h
end
end Dt

set_option maxRecDepth 100000
set_option maxHeartbeats 4000000
namespace K07
open PySem PySem.Spec PyProof.Rows L2 Dt
def top (i : Nat) : Stmt := PySem.Challenge.pw_neverfalls_k07_records.main.body.getD i (.Pass ⟨0, 0, 0, 0⟩)
def notDict : D → Prop
  | .dict _ => False
  | _ => True
def isInt : D → Bool
  | .int _ => true
  | _ => false
def sp_is_integer : FSp := det1 [.vw] .fr (fun d => [d]) notDict fun d => .bool (isInt d)
def isTup (d : D) (n : Int) : Bool := match d with
  | .tuple ds => decide ((ds.length : Int) = n)
  | _ => false
def sp_tuple_of : FSp := det1 [.vw, .fr] .fr (fun (a : D × Int) => [a.1, .int a.2]) (fun a => notDict a.1) fun a => .bool (isTup a.1 a.2)
def iw (d : D) (lo hi : Int) : Bool := match d with
  | .int i => decide (lo ≤ i) && decide (i ≤ hi)
  | _ => false
def sp_integer_within : FSp := det1 [.vw, .fr, .fr] .fr (fun (a : D × Int × Int) => [a.1, .int a.2.1, .int a.2.2]) (fun a => notDict a.1) fun a => .bool (iw a.1 a.2.1 a.2.2)
/-- a field; a demand; a ladder -/
abbrev Fld := Str × Int × Int
def eF (f : Fld) : D := .tuple [.str f.1, .int f.2.1, .int f.2.2]
abbrev Dem := Nat × Int
def eD (d : Dem) : D := .tuple [.int d.1, .int d.2]
abbrev Lad := Dem × Dem
def eL (l : Lad) : D := .tuple [eD l.1, eD l.2]
structure Sc where
  fs : List Fld
  ls : List Lad
def eS (s : Sc) : D := .tuple [.tuple (s.fs.map eF), .tuple (s.ls.map eL)]
def eV (v : List Int) : D := .tuple (v.map .int)
def at0 (v : List Int) (i : Nat) : Int := v.getD i 0
structure Sc.Ok (s : Sc) : Prop where
  nf : s.fs.length ≤ 4
  pf : 0 < s.fs.length
  lo : ∀ f ∈ s.fs, f.2.1 ≤ f.2.2 ∧ f.2.2 ≤ f.2.1 + 3 ∧ -100 ≤ f.2.1 ∧ f.2.1 ≤ 100
  ix : ∀ l ∈ s.ls, l.1.1 < s.fs.length ∧ l.2.1 < s.fs.length
  nl : s.ls.length ≤ 1000
def lows (fs : List Fld) : List Int := fs.map (·.2.1)
def highs (fs : List Fld) : List Int := fs.map (·.2.2)
def sp_lows_of : FSp := det1 [.vw] .fr (fun fs => [.tuple (fs.map eF)]) (fun _ => True) fun fs => eV (lows fs)
def kp (v : List Int) (d : Dem) : Bool := decide (d.2 ≤ at0 v d.1)
def sp_keeps : FSp := det1 [.vw, .fr] .fr (fun (a : List Int × Dem) => [eV a.1, eD a.2]) (fun a => a.2.1 < a.1.length) fun a => .bool (kp a.1 a.2)
def areA (fs : List Fld) (d : D) : Bool := match d with
  | .tuple ds => decide (ds.length = fs.length) && (ds.zip fs).all fun p => iw p.1 p.2.2.1 p.2.2.2
  | _ => false
def flat1 : D → Prop
  | .dict _ => False
  | .tuple ds => ∀ d ∈ ds, notDict d
  | _ => True
def sp_are_answers : FSp := det1 [.fr, .fr] .fr (fun (a : List Fld × D) => [.tuple (a.1.map eF), a.2]) (fun a => flat1 a.2 ∧ a.1.length ≤ 1000) fun a => .bool (areA a.1 a.2)
def bey (s : Sc) (v : List Int) : Bool := (v.zip s.fs).any fun p => decide (p.2.2.2 < p.1)
def sp_goes_beyond : FSp := det1 [.fr, .fr] .fr (fun (a : Sc × List Int) => [eS a.1, eV a.2]) (fun a => a.2.length ≤ 1000) fun a => .bool (bey a.1 a.2)
def kl (s : Sc) (v : List Int) : Bool := s.ls.all fun l => kp v l.2 || !kp v l.1
def sp_keeps_ladders : FSp := det1 [.fr, .fr] .fr (fun (a : Sc × List Int) => [eS a.1, eV a.2]) (fun a => ∀ l ∈ a.1.ls, l.1.1 < a.2.length ∧ l.2.1 < a.2.length) fun a => .bool (kl a.1 a.2)
/-- is_integer: 0 thing -/
noncomputable def b_is_integer : DS :=
  (sRet ((xAnd ((xIsi "int" (xVw 0))) ((xNot ((xIsi "bool" (xVw 0))))))))

/-- integer_within: 0 thing, 1 low, 2 high -/
noncomputable def b_integer_within : DS :=
  (sRet ((xAnd ((xCall sp_is_integer (xCons (xVw 0) xNil))) ((xChain fLe fLe (xVw 1) (xVw 0) (xVw 2))))))

/-- tuple_of: 0 thing, 1 many -/
noncomputable def b_tuple_of : DS :=
  (sRet ((xAnd ((xIsi "tuple" (xVw 0))) ((xOp2 fEq ((xCB fLen (xCons (xVw 0) xNil))) (xVw 1))))))

/-- lows_of: 0 fields, 1 _, 2 low -/
noncomputable def b_lows_of : DS :=
  (sRet ((xCB fTuple (xCons ((xLc (xSeq (xVw 0)) (dgT 3 (dgCons (dgN 1) (dgCons (dgN 2) (dgCons (dgN 1) dgNil)))) (xYes) (xFr 2) [1, 2])) xNil))))

/-- keeps: 0 answers, 1 demand -/
noncomputable def b_keeps : DS :=
  (sRet ((xOp2 fGe ((xOp2 fIx (xVw 0) ((xOp2 fIx (xVw 1) (xC (.int 0)))))) ((xOp2 fIx (xVw 1) (xC (.int 1)))))))

/-- are_answers: 0 fields, 1 thing, 2 answer, 3 _, 4 low, 5 high -/
noncomputable def b_are_answers : DS :=
  (sSeq (sIf ((xNotT ((xTru ((xCall sp_tuple_of (xCons (xVw 1) (xCons ((xCB fLen (xCons (xVw 0) xNil))) xNil)))))))) (sRet (xC (.bool false))) sNil)
  (sRet ((xCB fAll (xCons ((xLc (xZip (xCons (xVw 1) (xCons (xVw 0) xNil))) (dgT 2 (dgCons (dgN 2) (dgCons (dgT 3 (dgCons (dgN 3) (dgCons (dgN 4) (dgCons (dgN 5) dgNil)))) dgNil))) (xYes) ((xCall sp_integer_within (xCons (xVw 2) (xCons (xFr 4) (xCons (xFr 5) xNil))))) [2, 3, 4, 5])) xNil)))))

/-- goes_beyond: 0 schema, 1 answers, 2 answer, 3 _, 4 high -/
noncomputable def b_goes_beyond : DS :=
  (sRet ((xCB fAny (xCons ((xLc (xZip (xCons (xVw 1) (xCons ((xOp2 fIx (xVw 0) (xC (.int 0)))) xNil))) (dgT 2 (dgCons (dgN 2) (dgCons (dgT 3 (dgCons (dgN 3) (dgCons (dgN 3) (dgCons (dgN 4) dgNil)))) dgNil))) (xYes) ((xOp2 fGt (xVw 2) (xVw 4))) [2, 3, 4])) xNil))))

/-- keeps_ladders: 0 schema, 1 answers, 2 one, 3 other -/
noncomputable def b_keeps_ladders : DS :=
  (sRet ((xCB fAll (xCons ((xLc (xSeq ((xOp2 fIx (xVw 0) (xC (.int 1))))) (dgT 2 (dgCons (dgN 2) (dgCons (dgN 3) dgNil))) (xYes) ((xOr ((xCall sp_keeps (xCons (xVw 1) (xCons (xFr 3) xNil)))) ((xNot ((xCall sp_keeps (xCons (xVw 1) (xCons (xFr 2) xNil)))))))) [2, 3])) xNil))))
abbrev PureOk (S : FSp) (B : DS) (n : Nat) : Prop := ∀ ds Q Qx, S.f ds Q Qx → B (env0 S.ks ds n) ⟨fun _ => S.rk = .fr ∧ Q .none, Q, fun _ => False, fun _ => False, fun _ => Qx⟩
theorem pure_is_integer : PureOk sp_is_integer b_is_integer 1 := by
  rintro ds Q Qx ⟨d, rfl, h, q⟩
  simp only [b_is_integer, sp_is_integer, det1, sSeq_eq, thenD_cons, sNil, sRet, sRetN, sSet, sSetN, sAsg, sIf, sFor, forD, sDrop, sApp, sExt, sPop, sPop0, sSetIx, sAug, sPar, sMove, sFreeze, sNever, sBreak, sCont, xFr, xVw, xSt, xOw, xTp, xC, xOp1, xOp2, xTup, xLst, xCons, xNil, xCall, xCB, xTst, xTru, xAndT, xOrT, xNotT, xAnd, xOr, xNot, xIf, xChain, xCut, xSome, xNo, xIsi, xLc, xSeq, xRng1, xRng2, xYes, fRng1, fRng2, fSeq, dgN, dgT, dgCons, dgNil, Env.get, Env.put, env0, slOf, wipeR, List.set, List.set_cons_zero, List.set_cons_succ, List.getD_cons_zero, List.getD_cons_succ, List.length_cons, List.length_nil, fBool, fTru, fI20, fI2, fI1, fIsi, fOwL, fInt, fListQ, List.replicate, List.append_nil, List.nil_append, List.cons_append, Bool.false_eq_true, if_false, if_true, reduceIte, Nat.reduceSub, Nat.reduceAdd, true_and, and_true, Nat.zero_add, fLe, fLt, fGe, fGt, fAddI, fSubI, fMulI, fDivI, fModI, fNeg, fIx_t0, fIx_t1, fIx_t2, fIx_t3, xLc2, xZip, fZip, xIndex, fIndex, sRaise, fMulL, fListQ, xIsE, xFld, sTry, sTry0]
  cases d <;> first | exact h.elim | (simp [isInt, isA, isTn, tyOf] at q ⊢; exact q)
theorem pure_integer_within : PureOk sp_integer_within b_integer_within 3 := by
  rintro ds Q Qx ⟨⟨d, lo, hi⟩, rfl, h, q⟩
  simp only [b_integer_within, sp_integer_within, det1, sSeq_eq, thenD_cons, sNil, sRet, sRetN, sSet, sSetN, sAsg, sIf, sFor, forD, sDrop, sApp, sExt, sPop, sPop0, sSetIx, sAug, sPar, sMove, sFreeze, sNever, sBreak, sCont, xFr, xVw, xSt, xOw, xTp, xC, xOp1, xOp2, xTup, xLst, xCons, xNil, xCall, xCB, xTst, xTru, xAndT, xOrT, xNotT, xAnd, xOr, xNot, xIf, xChain, xCut, xSome, xNo, xIsi, xLc, xSeq, xRng1, xRng2, xYes, fRng1, fRng2, fSeq, dgN, dgT, dgCons, dgNil, Env.get, Env.put, env0, slOf, wipeR, List.set, List.set_cons_zero, List.set_cons_succ, List.getD_cons_zero, List.getD_cons_succ, List.length_cons, List.length_nil, fBool, fTru, fI20, fI2, fI1, fIsi, fOwL, fInt, fListQ, List.replicate, List.append_nil, List.nil_append, List.cons_append, Bool.false_eq_true, if_false, if_true, reduceIte, Nat.reduceSub, Nat.reduceAdd, true_and, and_true, Nat.zero_add, fLe, fLt, fGe, fGt, fAddI, fSubI, fMulI, fDivI, fModI, fNeg, fIx_t0, fIx_t1, fIx_t2, fIx_t3, xLc2, xZip, fZip, xIndex, fIndex, sRaise, fMulL, fListQ, xIsE, xFld, sTry, sTry0]
  refine ⟨d, rfl, h, ?_⟩
  cases d with
  | int i =>
    simp only [isInt, if_true, iw, fI20, fLe, fBool] at q ⊢
    split <;> rename_i hh <;> simp at hh
    · simpa [hh] using q
    · have := Int.not_le.mpr hh; simpa [this] using q
  | _ => exact q
theorem pure_tuple_of : PureOk sp_tuple_of b_tuple_of 2 := by
  rintro ds Q Qx ⟨⟨d, lo⟩, rfl, h, q⟩
  simp only [b_tuple_of, sp_tuple_of, det1, sSeq_eq, thenD_cons, sNil, sRet, sRetN, sSet, sSetN, sAsg, sIf, sFor, forD, sDrop, sApp, sExt, sPop, sPop0, sSetIx, sAug, sPar, sMove, sFreeze, sNever, sBreak, sCont, xFr, xVw, xSt, xOw, xTp, xC, xOp1, xOp2, xTup, xLst, xCons, xNil, xCall, xCB, xTst, xTru, xAndT, xOrT, xNotT, xAnd, xOr, xNot, xIf, xChain, xCut, xSome, xNo, xIsi, xLc, xSeq, xRng1, xRng2, xYes, fRng1, fRng2, fSeq, dgN, dgT, dgCons, dgNil, Env.get, Env.put, env0, slOf, wipeR, List.set, List.set_cons_zero, List.set_cons_succ, List.getD_cons_zero, List.getD_cons_succ, List.length_cons, List.length_nil, fBool, fTru, fI20, fI2, fI1, fIsi, fOwL, fInt, fListQ, List.replicate, List.append_nil, List.nil_append, List.cons_append, Bool.false_eq_true, if_false, if_true, reduceIte, Nat.reduceSub, Nat.reduceAdd, true_and, and_true, Nat.zero_add, fLe, fLt, fGe, fGt, fAddI, fSubI, fMulI, fDivI, fModI, fNeg, fIx_t0, fIx_t1, fIx_t2, fIx_t3, xLc2, xZip, fZip, xIndex, fIndex, sRaise, fMulL, fListQ, xIsE, xFld, sTry, sTry0]
  cases d <;> simp_all [isA, isTn, tyOf, fBool, fLen, fEq, notDict, isTup]
  exact q
theorem pure_lows_of : PureOk sp_lows_of b_lows_of 3 := by
  rintro ds Q Qx ⟨fs, rfl, h, q⟩
  simp only [b_lows_of, sp_lows_of, det1, sSeq_eq, thenD_cons, sNil, sRet, sRetN, sSet, sSetN, sAsg, sIf, sFor, forD, sDrop, sApp, sExt, sPop, sPop0, sSetIx, sAug, sPar, sMove, sFreeze, sNever, sBreak, sCont, xFr, xVw, xSt, xOw, xTp, xC, xOp1, xOp2, xTup, xLst, xCons, xNil, xCall, xCB, xTst, xTru, xAndT, xOrT, xNotT, xAnd, xOr, xNot, xIf, xChain, xCut, xSome, xNo, xIsi, xLc, xSeq, xRng1, xRng2, xYes, fRng1, fRng2, fSeq, dgN, dgT, dgCons, dgNil, Env.get, Env.put, env0, slOf, wipeR, List.set, List.set_cons_zero, List.set_cons_succ, List.getD_cons_zero, List.getD_cons_succ, List.length_cons, List.length_nil, fBool, fTru, fI20, fI2, fI1, fIsi, fOwL, fInt, fListQ, List.replicate, List.append_nil, List.nil_append, List.cons_append, Bool.false_eq_true, if_false, if_true, reduceIte, Nat.reduceSub, Nat.reduceAdd, true_and, and_true, Nat.zero_add, fLe, fLt, fGe, fGt, fAddI, fSubI, fMulI, fDivI, fModI, fNeg, fIx_t0, fIx_t1, fIx_t2, fIx_t3, xLc2, xZip, fZip, xIndex, fIndex, sRaise, fMulL, fListQ, xIsE, xFld, sTry, sTry0]
  refine lcD_all eF (fun f => .int f.2.1) fs _ (fun x _ R R0 r => ?_) ?_
  · simp only [eF, sSeq_eq, thenD_cons, sNil, sRet, sRetN, sSet, sSetN, sAsg, sIf, sFor, forD, sDrop, sApp, sExt, sPop, sPop0, sSetIx, sAug, sPar, sMove, sFreeze, sNever, sBreak, sCont, xFr, xVw, xSt, xOw, xTp, xC, xOp1, xOp2, xTup, xLst, xCons, xNil, xCall, xCB, xTst, xTru, xAndT, xOrT, xNotT, xAnd, xOr, xNot, xIf, xChain, xCut, xSome, xNo, xIsi, xLc, xSeq, xRng1, xRng2, xYes, fRng1, fRng2, fSeq, dgN, dgT, dgCons, dgNil, Env.get, Env.put, env0, slOf, wipeR, List.set, List.set_cons_zero, List.set_cons_succ, List.getD_cons_zero, List.getD_cons_succ, List.length_cons, List.length_nil, fBool, fTru, fI20, fI2, fI1, fIsi, fOwL, fInt, fListQ, List.replicate, List.append_nil, List.nil_append, List.cons_append, Bool.false_eq_true, if_false, if_true, reduceIte, Nat.reduceSub, Nat.reduceAdd, true_and, and_true, Nat.zero_add, fLe, fLt, fGe, fGt, fAddI, fSubI, fMulI, fDivI, fModI, fNeg, fIx_t0, fIx_t1, fIx_t2, fIx_t3, xLc2, xZip, fZip, xIndex, fIndex, sRaise, fMulL, fListQ, xIsE, xFld, sTry, sTry0]
    exact r
  · simpa [fTuple, eV, lows, Function.comp_def] using q
theorem ix_int {v : List Int} {i : Nat} {Q : D → Prop} (h : i < v.length) (q : Q (.int (at0 v i))) : fIx (eV v) (.int i) Q := by
  refine fIx_t (d := .int (at0 v i)) ?_ q
  simp [at0, h]
theorem ix_intL {v : List Int} {i : Nat} {Q : D → Prop} (h : i < v.length) (q : Q (.int (at0 v i))) : fIx (.list (v.map .int)) (.int i) Q := by
  refine fIx_l (d := .int (at0 v i)) ?_ q
  simp [at0, h]
theorem pure_keeps : PureOk sp_keeps b_keeps 2 := by
  rintro ds Q Qx ⟨⟨v, i, a⟩, rfl, h, q⟩
  simp only [b_keeps, sp_keeps, det1, eD, sSeq_eq, thenD_cons, sNil, sRet, sRetN, sSet, sSetN, sAsg, sIf, sFor, forD, sDrop, sApp, sExt, sPop, sPop0, sSetIx, sAug, sPar, sMove, sFreeze, sNever, sBreak, sCont, xFr, xVw, xSt, xOw, xTp, xC, xOp1, xOp2, xTup, xLst, xCons, xNil, xCall, xCB, xTst, xTru, xAndT, xOrT, xNotT, xAnd, xOr, xNot, xIf, xChain, xCut, xSome, xNo, xIsi, xLc, xSeq, xRng1, xRng2, xYes, fRng1, fRng2, fSeq, dgN, dgT, dgCons, dgNil, Env.get, Env.put, env0, slOf, wipeR, List.set, List.set_cons_zero, List.set_cons_succ, List.getD_cons_zero, List.getD_cons_succ, List.length_cons, List.length_nil, fBool, fTru, fI20, fI2, fI1, fIsi, fOwL, fInt, fListQ, List.replicate, List.append_nil, List.nil_append, List.cons_append, Bool.false_eq_true, if_false, if_true, reduceIte, Nat.reduceSub, Nat.reduceAdd, true_and, and_true, Nat.zero_add, fLe, fLt, fGe, fGt, fAddI, fSubI, fMulI, fDivI, fModI, fNeg, fIx_t0, fIx_t1, fIx_t2, fIx_t3, xLc2, xZip, fZip, xIndex, fIndex, sRaise, fMulL, fListQ, xIsE, xFld, sTry, sTry0]
  refine ix_int h q
theorem zipD_map {α : Type} (xs : List D) (ys : List α) (f : α → D) : zipD xs (ys.map f) = (xs.zip ys).map fun p => .tuple [p.1, f p.2] := by
  induction xs generalizing ys with
  | nil => rfl
  | cons x xs ih =>
    cases ys with
    | nil => rfl
    | cons y ys => simp [zipD, List.zip] at ih ⊢; exact ih ys
theorem pure_are_answers : PureOk sp_are_answers b_are_answers 6 := by
  rintro ds Q Qx ⟨⟨fs, d⟩, rfl, ⟨h, hn⟩, q⟩
  simp only [b_are_answers, sp_are_answers, det1, sSeq_eq, thenD_cons, sNil, sRet, sRetN, sSet, sSetN, sAsg, sIf, sFor, forD, sDrop, sApp, sExt, sPop, sPop0, sSetIx, sAug, sPar, sMove, sFreeze, sNever, sBreak, sCont, xFr, xVw, xSt, xOw, xTp, xC, xOp1, xOp2, xTup, xLst, xCons, xNil, xCall, xCB, xTst, xTru, xAndT, xOrT, xNotT, xAnd, xOr, xNot, xIf, xChain, xCut, xSome, xNo, xIsi, xLc, xSeq, xRng1, xRng2, xYes, fRng1, fRng2, fSeq, dgN, dgT, dgCons, dgNil, Env.get, Env.put, env0, slOf, wipeR, List.set, List.set_cons_zero, List.set_cons_succ, List.getD_cons_zero, List.getD_cons_succ, List.length_cons, List.length_nil, fBool, fTru, fI20, fI2, fI1, fIsi, fOwL, fInt, fListQ, List.replicate, List.append_nil, List.nil_append, List.cons_append, Bool.false_eq_true, if_false, if_true, reduceIte, Nat.reduceSub, Nat.reduceAdd, true_and, and_true, Nat.zero_add, fLe, fLt, fGe, fGt, fAddI, fSubI, fMulI, fDivI, fModI, fNeg, fIx_t0, fIx_t1, fIx_t2, fIx_t3, xLc2, xZip, fZip, xIndex, fIndex, sRaise, fMulL, fListQ, xIsE, xFld, sTry, sTry0]
  refine ⟨(d, fs.length), by simp [fLen], by cases d <;> first | exact h.elim | trivial, ?_⟩
  simp only [sSeq_eq, thenD_cons, sNil, sRet, sRetN, sSet, sSetN, sAsg, sIf, sFor, forD, sDrop, sApp, sExt, sPop, sPop0, sSetIx, sAug, sPar, sMove, sFreeze, sNever, sBreak, sCont, xFr, xVw, xSt, xOw, xTp, xC, xOp1, xOp2, xTup, xLst, xCons, xNil, xCall, xCB, xTst, xTru, xAndT, xOrT, xNotT, xAnd, xOr, xNot, xIf, xChain, xCut, xSome, xNo, xIsi, xLc, xSeq, xRng1, xRng2, xYes, fRng1, fRng2, fSeq, dgN, dgT, dgCons, dgNil, Env.get, Env.put, env0, slOf, wipeR, List.set, List.set_cons_zero, List.set_cons_succ, List.getD_cons_zero, List.getD_cons_succ, List.length_cons, List.length_nil, fBool, fTru, fI20, fI2, fI1, fIsi, fOwL, fInt, fListQ, List.replicate, List.append_nil, List.nil_append, List.cons_append, Bool.false_eq_true, if_false, if_true, reduceIte, Nat.reduceSub, Nat.reduceAdd, true_and, and_true, Nat.zero_add, fLe, fLt, fGe, fGt, fAddI, fSubI, fMulI, fDivI, fModI, fNeg, fIx_t0, fIx_t1, fIx_t2, fIx_t3, xLc2, xZip, fZip, xIndex, fIndex, sRaise, fMulL, fListQ, xIsE, xFld, sTry, sTry0, isTup]
  cases d with
  | tuple ds =>
    simp only [areA, sSeq_eq, thenD_cons, sNil, sRet, sRetN, sSet, sSetN, sAsg, sIf, sFor, forD, sDrop, sApp, sExt, sPop, sPop0, sSetIx, sAug, sPar, sMove, sFreeze, sNever, sBreak, sCont, xFr, xVw, xSt, xOw, xTp, xC, xOp1, xOp2, xTup, xLst, xCons, xNil, xCall, xCB, xTst, xTru, xAndT, xOrT, xNotT, xAnd, xOr, xNot, xIf, xChain, xCut, xSome, xNo, xIsi, xLc, xSeq, xRng1, xRng2, xYes, fRng1, fRng2, fSeq, dgN, dgT, dgCons, dgNil, Env.get, Env.put, env0, slOf, wipeR, List.set, List.set_cons_zero, List.set_cons_succ, List.getD_cons_zero, List.getD_cons_succ, List.length_cons, List.length_nil, fBool, fTru, fI20, fI2, fI1, fIsi, fOwL, fInt, fListQ, List.replicate, List.append_nil, List.nil_append, List.cons_append, Bool.false_eq_true, if_false, if_true, reduceIte, Nat.reduceSub, Nat.reduceAdd, true_and, and_true, Nat.zero_add, fLe, fLt, fGe, fGt, fAddI, fSubI, fMulI, fDivI, fModI, fNeg, fIx_t0, fIx_t1, fIx_t2, fIx_t3, xLc2, xZip, fZip, xIndex, fIndex, sRaise, fMulL, fListQ, xIsE, xFld, sTry, sTry0] at q ⊢
    by_cases hl : ds.length = fs.length
    · have hl' : ((ds.length : Int) = (fs.length : Int)) := by omega
      simp only [hl, hl', decide_true, Bool.not_true, sSeq_eq, thenD_cons, sNil, sRet, sRetN, sSet, sSetN, sAsg, sIf, sFor, forD, sDrop, sApp, sExt, sPop, sPop0, sSetIx, sAug, sPar, sMove, sFreeze, sNever, sBreak, sCont, xFr, xVw, xSt, xOw, xTp, xC, xOp1, xOp2, xTup, xLst, xCons, xNil, xCall, xCB, xTst, xTru, xAndT, xOrT, xNotT, xAnd, xOr, xNot, xIf, xChain, xCut, xSome, xNo, xIsi, xLc, xSeq, xRng1, xRng2, xYes, fRng1, fRng2, fSeq, dgN, dgT, dgCons, dgNil, Env.get, Env.put, env0, slOf, wipeR, List.set, List.set_cons_zero, List.set_cons_succ, List.getD_cons_zero, List.getD_cons_succ, List.length_cons, List.length_nil, fBool, fTru, fI20, fI2, fI1, fIsi, fOwL, fInt, fListQ, List.replicate, List.append_nil, List.nil_append, List.cons_append, Bool.false_eq_true, if_false, if_true, reduceIte, Nat.reduceSub, Nat.reduceAdd, true_and, and_true, Nat.zero_add, fLe, fLt, fGe, fGt, fAddI, fSubI, fMulI, fDivI, fModI, fNeg, fIx_t0, fIx_t1, fIx_t2, fIx_t3, xLc2, xZip, fZip, xIndex, fIndex, sRaise, fMulL, fListQ, xIsE, xFld, sTry, sTry0] at q ⊢
      refine ⟨by rw [sizeLine_eq]; simp only at hn; omega, ?_⟩
      rw [zipD_map]
      refine lcD_all (fun p : D × Fld => .tuple [p.1, eF p.2]) (fun p => .bool (iw p.1 p.2.2.1 p.2.2.2)) _ _ (fun x hx R R0 r => ?_) ?_
      · simp only [eF, sSeq_eq, thenD_cons, sNil, sRet, sRetN, sSet, sSetN, sAsg, sIf, sFor, forD, sDrop, sApp, sExt, sPop, sPop0, sSetIx, sAug, sPar, sMove, sFreeze, sNever, sBreak, sCont, xFr, xVw, xSt, xOw, xTp, xC, xOp1, xOp2, xTup, xLst, xCons, xNil, xCall, xCB, xTst, xTru, xAndT, xOrT, xNotT, xAnd, xOr, xNot, xIf, xChain, xCut, xSome, xNo, xIsi, xLc, xSeq, xRng1, xRng2, xYes, fRng1, fRng2, fSeq, dgN, dgT, dgCons, dgNil, Env.get, Env.put, env0, slOf, wipeR, List.set, List.set_cons_zero, List.set_cons_succ, List.getD_cons_zero, List.getD_cons_succ, List.length_cons, List.length_nil, fBool, fTru, fI20, fI2, fI1, fIsi, fOwL, fInt, fListQ, List.replicate, List.append_nil, List.nil_append, List.cons_append, Bool.false_eq_true, if_false, if_true, reduceIte, Nat.reduceSub, Nat.reduceAdd, true_and, and_true, Nat.zero_add, fLe, fLt, fGe, fGt, fAddI, fSubI, fMulI, fDivI, fModI, fNeg, fIx_t0, fIx_t1, fIx_t2, fIx_t3, xLc2, xZip, fZip, xIndex, fIndex, sRaise, fMulL, fListQ, xIsE, xFld, sTry, sTry0]
        exact ⟨(x.1, x.2.2.1, x.2.2.2), rfl, h _ (List.of_mem_zip hx).1, r⟩
      · refine ⟨_, by rw [List.map_map]; rfl, ?_⟩
        simpa [List.all_map, Function.comp_def] using q
    · have hl' : ¬ ((ds.length : Int) = (fs.length : Int)) := by omega
      simp only [hl, hl', decide_false, Bool.not_false, sSeq_eq, thenD_cons, sNil, sRet, sRetN, sSet, sSetN, sAsg, sIf, sFor, forD, sDrop, sApp, sExt, sPop, sPop0, sSetIx, sAug, sPar, sMove, sFreeze, sNever, sBreak, sCont, xFr, xVw, xSt, xOw, xTp, xC, xOp1, xOp2, xTup, xLst, xCons, xNil, xCall, xCB, xTst, xTru, xAndT, xOrT, xNotT, xAnd, xOr, xNot, xIf, xChain, xCut, xSome, xNo, xIsi, xLc, xSeq, xRng1, xRng2, xYes, fRng1, fRng2, fSeq, dgN, dgT, dgCons, dgNil, Env.get, Env.put, env0, slOf, wipeR, List.set, List.set_cons_zero, List.set_cons_succ, List.getD_cons_zero, List.getD_cons_succ, List.length_cons, List.length_nil, fBool, fTru, fI20, fI2, fI1, fIsi, fOwL, fInt, fListQ, List.replicate, List.append_nil, List.nil_append, List.cons_append, Bool.false_eq_true, if_false, if_true, reduceIte, Nat.reduceSub, Nat.reduceAdd, true_and, and_true, Nat.zero_add, fLe, fLt, fGe, fGt, fAddI, fSubI, fMulI, fDivI, fModI, fNeg, fIx_t0, fIx_t1, fIx_t2, fIx_t3, xLc2, xZip, fZip, xIndex, fIndex, sRaise, fMulL, fListQ, xIsE, xFld, sTry, sTry0, Bool.false_and] at q ⊢
      exact q
  | _ => exact q
theorem pure_goes_beyond : PureOk sp_goes_beyond b_goes_beyond 5 := by
  rintro ds Q Qx ⟨⟨s, v⟩, rfl, h, q⟩
  simp only [b_goes_beyond, sp_goes_beyond, det1, eS, eV, sSeq_eq, thenD_cons, sNil, sRet, sRetN, sSet, sSetN, sAsg, sIf, sFor, forD, sDrop, sApp, sExt, sPop, sPop0, sSetIx, sAug, sPar, sMove, sFreeze, sNever, sBreak, sCont, xFr, xVw, xSt, xOw, xTp, xC, xOp1, xOp2, xTup, xLst, xCons, xNil, xCall, xCB, xTst, xTru, xAndT, xOrT, xNotT, xAnd, xOr, xNot, xIf, xChain, xCut, xSome, xNo, xIsi, xLc, xSeq, xRng1, xRng2, xYes, fRng1, fRng2, fSeq, dgN, dgT, dgCons, dgNil, Env.get, Env.put, env0, slOf, wipeR, List.set, List.set_cons_zero, List.set_cons_succ, List.getD_cons_zero, List.getD_cons_succ, List.length_cons, List.length_nil, fBool, fTru, fI20, fI2, fI1, fIsi, fOwL, fInt, fListQ, List.replicate, List.append_nil, List.nil_append, List.cons_append, Bool.false_eq_true, if_false, if_true, reduceIte, Nat.reduceSub, Nat.reduceAdd, true_and, and_true, Nat.zero_add, fLe, fLt, fGe, fGt, fAddI, fSubI, fMulI, fDivI, fModI, fNeg, fIx_t0, fIx_t1, fIx_t2, fIx_t3, xLc2, xZip, fZip, xIndex, fIndex, sRaise, fMulL, fListQ, xIsE, xFld, sTry, sTry0]
  refine ⟨by rw [List.length_map, sizeLine_eq]; simp only at h; omega, ?_⟩
  rw [zipD_map]
  have e : (v.map PyData.int).zip s.fs = (v.zip s.fs).map fun p => ((.int p.1 : D), p.2) := by
    rw [List.zip_map_left]; rfl
  rw [e, List.map_map]
  refine lcD_all (fun p : Int × Fld => .tuple [.int p.1, eF p.2]) (fun p => .bool (decide (p.2.2.2 < p.1))) _ _ (fun x hx R R0 r => ?_) ?_
  · simp only [eF, sSeq_eq, thenD_cons, sNil, sRet, sRetN, sSet, sSetN, sAsg, sIf, sFor, forD, sDrop, sApp, sExt, sPop, sPop0, sSetIx, sAug, sPar, sMove, sFreeze, sNever, sBreak, sCont, xFr, xVw, xSt, xOw, xTp, xC, xOp1, xOp2, xTup, xLst, xCons, xNil, xCall, xCB, xTst, xTru, xAndT, xOrT, xNotT, xAnd, xOr, xNot, xIf, xChain, xCut, xSome, xNo, xIsi, xLc, xSeq, xRng1, xRng2, xYes, fRng1, fRng2, fSeq, dgN, dgT, dgCons, dgNil, Env.get, Env.put, env0, slOf, wipeR, List.set, List.set_cons_zero, List.set_cons_succ, List.getD_cons_zero, List.getD_cons_succ, List.length_cons, List.length_nil, fBool, fTru, fI20, fI2, fI1, fIsi, fOwL, fInt, fListQ, List.replicate, List.append_nil, List.nil_append, List.cons_append, Bool.false_eq_true, if_false, if_true, reduceIte, Nat.reduceSub, Nat.reduceAdd, true_and, and_true, Nat.zero_add, fLe, fLt, fGe, fGt, fAddI, fSubI, fMulI, fDivI, fModI, fNeg, fIx_t0, fIx_t1, fIx_t2, fIx_t3, xLc2, xZip, fZip, xIndex, fIndex, sRaise, fMulL, fListQ, xIsE, xFld, sTry, sTry0]
    exact r
  · refine ⟨(v.zip s.fs).map fun p => decide (p.2.2.2 < p.1), by rw [List.map_map]; rfl, ?_⟩
    simpa [bey, List.any_map, Function.comp_def] using q
theorem pure_keeps_ladders : PureOk sp_keeps_ladders b_keeps_ladders 4 := by
  rintro ds Q Qx ⟨⟨s, v⟩, rfl, h, q⟩
  simp only [b_keeps_ladders, sp_keeps_ladders, det1, eS, sSeq_eq, thenD_cons, sNil, sRet, sRetN, sSet, sSetN, sAsg, sIf, sFor, forD, sDrop, sApp, sExt, sPop, sPop0, sSetIx, sAug, sPar, sMove, sFreeze, sNever, sBreak, sCont, xFr, xVw, xSt, xOw, xTp, xC, xOp1, xOp2, xTup, xLst, xCons, xNil, xCall, xCB, xTst, xTru, xAndT, xOrT, xNotT, xAnd, xOr, xNot, xIf, xChain, xCut, xSome, xNo, xIsi, xLc, xSeq, xRng1, xRng2, xYes, fRng1, fRng2, fSeq, dgN, dgT, dgCons, dgNil, Env.get, Env.put, env0, slOf, wipeR, List.set, List.set_cons_zero, List.set_cons_succ, List.getD_cons_zero, List.getD_cons_succ, List.length_cons, List.length_nil, fBool, fTru, fI20, fI2, fI1, fIsi, fOwL, fInt, fListQ, List.replicate, List.append_nil, List.nil_append, List.cons_append, Bool.false_eq_true, if_false, if_true, reduceIte, Nat.reduceSub, Nat.reduceAdd, true_and, and_true, Nat.zero_add, fLe, fLt, fGe, fGt, fAddI, fSubI, fMulI, fDivI, fModI, fNeg, fIx_t0, fIx_t1, fIx_t2, fIx_t3, xLc2, xZip, fZip, xIndex, fIndex, sRaise, fMulL, fListQ, xIsE, xFld, sTry, sTry0]
  refine lcD_all eL (fun l => .bool (kp v l.2 || !kp v l.1)) s.ls _ (fun l hl R R0 r => ?_) ?_
  · simp only [eL, sSeq_eq, thenD_cons, sNil, sRet, sRetN, sSet, sSetN, sAsg, sIf, sFor, forD, sDrop, sApp, sExt, sPop, sPop0, sSetIx, sAug, sPar, sMove, sFreeze, sNever, sBreak, sCont, xFr, xVw, xSt, xOw, xTp, xC, xOp1, xOp2, xTup, xLst, xCons, xNil, xCall, xCB, xTst, xTru, xAndT, xOrT, xNotT, xAnd, xOr, xNot, xIf, xChain, xCut, xSome, xNo, xIsi, xLc, xSeq, xRng1, xRng2, xYes, fRng1, fRng2, fSeq, dgN, dgT, dgCons, dgNil, Env.get, Env.put, env0, slOf, wipeR, List.set, List.set_cons_zero, List.set_cons_succ, List.getD_cons_zero, List.getD_cons_succ, List.length_cons, List.length_nil, fBool, fTru, fI20, fI2, fI1, fIsi, fOwL, fInt, fListQ, List.replicate, List.append_nil, List.nil_append, List.cons_append, Bool.false_eq_true, if_false, if_true, reduceIte, Nat.reduceSub, Nat.reduceAdd, true_and, and_true, Nat.zero_add, fLe, fLt, fGe, fGt, fAddI, fSubI, fMulI, fDivI, fModI, fNeg, fIx_t0, fIx_t1, fIx_t2, fIx_t3, xLc2, xZip, fZip, xIndex, fIndex, sRaise, fMulL, fListQ, xIsE, xFld, sTry, sTry0]
    refine ⟨(v, l.2), rfl, (h l hl).2, ?_⟩
    simp only [sSeq_eq, thenD_cons, sNil, sRet, sRetN, sSet, sSetN, sAsg, sIf, sFor, forD, sDrop, sApp, sExt, sPop, sPop0, sSetIx, sAug, sPar, sMove, sFreeze, sNever, sBreak, sCont, xFr, xVw, xSt, xOw, xTp, xC, xOp1, xOp2, xTup, xLst, xCons, xNil, xCall, xCB, xTst, xTru, xAndT, xOrT, xNotT, xAnd, xOr, xNot, xIf, xChain, xCut, xSome, xNo, xIsi, xLc, xSeq, xRng1, xRng2, xYes, fRng1, fRng2, fSeq, dgN, dgT, dgCons, dgNil, Env.get, Env.put, env0, slOf, wipeR, List.set, List.set_cons_zero, List.set_cons_succ, List.getD_cons_zero, List.getD_cons_succ, List.length_cons, List.length_nil, fBool, fTru, fI20, fI2, fI1, fIsi, fOwL, fInt, fListQ, List.replicate, List.append_nil, List.nil_append, List.cons_append, Bool.false_eq_true, if_false, if_true, reduceIte, Nat.reduceSub, Nat.reduceAdd, true_and, and_true, Nat.zero_add, fLe, fLt, fGe, fGt, fAddI, fSubI, fMulI, fDivI, fModI, fNeg, fIx_t0, fIx_t1, fIx_t2, fIx_t3, xLc2, xZip, fZip, xIndex, fIndex, sRaise, fMulL, fListQ, xIsE, xFld, sTry, sTry0]
    cases hk : kp v l.2 with
    | true => simpa [hk] using r
    | false =>
      simp only [sSeq_eq, thenD_cons, sNil, sRet, sRetN, sSet, sSetN, sAsg, sIf, sFor, forD, sDrop, sApp, sExt, sPop, sPop0, sSetIx, sAug, sPar, sMove, sFreeze, sNever, sBreak, sCont, xFr, xVw, xSt, xOw, xTp, xC, xOp1, xOp2, xTup, xLst, xCons, xNil, xCall, xCB, xTst, xTru, xAndT, xOrT, xNotT, xAnd, xOr, xNot, xIf, xChain, xCut, xSome, xNo, xIsi, xLc, xSeq, xRng1, xRng2, xYes, fRng1, fRng2, fSeq, dgN, dgT, dgCons, dgNil, Env.get, Env.put, env0, slOf, wipeR, List.set, List.set_cons_zero, List.set_cons_succ, List.getD_cons_zero, List.getD_cons_succ, List.length_cons, List.length_nil, fBool, fTru, fI20, fI2, fI1, fIsi, fOwL, fInt, fListQ, List.replicate, List.append_nil, List.nil_append, List.cons_append, Bool.false_eq_true, if_false, if_true, reduceIte, Nat.reduceSub, Nat.reduceAdd, true_and, and_true, Nat.zero_add, fLe, fLt, fGe, fGt, fAddI, fSubI, fMulI, fDivI, fModI, fNeg, fIx_t0, fIx_t1, fIx_t2, fIx_t3, xLc2, xZip, fZip, xIndex, fIndex, sRaise, fMulL, fListQ, xIsE, xFld, sTry, sTry0]
      refine ⟨(v, l.1), rfl, (h l hl).1, ?_⟩
      simpa [hk, sSeq_eq, thenD_cons, sNil, sRet, sRetN, sSet, sSetN, sAsg, sIf, sFor, forD, sDrop, sApp, sExt, sPop, sPop0, sSetIx, sAug, sPar, sMove, sFreeze, sNever, sBreak, sCont, xFr, xVw, xSt, xOw, xTp, xC, xOp1, xOp2, xTup, xLst, xCons, xNil, xCall, xCB, xTst, xTru, xAndT, xOrT, xNotT, xAnd, xOr, xNot, xIf, xChain, xCut, xSome, xNo, xIsi, xLc, xSeq, xRng1, xRng2, xYes, fRng1, fRng2, fSeq, dgN, dgT, dgCons, dgNil, Env.get, Env.put, env0, slOf, wipeR, List.set, List.set_cons_zero, List.set_cons_succ, List.getD_cons_zero, List.getD_cons_succ, List.length_cons, List.length_nil, fBool, fTru, fI20, fI2, fI1, fIsi, fOwL, fInt, fListQ, List.replicate, List.append_nil, List.nil_append, List.cons_append, Bool.false_eq_true, if_false, if_true, reduceIte, Nat.reduceSub, Nat.reduceAdd, true_and, and_true, Nat.zero_add, fLe, fLt, fGe, fGt, fAddI, fSubI, fMulI, fDivI, fModI, fNeg, fIx_t0, fIx_t1, fIx_t2, fIx_t3, xLc2, xZip, fZip, xIndex, fIndex, sRaise, fMulL, fListQ, xIsE, xFld, sTry, sTry0] using r
  · refine ⟨s.ls.map fun l => kp v l.2 || !kp v l.1, by rw [List.map_map]; rfl, ?_⟩
    simpa [kl, List.all_map, Function.comp_def] using q
section
variable {P : Program} {w : World} {K : PySem.W.Frag} {mg : Str → Option Value} {base : Heap} {T : Tape}
abbrev s_is_integer : Stmt := top 5
theorem sc_is_integer : FnScope ["thing"] ["thing"] (defScope s_is_integer) := ⟨rfl, rfl, rfl, by decide +kernel, rfl, by decide +kernel, by decide +kernel⟩
theorem ok_is_integer (D : DefD K mg "is_integer" s_is_integer ["thing"]) (bn : Bn mg) : FnD P w K mg base T "is_integer" 1 sp_is_integer := by
  refine fnD (N := ["thing"]) (B := b_is_integer) D sc_is_integer rfl (.inl rfl) (fun f cdv A outer s H E hr => ?_) pure_is_integer
  have nd := sc_is_integer.nd
  have tk : Takes (cxOf (L2.CX P w) P w K mg base ["thing"] "is_integer" (defScope s_is_integer) f cdv A outer s H E) (fun c d _ H => E c d H) := takes_of rfl rfl rfl rfl
  exact (pssx_one (psx_ret (px_and (PX.frVw (px_isi (t := "int") (by decide) (by rfl) bn.isinstance (by rfl) bn.int PyProof.Rows.boot_int (by decide) (by decide) (px_vw 0 (pv 0)))) (px_one (px_not (PX.frVw (px_isi (t := "bool") (by decide) (by rfl) bn.isinstance (by rfl) bn.bool PyProof.Rows.boot_bool (by decide) (by decide) (px_vw 0 (pv 0))))))) (.inl rfl)))

abbrev s_integer_within : Stmt := top 6
theorem sc_integer_within : FnScope ["thing", "low", "high"] ["thing", "low", "high"] (defScope s_integer_within) := ⟨rfl, rfl, rfl, by decide +kernel, rfl, by decide +kernel, by decide +kernel⟩
theorem ok_integer_within (D : DefD K mg "integer_within" s_integer_within ["thing", "low", "high"]) (bn : Bn mg) (h_is_integer : FnD P w K mg base T "is_integer" 1 sp_is_integer) : FnD P w K mg base T "integer_within" 2 sp_integer_within := by
  refine fnD (N := ["thing", "low", "high"]) (B := b_integer_within) D sc_integer_within rfl (.inl rfl) (fun f cdv A outer s H E hr => ?_) pure_integer_within
  have nd := sc_integer_within.nd
  have tk : Takes (cxOf (L2.CX P w) P w K mg base ["thing", "low", "high"] "integer_within" (defScope s_integer_within) f cdv A outer s H E) (fun c d _ H => E c d H) := takes_of rfl rfl rfl rfl
  exact (pssx_one (psx_ret (px_and (PX.frVw (px_callF h_is_integer tk (hr.mono (by decide)) (by rfl) (pax_cons (k := .vw) (px_vw 0 (pv 0)) pax_nil))) (px_one (px_chain op_le op_le (px_vw 1 (pv 1)) (px_vw 0 (pv 0)) (px_vw 2 (pv 2)) r2_le r2_le))) (.inl rfl)))

abbrev s_tuple_of : Stmt := top 7
theorem sc_tuple_of : FnScope ["thing", "many"] ["thing", "many"] (defScope s_tuple_of) := ⟨rfl, rfl, rfl, by decide +kernel, rfl, by decide +kernel, by decide +kernel⟩
theorem ok_tuple_of (D : DefD K mg "tuple_of" s_tuple_of ["thing", "many"]) (bn : Bn mg) : FnD P w K mg base T "tuple_of" 1 sp_tuple_of := by
  refine fnD (N := ["thing", "many"]) (B := b_tuple_of) D sc_tuple_of rfl (.inl rfl) (fun f cdv A outer s H E hr => ?_) pure_tuple_of
  have nd := sc_tuple_of.nd
  have tk : Takes (cxOf (L2.CX P w) P w K mg base ["thing", "many"] "tuple_of" (defScope s_tuple_of) f cdv A outer s H E) (fun c d _ H => E c d H) := takes_of rfl rfl rfl rfl
  exact (pssx_one (psx_ret (px_and (PX.frVw (px_isi (t := "tuple") (by decide) (by rfl) bn.isinstance (by rfl) bn.tuple PyProof.Rows.boot_tuple (by decide) (by decide) (px_vw 0 (pv 0)))) (px_one (px_cmp (op_eqD (hu64 hr)) (PX.frVw (px_b call_len rc_len (by rfl) bn.len PySem.boot_len (pax_cons (k := .vw) (px_vw 0 (pv 0)) pax_nil))) (px_vw 1 (pv 1)) r2_eq (nomark _)))) (.inl rfl)))

abbrev s_lows_of : Stmt := top 9
theorem sc_lows_of : FnScope ["fields", "_", "low"] ["fields"] (defScope s_lows_of) := ⟨rfl, rfl, rfl, by decide +kernel, rfl, by decide +kernel, by decide +kernel⟩
theorem ok_lows_of (D : DefD K mg "lows_of" s_lows_of ["fields"]) (bn : Bn mg) : FnD P w K mg base T "lows_of" 1 sp_lows_of := by
  refine fnD (N := ["fields", "_", "low"]) (B := b_lows_of) D sc_lows_of rfl (.inl rfl) (fun f cdv A outer s H E hr => ?_) pure_lows_of
  have nd := sc_lows_of.nd
  have tk : Takes (cxOf (L2.CX P w) P w K mg base ["fields", "_", "low"] "lows_of" (defScope s_lows_of) f cdv A outer s H E) (fun c d _ H => E c d H) := takes_of rfl rfl rfl rfl
  exact (pssx_one (psx_ret (px_ty call_tuple_of rc_tuple (by rfl) bn.tuple PyProof.Rows.boot_tuple (pax_cons (k := .vw) (PX.nwVw (px_lc (own := [("_", 1), ("low", 2)]) rfl nd (pix_seq (m := false) (px_vw 0 (pv 0))) (blkOk_by (by first | (change blkC ["fields", "_", "low"] (defScope s_lows_of) _ _ = true; decide +kernel) | rfl)) (fun _ _ _ _ _ => (pgx_t rfl (pgsx_cons (pgx_n 1 (pg_name nd rfl (by first | exact Or.inl rfl | exact Or.inr rfl))) (pgsx_cons (pgx_n 2 (pg_name nd rfl (by first | exact Or.inl rfl | exact Or.inr rfl))) (pgsx_cons (pgx_n 1 (pg_name nd rfl (by first | exact Or.inl rfl | exact Or.inr rfl))) pgsx_nil))) 3)) (fun _ _ _ _ _ => ptsx_nil) (fun _ _ _ _ _ => (px_fr 2 (pv 2))))) pax_nil)) (.inl rfl)))

abbrev s_keeps : Stmt := top 10
theorem sc_keeps : FnScope ["answers", "demand"] ["answers", "demand"] (defScope s_keeps) := ⟨rfl, rfl, rfl, by decide +kernel, rfl, by decide +kernel, by decide +kernel⟩
theorem ok_keeps (D : DefD K mg "keeps" s_keeps ["answers", "demand"]) (bn : Bn mg) : FnD P w K mg base T "keeps" 1 sp_keeps := by
  refine fnD (N := ["answers", "demand"]) (B := b_keeps) D sc_keeps rfl (.inl rfl) (fun f cdv A outer s H E hr => ?_) pure_keeps
  have nd := sc_keeps.nd
  have tk : Takes (cxOf (L2.CX P w) P w K mg base ["answers", "demand"] "keeps" (defScope s_keeps) f cdv A outer s H E) (fun c d _ H => E c d H) := takes_of rfl rfl rfl rfl
  exact (pssx_one (psx_ret (px_cmp op_ge (PX.frVw (px_ix (px_vw 0 (pv 0)) (PX.frVw (px_ix (px_vw 1 (pv 1)) (PX.frVw px_int))))) (PX.frVw (px_ix (px_vw 1 (pv 1)) (PX.frVw px_int))) r2_ge (nomark _)) (.inl rfl)))

abbrev s_are_answers : Stmt := top 11
theorem sc_are_answers : FnScope ["fields", "thing", "answer", "_", "low", "high"] ["fields", "thing"] (defScope s_are_answers) := ⟨rfl, rfl, rfl, by decide +kernel, rfl, by decide +kernel, by decide +kernel⟩
theorem ok_are_answers (D : DefD K mg "are_answers" s_are_answers ["fields", "thing"]) (bn : Bn mg) (h_tuple_of : FnD P w K mg base T "tuple_of" 1 sp_tuple_of) (h_integer_within : FnD P w K mg base T "integer_within" 2 sp_integer_within) : FnD P w K mg base T "are_answers" 3 sp_are_answers := by
  refine fnD (N := ["fields", "thing", "answer", "_", "low", "high"]) (B := b_are_answers) D sc_are_answers rfl (.inl rfl) (fun f cdv A outer s H E hr => ?_) pure_are_answers
  have nd := sc_are_answers.nd
  have tk : Takes (cxOf (L2.CX P w) P w K mg base ["fields", "thing", "answer", "_", "low", "high"] "are_answers" (defScope s_are_answers) f cdv A outer s H E) (fun c d _ H => E c d H) := takes_of rfl rfl rfl rfl
  exact (pssx_cons (psx_if (ptx_not (ptx_tru (PX.frVw (px_callF h_tuple_of tk (hr.mono (by decide)) (by rfl) (pax_cons (k := .vw) (px_vw 1 (pv 1)) (pax_cons (k := .fr) (px_b call_len rc_len (by rfl) bn.len PySem.boot_len (pax_cons (k := .vw) (px_vw 0 (pv 0)) pax_nil)) pax_nil)))))) (pssx_one (psx_ret px_bl (.inl rfl))) pssx_nil)
  (pssx_one (psx_ret (px_b (cr_all rfl) rc_all (by rfl) bn.all PyProof.Rows.boot_all (pax_cons (k := .vw) (PX.nwVw (px_lc (own := [("answer", 2), ("_", 3), ("low", 4), ("high", 5)]) rfl nd (pix_zip (m := false) (by rfl) bn.zip (pax_cons (k := .vw) (px_vw 1 (pv 1)) (pax_cons (k := .vw) (px_vw 0 (pv 0)) pax_nil))) (blkOk_by (by first | (change blkC ["fields", "thing", "answer", "_", "low", "high"] (defScope s_are_answers) _ _ = true; decide +kernel) | rfl)) (fun _ _ _ _ _ => (pgx_t rfl (pgsx_cons (pgx_n 2 (pg_name nd rfl (by first | exact Or.inl rfl | exact Or.inr rfl))) (pgsx_cons (pgx_t rfl (pgsx_cons (pgx_n 3 (pg_name nd rfl (by first | exact Or.inl rfl | exact Or.inr rfl))) (pgsx_cons (pgx_n 4 (pg_name nd rfl (by first | exact Or.inl rfl | exact Or.inr rfl))) (pgsx_cons (pgx_n 5 (pg_name nd rfl (by first | exact Or.inl rfl | exact Or.inr rfl))) pgsx_nil))) 3) pgsx_nil)) 2)) (fun _ _ _ _ _ => ptsx_nil) (fun _ _ _ _ _ => (px_callF h_integer_within takes0 (hr.mono (by decide)) (by rfl) (pax_cons (k := .vw) (px_vw 2 (pv 2)) (pax_cons (k := .fr) (px_fr 4 (pv 4)) (pax_cons (k := .fr) (px_fr 5 (pv 5)) pax_nil))))))) pax_nil)) (.inl rfl))))

abbrev s_goes_beyond : Stmt := top 14
theorem sc_goes_beyond : FnScope ["schema", "answers", "answer", "_", "high"] ["schema", "answers"] (defScope s_goes_beyond) := ⟨rfl, rfl, rfl, by decide +kernel, rfl, by decide +kernel, by decide +kernel⟩
theorem ok_goes_beyond (D : DefD K mg "goes_beyond" s_goes_beyond ["schema", "answers"]) (bn : Bn mg) : FnD P w K mg base T "goes_beyond" 1 sp_goes_beyond := by
  refine fnD (N := ["schema", "answers", "answer", "_", "high"]) (B := b_goes_beyond) D sc_goes_beyond rfl (.inl rfl) (fun f cdv A outer s H E hr => ?_) pure_goes_beyond
  have nd := sc_goes_beyond.nd
  have tk : Takes (cxOf (L2.CX P w) P w K mg base ["schema", "answers", "answer", "_", "high"] "goes_beyond" (defScope s_goes_beyond) f cdv A outer s H E) (fun c d _ H => E c d H) := takes_of rfl rfl rfl rfl
  exact (pssx_one (psx_ret (px_b (cr_any rfl) rc_any (by rfl) bn.any PyProof.Rows.boot_any (pax_cons (k := .vw) (PX.nwVw (px_lc (own := [("answer", 2), ("_", 3), ("high", 4)]) rfl nd (pix_zip (m := false) (by rfl) bn.zip (pax_cons (k := .vw) (px_vw 1 (pv 1)) (pax_cons (k := .vw) (PX.frVw (px_ix (px_vw 0 (pv 0)) (PX.frVw px_int))) pax_nil))) (blkOk_by (by first | (change blkC ["schema", "answers", "answer", "_", "high"] (defScope s_goes_beyond) _ _ = true; decide +kernel) | rfl)) (fun _ _ _ _ _ => (pgx_t rfl (pgsx_cons (pgx_n 2 (pg_name nd rfl (by first | exact Or.inl rfl | exact Or.inr rfl))) (pgsx_cons (pgx_t rfl (pgsx_cons (pgx_n 3 (pg_name nd rfl (by first | exact Or.inl rfl | exact Or.inr rfl))) (pgsx_cons (pgx_n 3 (pg_name nd rfl (by first | exact Or.inl rfl | exact Or.inr rfl))) (pgsx_cons (pgx_n 4 (pg_name nd rfl (by first | exact Or.inl rfl | exact Or.inr rfl))) pgsx_nil))) 3) pgsx_nil)) 2)) (fun _ _ _ _ _ => ptsx_nil) (fun _ _ _ _ _ => (px_cmp op_gt (px_vw 2 (pv 2)) (px_vw 4 (pv 4)) r2_gt (nomark _))))) pax_nil)) (.inl rfl)))

abbrev s_keeps_ladders : Stmt := top 18
theorem sc_keeps_ladders : FnScope ["schema", "answers", "one", "other"] ["schema", "answers"] (defScope s_keeps_ladders) := ⟨rfl, rfl, rfl, by decide +kernel, rfl, by decide +kernel, by decide +kernel⟩
theorem ok_keeps_ladders (D : DefD K mg "keeps_ladders" s_keeps_ladders ["schema", "answers"]) (bn : Bn mg) (h_keeps : FnD P w K mg base T "keeps" 1 sp_keeps) : FnD P w K mg base T "keeps_ladders" 2 sp_keeps_ladders := by
  refine fnD (N := ["schema", "answers", "one", "other"]) (B := b_keeps_ladders) D sc_keeps_ladders rfl (.inl rfl) (fun f cdv A outer s H E hr => ?_) pure_keeps_ladders
  have nd := sc_keeps_ladders.nd
  have tk : Takes (cxOf (L2.CX P w) P w K mg base ["schema", "answers", "one", "other"] "keeps_ladders" (defScope s_keeps_ladders) f cdv A outer s H E) (fun c d _ H => E c d H) := takes_of rfl rfl rfl rfl
  exact (pssx_one (psx_ret (px_b (cr_all rfl) rc_all (by rfl) bn.all PyProof.Rows.boot_all (pax_cons (k := .vw) (PX.nwVw (px_lc (own := [("one", 2), ("other", 3)]) rfl nd (pix_seq (m := false) (PX.frVw (px_ix (px_vw 0 (pv 0)) (PX.frVw px_int)))) (blkOk_by (by first | (change blkC ["schema", "answers", "one", "other"] (defScope s_keeps_ladders) _ _ = true; decide +kernel) | rfl)) (fun _ _ _ _ _ => (pgx_t rfl (pgsx_cons (pgx_n 2 (pg_name nd rfl (by first | exact Or.inl rfl | exact Or.inr rfl))) (pgsx_cons (pgx_n 3 (pg_name nd rfl (by first | exact Or.inl rfl | exact Or.inr rfl))) pgsx_nil)) 2)) (fun _ _ _ _ _ => ptsx_nil) (fun _ _ _ _ _ => (px_or (PX.frVw (px_callF h_keeps takes0 (hr.mono (by decide)) (by rfl) (pax_cons (k := .vw) (px_vw 1 (pv 1)) (pax_cons (k := .fr) (px_fr 3 (pv 3)) pax_nil)))) (px_one (px_not (PX.frVw (px_callF h_keeps takes0 (hr.mono (by decide)) (by rfl) (pax_cons (k := .vw) (px_vw 1 (pv 1)) (pax_cons (k := .fr) (px_fr 2 (pv 2)) pax_nil)))))))))) pax_nil)) (.inl rfl)))
end
end K07

set_option maxRecDepth 100000
set_option maxHeartbeats 4000000
namespace K07
open PySem PySem.Spec PyProof.Rows L2 Dt
structure Good (s : Sc) (dm : List Dem) (v : List Int) : Prop where
  lo : ∀ k, k < s.fs.length → at0 (lows s.fs) k ≤ at0 v k
  dm : ∀ d ∈ dm, d.2 ≤ at0 v d.1
  cl : ∀ l ∈ s.ls, l.1.2 ≤ at0 v l.1.1 → l.2.2 ≤ at0 v l.2.1
structure IsLed (s : Sc) (dm : List Dem) (v : List Int) : Prop where
  len : v.length = s.fs.length
  good : Good s dm v
  least : ∀ w, w.length = s.fs.length → Good s dm w → ∀ k, k < s.fs.length → at0 v k ≤ at0 w k
theorem ext0 {v w : List Int} (h : v.length = w.length) (e : ∀ k, k < v.length → at0 v k = at0 w k) : v = w := by
  refine List.ext_getElem h fun k h1 h2 => ?_
  have := e k h1
  simpa [at0, List.getD_eq_getElem?_getD, h1, h2] using this
theorem IsLed.unique {s : Sc} {dm : List Dem} {v w : List Int} (a : IsLed s dm v) (b : IsLed s dm w) : v = w :=
  ext0 (a.len.trans b.len.symm) fun k hk => by
    have h1 := a.least w b.len b.good k (by rw [← a.len]; exact hk)
    have h2 := b.least v a.len a.good k (by rw [← a.len]; exact hk)
    omega
def eDs (dm : List Dem) : D := .tuple (dm.map eD)
def Sc.Ix (s : Sc) : Prop := ∀ l ∈ s.ls, l.1.1 < s.fs.length ∧ l.2.1 < s.fs.length
def sp_led_answers : FSp := nd [.fr, .fr] .fr (fun (a : Sc × List Dem) => [eS a.1, eDs a.2]) (fun a => a.1.Ix ∧ ∀ d ∈ a.2, d.1 < a.1.fs.length) fun a d => ∃ v, IsLed a.1 a.2 v ∧ d = eV v
theorem at0_set {v : List Int} {j k : Nat} {b : Int} (h : j < v.length) : at0 (v.set j b) k = if k = j then b else at0 v k := by
  unfold at0
  rw [List.getD_eq_getElem?_getD, List.getD_eq_getElem?_getD, get_set]
  by_cases e : k = j
  · subst e; rw [if_pos ⟨rfl, h⟩, if_pos rfl]; rfl
  · rw [if_neg (fun z => e z.1.symm), if_neg e]
theorem setIx_int {v : List Int} {i : Nat} {b : Int} {Q : Dt.Env → Prop} {ρ : Dt.Env} {j : Nat} (h : i < v.length) (q : Q (ρ.put j (.ow (.list ((v.set i b).map .int))))) :
    match ixN (v.map PyData.int).length (i : Int) with | some k => Q (ρ.put j (.ow (.list ((v.map PyData.int).set k (.int b))))) | none => False := by
  rw [List.length_map, ixN_nat h]
  show Q (ρ.put j (.ow (.list ((v.map PyData.int).set i (.int b)))))
  rw [← List.map_set]
  exact q
/-- how many ladders are still to be climbed -/
def todo (s : Sc) (v : List Int) : Nat := (s.ls.filter fun l => decide (at0 v l.2.1 < l.2.2)).length
theorem todo_lt {s : Sc} {v : List Int} {l : Lad} (hl : l ∈ s.ls) (hj : l.2.1 < v.length) (h : at0 v l.2.1 < l.2.2) : todo s (v.set l.2.1 l.2.2) < todo s v := by
  unfold todo
  have key : ∀ ls : List Lad, l ∈ ls → (ls.filter fun m => decide (at0 (v.set l.2.1 l.2.2) m.2.1 < m.2.2)).length < (ls.filter fun m => decide (at0 v m.2.1 < m.2.2)).length := by
    have mono : ∀ ls : List Lad, (ls.filter fun m => decide (at0 (v.set l.2.1 l.2.2) m.2.1 < m.2.2)).length ≤ (ls.filter fun m => decide (at0 v m.2.1 < m.2.2)).length := by
      intro ls
      induction ls with
      | nil => exact Nat.le_refl _
      | cons m ls ih =>
        simp only [List.filter_cons]
        by_cases h1 : at0 (v.set l.2.1 l.2.2) m.2.1 < m.2.2
        · have h2 : at0 v m.2.1 < m.2.2 := by
            rw [at0_set hj] at h1
            split at h1
            · rename_i e; rw [e]; omega
            · exact h1
          simp only [h1, h2, decide_true, if_true, List.length_cons]; omega
        · simp only [h1, decide_false, Bool.false_eq_true, if_false]
          split
          · simp only [List.length_cons]; omega
          · exact ih
    intro ls hm
    induction ls with
    | nil => simp at hm
    | cons m ls ih =>
      rcases List.mem_cons.mp hm with e | hm
      · subst e
        have h1 : ¬ at0 (v.set l.2.1 l.2.2) l.2.1 < l.2.2 := by rw [at0_set hj, if_pos rfl]; omega
        have := mono ls
        simp only [List.filter_cons, h1, h, decide_true, decide_false, Bool.false_eq_true, if_true, if_false, List.length_cons]; omega
      · have := ih hm
        simp only [List.filter_cons]
        by_cases h1 : at0 (v.set l.2.1 l.2.2) m.2.1 < m.2.2
        · have h2 : at0 v m.2.1 < m.2.2 := by
            rw [at0_set hj] at h1
            split at h1
            · rename_i e; rw [e]; omega
            · exact h1
          simp only [h1, h2, decide_true, if_true, List.length_cons]; omega
        · simp only [h1, decide_false, Bool.false_eq_true, if_false]
          split
          · simp only [List.length_cons]; omega
          · exact this
  exact key _ hl
/-- what the loops keep: of right length, nowhere above any good one -/
structure Below (s : Sc) (dm : List Dem) (v : List Int) : Prop where
  len : v.length = s.fs.length
  lo : ∀ k, k < s.fs.length → at0 (lows s.fs) k ≤ at0 v k
  le : ∀ w, w.length = s.fs.length → Good s dm w → ∀ k, k < s.fs.length → at0 v k ≤ at0 w k
/-- led_answers: 0 schema, 1 demands, 2 answers, 3 field, 4 answer, 5 changed, 6 one, 7 first, 8 other, 9 second -/
noncomputable def b_led_answers : DS :=
  (sSeq (sSetN 2 ((xCB fList (xCons ((xCall sp_lows_of (xCons ((xOp2 fIx (xVw 0) (xC (.int 0)))) xNil))) xNil))))
  (sSeq (sFor (xSeq (xSt 1)) (dgT 2 (dgCons (dgN 3) (dgCons (dgN 4) dgNil))) (sSetIx 2 (xVw 3) ((xCB fMax2 (xCons ((xOp2 fIx (xVw 2) (xVw 3))) (xCons (xVw 4) xNil))))))
  (sSeq (sSet 5 (xC (.bool true)))
  (sSeq (whileD ((xTru (xVw 5))) (sSeq (sSet 5 (xC (.bool false)))
  (sFor (xSeq ((xOp2 fIx (xVw 0) (xC (.int 1))))) (dgT 2 (dgCons (dgT 2 (dgCons (dgN 6) (dgCons (dgN 7) dgNil))) (dgCons (dgT 2 (dgCons (dgN 8) (dgCons (dgN 9) dgNil))) dgNil))) (sIf ((xAndT ((xTst (xOp2 fGe ((xOp2 fIx (xVw 2) (xVw 6))) (xVw 7)))) ((xTst (xOp2 fLt ((xOp2 fIx (xVw 2) (xVw 8))) (xVw 9)))))) (sSeq (sSetIx 2 (xVw 8) (xFr 9))
  (sSet 5 (xC (.bool true)))) sNil))))
  (sRet ((xCB fTuple (xCons (xVw 2) xNil))))))))
theorem lows_len (fs : List Fld) : (lows fs).length = fs.length := by simp [lows]
abbrev lenv (s : Sc) (dm : List Dem) (v : List Int) (a b c d e f g : Sl) : Dt.Env := [.fr (eS s), .fr (eDs dm), .ow (.list (v.map .int)), a, b, c, d, e, f, g]
theorem lenv_set {s : Sc} {dm : List Dem} {v : List Int} {i : Nat} {z : Int} {a b c d e f g : Sl} : ([.fr (eS s), .fr (eDs dm), .ow (.list ((v.map .int).set i (.int z))), a, b, c, d, e, f, g] : Dt.Env) = lenv s dm (v.set i z) a b c d e f g := by
  rw [← List.map_set]
theorem pure_led_answers : PureOk sp_led_answers b_led_answers 10 := by
  rintro ds Q Qx ⟨⟨s, dm⟩, rfl, ⟨hx, hd⟩, q⟩
  simp only at hx hd q
  simp only [b_led_answers, sp_led_answers, nd, sSeq_eq, thenD_cons, sNil, sRet, sRetN, sSet, sSetN, sAsg, sIf, sFor, forD, sDrop, sApp, sExt, sPop, sPop0, sSetIx, sAug, sPar, sMove, sFreeze, sNever, sBreak, sCont, xFr, xVw, xSt, xOw, xTp, xC, xOp1, xOp2, xTup, xLst, xCons, xNil, xCall, xCB, xTst, xTru, xAndT, xOrT, xNotT, xAnd, xOr, xNot, xIf, xChain, xCut, xSome, xNo, xIsi, xLc, xSeq, xRng1, xRng2, xYes, fRng1, fRng2, fSeq, dgN, dgT, dgCons, dgNil, Env.get, Env.put, env0, slOf, wipeR, List.set, List.set_cons_zero, List.set_cons_succ, List.getD_cons_zero, List.getD_cons_succ, List.length_cons, List.length_nil, fBool, fTru, fI20, fI2, fI1, fIsi, fOwL, fInt, fListQ, List.replicate, List.append_nil, List.nil_append, List.cons_append, Bool.false_eq_true, if_false, if_true, reduceIte, Nat.reduceSub, Nat.reduceAdd, true_and, and_true, Nat.zero_add, fLe, fLt, fGe, fGt, fAddI, fSubI, fMulI, fDivI, fModI, fNeg, fIx_t0, fIx_t1, fIx_t2, fIx_t3, xLc2, xZip, fZip, xIndex, fIndex, sRaise, fMulL, fListQ, xIsE, xFld, sTry, sTry0]
  simp only [eS, sSeq_eq, thenD_cons, sNil, sRet, sRetN, sSet, sSetN, sAsg, sIf, sFor, forD, sDrop, sApp, sExt, sPop, sPop0, sSetIx, sAug, sPar, sMove, sFreeze, sNever, sBreak, sCont, xFr, xVw, xSt, xOw, xTp, xC, xOp1, xOp2, xTup, xLst, xCons, xNil, xCall, xCB, xTst, xTru, xAndT, xOrT, xNotT, xAnd, xOr, xNot, xIf, xChain, xCut, xSome, xNo, xIsi, xLc, xSeq, xRng1, xRng2, xYes, fRng1, fRng2, fSeq, dgN, dgT, dgCons, dgNil, Env.get, Env.put, env0, slOf, wipeR, List.set, List.set_cons_zero, List.set_cons_succ, List.getD_cons_zero, List.getD_cons_succ, List.length_cons, List.length_nil, fBool, fTru, fI20, fI2, fI1, fIsi, fOwL, fInt, fListQ, List.replicate, List.append_nil, List.nil_append, List.cons_append, Bool.false_eq_true, if_false, if_true, reduceIte, Nat.reduceSub, Nat.reduceAdd, true_and, and_true, Nat.zero_add, fLe, fLt, fGe, fGt, fAddI, fSubI, fMulI, fDivI, fModI, fNeg, fIx_t0, fIx_t1, fIx_t2, fIx_t3, xLc2, xZip, fZip, xIndex, fIndex, sRaise, fMulL, fListQ, xIsE, xFld, sTry, sTry0]
  refine ⟨s.fs, rfl, trivial, ?_⟩
  simp only [eDs, eV, fList, sSeq_eq, thenD_cons, sNil, sRet, sRetN, sSet, sSetN, sAsg, sIf, sFor, forD, sDrop, sApp, sExt, sPop, sPop0, sSetIx, sAug, sPar, sMove, sFreeze, sNever, sBreak, sCont, xFr, xVw, xSt, xOw, xTp, xC, xOp1, xOp2, xTup, xLst, xCons, xNil, xCall, xCB, xTst, xTru, xAndT, xOrT, xNotT, xAnd, xOr, xNot, xIf, xChain, xCut, xSome, xNo, xIsi, xLc, xSeq, xRng1, xRng2, xYes, fRng1, fRng2, fSeq, dgN, dgT, dgCons, dgNil, Env.get, Env.put, env0, slOf, wipeR, List.set, List.set_cons_zero, List.set_cons_succ, List.getD_cons_zero, List.getD_cons_succ, List.length_cons, List.length_nil, fBool, fTru, fI20, fI2, fI1, fIsi, fOwL, fInt, fListQ, List.replicate, List.append_nil, List.nil_append, List.cons_append, Bool.false_eq_true, if_false, if_true, reduceIte, Nat.reduceSub, Nat.reduceAdd, true_and, and_true, Nat.zero_add, fLe, fLt, fGe, fGt, fAddI, fSubI, fMulI, fDivI, fModI, fNeg, fIx_t0, fIx_t1, fIx_t2, fIx_t3, xLc2, xZip, fZip, xIndex, fIndex, sRaise, fMulL, fListQ, xIsE, xFld, sTry, sTry0]
  refine forD_inv eD (fun pre ρ => ∃ v a b, ρ = lenv s dm v a b .un .un .un .un .un ∧ Below s dm v ∧ ∀ d ∈ pre, d.2 ≤ at0 v d.1) _ dm [] _ ⟨lows s.fs, .un, .un, rfl, ⟨lows_len _, fun _ _ => Int.le_refl _, fun w hw g k hk => g.lo k hk⟩, by simp⟩ ?_ ?_
  · rintro pre d ρ hdm ⟨v, a, b, rfl, B, hp⟩ N hN
    have hlt : d.1 < v.length := by rw [B.len]; exact hd d hdm
    simp only [eD, lenv, sSeq_eq, thenD_cons, sNil, sRet, sRetN, sSet, sSetN, sAsg, sIf, sFor, forD, sDrop, sApp, sExt, sPop, sPop0, sSetIx, sAug, sPar, sMove, sFreeze, sNever, sBreak, sCont, xFr, xVw, xSt, xOw, xTp, xC, xOp1, xOp2, xTup, xLst, xCons, xNil, xCall, xCB, xTst, xTru, xAndT, xOrT, xNotT, xAnd, xOr, xNot, xIf, xChain, xCut, xSome, xNo, xIsi, xLc, xSeq, xRng1, xRng2, xYes, fRng1, fRng2, fSeq, dgN, dgT, dgCons, dgNil, Env.get, Env.put, env0, slOf, wipeR, List.set, List.set_cons_zero, List.set_cons_succ, List.getD_cons_zero, List.getD_cons_succ, List.length_cons, List.length_nil, fBool, fTru, fI20, fI2, fI1, fIsi, fOwL, fInt, fListQ, List.replicate, List.append_nil, List.nil_append, List.cons_append, Bool.false_eq_true, if_false, if_true, reduceIte, Nat.reduceSub, Nat.reduceAdd, true_and, and_true, Nat.zero_add, fLe, fLt, fGe, fGt, fAddI, fSubI, fMulI, fDivI, fModI, fNeg, fIx_t0, fIx_t1, fIx_t2, fIx_t3, xLc2, xZip, fZip, xIndex, fIndex, sRaise, fMulL, fListQ, xIsE, xFld, sTry, sTry0]
    refine ix_intL hlt ?_
    simp only [fMax2, sSeq_eq, thenD_cons, sNil, sRet, sRetN, sSet, sSetN, sAsg, sIf, sFor, forD, sDrop, sApp, sExt, sPop, sPop0, sSetIx, sAug, sPar, sMove, sFreeze, sNever, sBreak, sCont, xFr, xVw, xSt, xOw, xTp, xC, xOp1, xOp2, xTup, xLst, xCons, xNil, xCall, xCB, xTst, xTru, xAndT, xOrT, xNotT, xAnd, xOr, xNot, xIf, xChain, xCut, xSome, xNo, xIsi, xLc, xSeq, xRng1, xRng2, xYes, fRng1, fRng2, fSeq, dgN, dgT, dgCons, dgNil, Env.get, Env.put, env0, slOf, wipeR, List.set, List.set_cons_zero, List.set_cons_succ, List.getD_cons_zero, List.getD_cons_succ, List.length_cons, List.length_nil, fBool, fTru, fI20, fI2, fI1, fIsi, fOwL, fInt, fListQ, List.replicate, List.append_nil, List.nil_append, List.cons_append, Bool.false_eq_true, if_false, if_true, reduceIte, Nat.reduceSub, Nat.reduceAdd, true_and, and_true, Nat.zero_add, fLe, fLt, fGe, fGt, fAddI, fSubI, fMulI, fDivI, fModI, fNeg, fIx_t0, fIx_t1, fIx_t2, fIx_t3, xLc2, xZip, fZip, xIndex, fIndex, sRaise, fMulL, fListQ, xIsE, xFld, sTry, sTry0, List.length_map, ixN_nat hlt]
    refine hN _ ⟨v.set d.1 (if d.2 > at0 v d.1 then d.2 else at0 v d.1), _, _, lenv_set, ⟨by rw [List.length_set]; exact B.len, fun k hk => ?_, fun w hw g k hk => ?_⟩, fun e he => ?_⟩
    · rw [at0_set hlt]
      have := B.lo k hk
      split
      · rename_i e; subst e; split <;> omega
      · exact this
    · rw [at0_set hlt]
      have := B.le w hw g k hk
      split
      · rename_i e; subst e
        have := g.dm d hdm
        split <;> omega
      · exact this
    · rw [at0_set hlt]
      rcases List.mem_append.mp he with he | he
      · have := hp e he
        split
        · rename_i z; rw [z] at this; split <;> omega
        · exact this
      · have := List.mem_singleton.mp he
        subst this
        rw [if_pos rfl]; split <;> omega
  · rintro ρ ⟨v, a, b, rfl, B, hp⟩
    simp only [List.nil_append] at hp
    simp only [lenv, sSeq_eq, thenD_cons, sNil, sRet, sRetN, sSet, sSetN, sAsg, sIf, sFor, forD, sDrop, sApp, sExt, sPop, sPop0, sSetIx, sAug, sPar, sMove, sFreeze, sNever, sBreak, sCont, xFr, xVw, xSt, xOw, xTp, xC, xOp1, xOp2, xTup, xLst, xCons, xNil, xCall, xCB, xTst, xTru, xAndT, xOrT, xNotT, xAnd, xOr, xNot, xIf, xChain, xCut, xSome, xNo, xIsi, xLc, xSeq, xRng1, xRng2, xYes, fRng1, fRng2, fSeq, dgN, dgT, dgCons, dgNil, Env.get, Env.put, env0, slOf, wipeR, List.set, List.set_cons_zero, List.set_cons_succ, List.getD_cons_zero, List.getD_cons_succ, List.length_cons, List.length_nil, fBool, fTru, fI20, fI2, fI1, fIsi, fOwL, fInt, fListQ, List.replicate, List.append_nil, List.nil_append, List.cons_append, Bool.false_eq_true, if_false, if_true, reduceIte, Nat.reduceSub, Nat.reduceAdd, true_and, and_true, Nat.zero_add, fLe, fLt, fGe, fGt, fAddI, fSubI, fMulI, fDivI, fModI, fNeg, fIx_t0, fIx_t1, fIx_t2, fIx_t3, xLc2, xZip, fZip, xIndex, fIndex, sRaise, fMulL, fListQ, xIsE, xFld, sTry, sTry0, whileD]
    refine ⟨fun m ρ => ∃ v a b c d e f g, ρ = lenv s dm v a b (.fr (.bool c)) d e f g ∧ Below s dm v ∧ (∀ d ∈ dm, d.2 ≤ at0 v d.1) ∧ (c = false → ∀ l ∈ s.ls, l.1.2 ≤ at0 v l.1.1 → l.2.2 ≤ at0 v l.2.1) ∧ m = 2 * todo s v + (if c then 1 else 0), ⟨_, v, a, b, true, _, _, _, _, rfl, B, hp, by simp, rfl⟩, ?_⟩
    rintro m ρ ⟨v, a, b, c, d, e, f, g, rfl, B, hp, hc, rfl⟩
    simp only [lenv, sSeq_eq, thenD_cons, sNil, sRet, sRetN, sSet, sSetN, sAsg, sIf, sFor, forD, sDrop, sApp, sExt, sPop, sPop0, sSetIx, sAug, sPar, sMove, sFreeze, sNever, sBreak, sCont, xFr, xVw, xSt, xOw, xTp, xC, xOp1, xOp2, xTup, xLst, xCons, xNil, xCall, xCB, xTst, xTru, xAndT, xOrT, xNotT, xAnd, xOr, xNot, xIf, xChain, xCut, xSome, xNo, xIsi, xLc, xSeq, xRng1, xRng2, xYes, fRng1, fRng2, fSeq, dgN, dgT, dgCons, dgNil, Env.get, Env.put, env0, slOf, wipeR, List.set, List.set_cons_zero, List.set_cons_succ, List.getD_cons_zero, List.getD_cons_succ, List.length_cons, List.length_nil, fBool, fTru, fI20, fI2, fI1, fIsi, fOwL, fInt, fListQ, List.replicate, List.append_nil, List.nil_append, List.cons_append, Bool.false_eq_true, if_false, if_true, reduceIte, Nat.reduceSub, Nat.reduceAdd, true_and, and_true, Nat.zero_add, fLe, fLt, fGe, fGt, fAddI, fSubI, fMulI, fDivI, fModI, fNeg, fIx_t0, fIx_t1, fIx_t2, fIx_t3, xLc2, xZip, fZip, xIndex, fIndex, sRaise, fMulL, fListQ, xIsE, xFld, sTry, sTry0]
    cases c with
    | false =>
      simp only [sSeq_eq, thenD_cons, sNil, sRet, sRetN, sSet, sSetN, sAsg, sIf, sFor, forD, sDrop, sApp, sExt, sPop, sPop0, sSetIx, sAug, sPar, sMove, sFreeze, sNever, sBreak, sCont, xFr, xVw, xSt, xOw, xTp, xC, xOp1, xOp2, xTup, xLst, xCons, xNil, xCall, xCB, xTst, xTru, xAndT, xOrT, xNotT, xAnd, xOr, xNot, xIf, xChain, xCut, xSome, xNo, xIsi, xLc, xSeq, xRng1, xRng2, xYes, fRng1, fRng2, fSeq, dgN, dgT, dgCons, dgNil, Env.get, Env.put, env0, slOf, wipeR, List.set, List.set_cons_zero, List.set_cons_succ, List.getD_cons_zero, List.getD_cons_succ, List.length_cons, List.length_nil, fBool, fTru, fI20, fI2, fI1, fIsi, fOwL, fInt, fListQ, List.replicate, List.append_nil, List.nil_append, List.cons_append, Bool.false_eq_true, if_false, if_true, reduceIte, Nat.reduceSub, Nat.reduceAdd, true_and, and_true, Nat.zero_add, fLe, fLt, fGe, fGt, fAddI, fSubI, fMulI, fDivI, fModI, fNeg, fIx_t0, fIx_t1, fIx_t2, fIx_t3, xLc2, xZip, fZip, xIndex, fIndex, sRaise, fMulL, fListQ, xIsE, xFld, sTry, sTry0, fTuple]
      have : IsLed s dm v := ⟨B.len, ⟨B.lo, hp, hc rfl⟩, B.le⟩
      exact q _ ⟨v, this, rfl⟩
    | true =>
      simp only [sSeq_eq, thenD_cons, sNil, sRet, sRetN, sSet, sSetN, sAsg, sIf, sFor, forD, sDrop, sApp, sExt, sPop, sPop0, sSetIx, sAug, sPar, sMove, sFreeze, sNever, sBreak, sCont, xFr, xVw, xSt, xOw, xTp, xC, xOp1, xOp2, xTup, xLst, xCons, xNil, xCall, xCB, xTst, xTru, xAndT, xOrT, xNotT, xAnd, xOr, xNot, xIf, xChain, xCut, xSome, xNo, xIsi, xLc, xSeq, xRng1, xRng2, xYes, fRng1, fRng2, fSeq, dgN, dgT, dgCons, dgNil, Env.get, Env.put, env0, slOf, wipeR, List.set, List.set_cons_zero, List.set_cons_succ, List.getD_cons_zero, List.getD_cons_succ, List.length_cons, List.length_nil, fBool, fTru, fI20, fI2, fI1, fIsi, fOwL, fInt, fListQ, List.replicate, List.append_nil, List.nil_append, List.cons_append, Bool.false_eq_true, if_false, if_true, reduceIte, Nat.reduceSub, Nat.reduceAdd, true_and, and_true, Nat.zero_add, fLe, fLt, fGe, fGt, fAddI, fSubI, fMulI, fDivI, fModI, fNeg, fIx_t0, fIx_t1, fIx_t2, fIx_t3, xLc2, xZip, fZip, xIndex, fIndex, sRaise, fMulL, fListQ, xIsE, xFld, sTry, sTry0, eS]
      refine forD_inv eL (fun pre ρ => ∃ v1 c1 d e f g, ρ = lenv s dm v1 a b (.fr (.bool c1)) d e f g ∧ Below s dm v1 ∧ (∀ d ∈ dm, d.2 ≤ at0 v1 d.1) ∧ (c1 = false → v1 = v ∧ ∀ l ∈ pre, l.1.2 ≤ at0 v l.1.1 → l.2.2 ≤ at0 v l.2.1) ∧ (c1 = true → todo s v1 < todo s v)) _ s.ls [] _ ⟨v, false, d, e, f, g, rfl, B, hp, fun _ => ⟨rfl, by simp⟩, by simp⟩ ?_ ?_
      · rintro pre l ρ hl ⟨v1, c1, d, e, f, g, rfl, B1, hp1, h0, h1⟩ N hN
        have hl1 : l.1.1 < v1.length := by rw [B1.len]; exact (hx l hl).1
        have hl2 : l.2.1 < v1.length := by rw [B1.len]; exact (hx l hl).2
        simp only [eL, eD, lenv, sSeq_eq, thenD_cons, sNil, sRet, sRetN, sSet, sSetN, sAsg, sIf, sFor, forD, sDrop, sApp, sExt, sPop, sPop0, sSetIx, sAug, sPar, sMove, sFreeze, sNever, sBreak, sCont, xFr, xVw, xSt, xOw, xTp, xC, xOp1, xOp2, xTup, xLst, xCons, xNil, xCall, xCB, xTst, xTru, xAndT, xOrT, xNotT, xAnd, xOr, xNot, xIf, xChain, xCut, xSome, xNo, xIsi, xLc, xSeq, xRng1, xRng2, xYes, fRng1, fRng2, fSeq, dgN, dgT, dgCons, dgNil, Env.get, Env.put, env0, slOf, wipeR, List.set, List.set_cons_zero, List.set_cons_succ, List.getD_cons_zero, List.getD_cons_succ, List.length_cons, List.length_nil, fBool, fTru, fI20, fI2, fI1, fIsi, fOwL, fInt, fListQ, List.replicate, List.append_nil, List.nil_append, List.cons_append, Bool.false_eq_true, if_false, if_true, reduceIte, Nat.reduceSub, Nat.reduceAdd, true_and, and_true, Nat.zero_add, fLe, fLt, fGe, fGt, fAddI, fSubI, fMulI, fDivI, fModI, fNeg, fIx_t0, fIx_t1, fIx_t2, fIx_t3, xLc2, xZip, fZip, xIndex, fIndex, sRaise, fMulL, fListQ, xIsE, xFld, sTry, sTry0]
        refine ix_intL hl1 ?_
        simp only [sSeq_eq, thenD_cons, sNil, sRet, sRetN, sSet, sSetN, sAsg, sIf, sFor, forD, sDrop, sApp, sExt, sPop, sPop0, sSetIx, sAug, sPar, sMove, sFreeze, sNever, sBreak, sCont, xFr, xVw, xSt, xOw, xTp, xC, xOp1, xOp2, xTup, xLst, xCons, xNil, xCall, xCB, xTst, xTru, xAndT, xOrT, xNotT, xAnd, xOr, xNot, xIf, xChain, xCut, xSome, xNo, xIsi, xLc, xSeq, xRng1, xRng2, xYes, fRng1, fRng2, fSeq, dgN, dgT, dgCons, dgNil, Env.get, Env.put, env0, slOf, wipeR, List.set, List.set_cons_zero, List.set_cons_succ, List.getD_cons_zero, List.getD_cons_succ, List.length_cons, List.length_nil, fBool, fTru, fI20, fI2, fI1, fIsi, fOwL, fInt, fListQ, List.replicate, List.append_nil, List.nil_append, List.cons_append, Bool.false_eq_true, if_false, if_true, reduceIte, Nat.reduceSub, Nat.reduceAdd, true_and, and_true, Nat.zero_add, fLe, fLt, fGe, fGt, fAddI, fSubI, fMulI, fDivI, fModI, fNeg, fIx_t0, fIx_t1, fIx_t2, fIx_t3, xLc2, xZip, fZip, xIndex, fIndex, sRaise, fMulL, fListQ, xIsE, xFld, sTry, sTry0]
        by_cases g1 : l.1.2 ≤ at0 v1 l.1.1
        · simp only [g1, decide_true, sSeq_eq, thenD_cons, sNil, sRet, sRetN, sSet, sSetN, sAsg, sIf, sFor, forD, sDrop, sApp, sExt, sPop, sPop0, sSetIx, sAug, sPar, sMove, sFreeze, sNever, sBreak, sCont, xFr, xVw, xSt, xOw, xTp, xC, xOp1, xOp2, xTup, xLst, xCons, xNil, xCall, xCB, xTst, xTru, xAndT, xOrT, xNotT, xAnd, xOr, xNot, xIf, xChain, xCut, xSome, xNo, xIsi, xLc, xSeq, xRng1, xRng2, xYes, fRng1, fRng2, fSeq, dgN, dgT, dgCons, dgNil, Env.get, Env.put, env0, slOf, wipeR, List.set, List.set_cons_zero, List.set_cons_succ, List.getD_cons_zero, List.getD_cons_succ, List.length_cons, List.length_nil, fBool, fTru, fI20, fI2, fI1, fIsi, fOwL, fInt, fListQ, List.replicate, List.append_nil, List.nil_append, List.cons_append, Bool.false_eq_true, if_false, if_true, reduceIte, Nat.reduceSub, Nat.reduceAdd, true_and, and_true, Nat.zero_add, fLe, fLt, fGe, fGt, fAddI, fSubI, fMulI, fDivI, fModI, fNeg, fIx_t0, fIx_t1, fIx_t2, fIx_t3, xLc2, xZip, fZip, xIndex, fIndex, sRaise, fMulL, fListQ, xIsE, xFld, sTry, sTry0]
          refine ix_intL hl2 ?_
          simp only [sSeq_eq, thenD_cons, sNil, sRet, sRetN, sSet, sSetN, sAsg, sIf, sFor, forD, sDrop, sApp, sExt, sPop, sPop0, sSetIx, sAug, sPar, sMove, sFreeze, sNever, sBreak, sCont, xFr, xVw, xSt, xOw, xTp, xC, xOp1, xOp2, xTup, xLst, xCons, xNil, xCall, xCB, xTst, xTru, xAndT, xOrT, xNotT, xAnd, xOr, xNot, xIf, xChain, xCut, xSome, xNo, xIsi, xLc, xSeq, xRng1, xRng2, xYes, fRng1, fRng2, fSeq, dgN, dgT, dgCons, dgNil, Env.get, Env.put, env0, slOf, wipeR, List.set, List.set_cons_zero, List.set_cons_succ, List.getD_cons_zero, List.getD_cons_succ, List.length_cons, List.length_nil, fBool, fTru, fI20, fI2, fI1, fIsi, fOwL, fInt, fListQ, List.replicate, List.append_nil, List.nil_append, List.cons_append, Bool.false_eq_true, if_false, if_true, reduceIte, Nat.reduceSub, Nat.reduceAdd, true_and, and_true, Nat.zero_add, fLe, fLt, fGe, fGt, fAddI, fSubI, fMulI, fDivI, fModI, fNeg, fIx_t0, fIx_t1, fIx_t2, fIx_t3, xLc2, xZip, fZip, xIndex, fIndex, sRaise, fMulL, fListQ, xIsE, xFld, sTry, sTry0]
          by_cases g2 : at0 v1 l.2.1 < l.2.2
          · simp only [g2, decide_true, sSeq_eq, thenD_cons, sNil, sRet, sRetN, sSet, sSetN, sAsg, sIf, sFor, forD, sDrop, sApp, sExt, sPop, sPop0, sSetIx, sAug, sPar, sMove, sFreeze, sNever, sBreak, sCont, xFr, xVw, xSt, xOw, xTp, xC, xOp1, xOp2, xTup, xLst, xCons, xNil, xCall, xCB, xTst, xTru, xAndT, xOrT, xNotT, xAnd, xOr, xNot, xIf, xChain, xCut, xSome, xNo, xIsi, xLc, xSeq, xRng1, xRng2, xYes, fRng1, fRng2, fSeq, dgN, dgT, dgCons, dgNil, Env.get, Env.put, env0, slOf, wipeR, List.set, List.set_cons_zero, List.set_cons_succ, List.getD_cons_zero, List.getD_cons_succ, List.length_cons, List.length_nil, fBool, fTru, fI20, fI2, fI1, fIsi, fOwL, fInt, fListQ, List.replicate, List.append_nil, List.nil_append, List.cons_append, Bool.false_eq_true, if_false, if_true, reduceIte, Nat.reduceSub, Nat.reduceAdd, true_and, and_true, Nat.zero_add, fLe, fLt, fGe, fGt, fAddI, fSubI, fMulI, fDivI, fModI, fNeg, fIx_t0, fIx_t1, fIx_t2, fIx_t3, xLc2, xZip, fZip, xIndex, fIndex, sRaise, fMulL, fListQ, xIsE, xFld, sTry, sTry0, List.length_map, ixN_nat hl2]
            refine hN _ ⟨v1.set l.2.1 l.2.2, true, _, _, _, _, lenv_set, ⟨by rw [List.length_set]; exact B1.len, fun k hk => ?_, fun w hw gw k hk => ?_⟩, fun d hd2 => ?_, by simp, fun _ => ?_⟩
            · rw [at0_set hl2]
              have := B1.lo k hk
              split
              · rename_i z; subst z; omega
              · exact this
            · rw [at0_set hl2]
              have := B1.le w hw gw k hk
              split
              · rename_i z; subst z
                have h3 := B1.le w hw gw l.1.1 (hx l hl).1
                exact gw.cl l hl (by omega)
              · exact this
            · rw [at0_set hl2]
              have := hp1 d hd2
              split
              · rename_i z; rw [z] at this; omega
              · exact this
            · have := todo_lt hl hl2 g2
              cases c1 with
              | false => rw [(h0 rfl).1] at this ⊢; exact this
              | true => have := h1 rfl; omega
          · simp only [g2, decide_false, sSeq_eq, thenD_cons, sNil, sRet, sRetN, sSet, sSetN, sAsg, sIf, sFor, forD, sDrop, sApp, sExt, sPop, sPop0, sSetIx, sAug, sPar, sMove, sFreeze, sNever, sBreak, sCont, xFr, xVw, xSt, xOw, xTp, xC, xOp1, xOp2, xTup, xLst, xCons, xNil, xCall, xCB, xTst, xTru, xAndT, xOrT, xNotT, xAnd, xOr, xNot, xIf, xChain, xCut, xSome, xNo, xIsi, xLc, xSeq, xRng1, xRng2, xYes, fRng1, fRng2, fSeq, dgN, dgT, dgCons, dgNil, Env.get, Env.put, env0, slOf, wipeR, List.set, List.set_cons_zero, List.set_cons_succ, List.getD_cons_zero, List.getD_cons_succ, List.length_cons, List.length_nil, fBool, fTru, fI20, fI2, fI1, fIsi, fOwL, fInt, fListQ, List.replicate, List.append_nil, List.nil_append, List.cons_append, Bool.false_eq_true, if_false, if_true, reduceIte, Nat.reduceSub, Nat.reduceAdd, true_and, and_true, Nat.zero_add, fLe, fLt, fGe, fGt, fAddI, fSubI, fMulI, fDivI, fModI, fNeg, fIx_t0, fIx_t1, fIx_t2, fIx_t3, xLc2, xZip, fZip, xIndex, fIndex, sRaise, fMulL, fListQ, xIsE, xFld, sTry, sTry0]
            refine hN _ ⟨v1, c1, _, _, _, _, rfl, B1, hp1, fun z => ⟨(h0 z).1, fun l' hl' => ?_⟩, h1⟩
            rcases List.mem_append.mp hl' with hl' | hl'
            · exact (h0 z).2 l' hl'
            · have := List.mem_singleton.mp hl'
              subst this
              rw [← (h0 z).1]
              intro _; omega
        · simp only [g1, decide_false, sSeq_eq, thenD_cons, sNil, sRet, sRetN, sSet, sSetN, sAsg, sIf, sFor, forD, sDrop, sApp, sExt, sPop, sPop0, sSetIx, sAug, sPar, sMove, sFreeze, sNever, sBreak, sCont, xFr, xVw, xSt, xOw, xTp, xC, xOp1, xOp2, xTup, xLst, xCons, xNil, xCall, xCB, xTst, xTru, xAndT, xOrT, xNotT, xAnd, xOr, xNot, xIf, xChain, xCut, xSome, xNo, xIsi, xLc, xSeq, xRng1, xRng2, xYes, fRng1, fRng2, fSeq, dgN, dgT, dgCons, dgNil, Env.get, Env.put, env0, slOf, wipeR, List.set, List.set_cons_zero, List.set_cons_succ, List.getD_cons_zero, List.getD_cons_succ, List.length_cons, List.length_nil, fBool, fTru, fI20, fI2, fI1, fIsi, fOwL, fInt, fListQ, List.replicate, List.append_nil, List.nil_append, List.cons_append, Bool.false_eq_true, if_false, if_true, reduceIte, Nat.reduceSub, Nat.reduceAdd, true_and, and_true, Nat.zero_add, fLe, fLt, fGe, fGt, fAddI, fSubI, fMulI, fDivI, fModI, fNeg, fIx_t0, fIx_t1, fIx_t2, fIx_t3, xLc2, xZip, fZip, xIndex, fIndex, sRaise, fMulL, fListQ, xIsE, xFld, sTry, sTry0]
          refine hN _ ⟨v1, c1, _, _, _, _, rfl, B1, hp1, fun z => ⟨(h0 z).1, fun l' hl' => ?_⟩, h1⟩
          rcases List.mem_append.mp hl' with hl' | hl'
          · exact (h0 z).2 l' hl'
          · have := List.mem_singleton.mp hl'
            subst this
            rw [← (h0 z).1]
            intro z; exact absurd z g1
      · rintro ρ ⟨v1, c1, d, e, f, g, rfl, B1, hp1, h0, h1⟩
        simp only [List.nil_append] at h0
        refine ⟨2 * todo s v1 + (if c1 then 1 else 0), ?_, v1, a, b, c1, d, e, f, g, rfl, B1, hp1, fun z => ?_, rfl⟩
        · cases c1 with
          | false => rw [(h0 rfl).1]; simp
          | true => have := h1 rfl; simp; omega
        · rw [(h0 z).1]; exact (h0 z).2
section
variable {P : Program} {w : World} {K : PySem.W.Frag} {mg : Str → Option Value} {base : Heap} {T : Tape}
abbrev s_led_answers : Stmt := top 13
theorem sc_led_answers : FnScope ["schema", "demands", "answers", "field", "answer", "changed", "one", "first", "other", "second"] ["schema", "demands"] (defScope s_led_answers) := ⟨rfl, rfl, rfl, by decide +kernel, rfl, by decide +kernel, by decide +kernel⟩
theorem ok_led_answers (D : DefD K mg "led_answers" s_led_answers ["schema", "demands"]) (bn : Bn mg) (h_lows_of : FnD P w K mg base T "lows_of" 1 sp_lows_of) : FnD P w K mg base T "led_answers" 2 sp_led_answers := by
  refine fnD (N := ["schema", "demands", "answers", "field", "answer", "changed", "one", "first", "other", "second"]) (B := b_led_answers) D sc_led_answers rfl (.inl rfl) (fun f cdv A outer s H E hr => ?_) pure_led_answers
  have nd := sc_led_answers.nd
  have tk : Takes (cxOf (L2.CX P w) P w K mg base ["schema", "demands", "answers", "field", "answer", "changed", "one", "first", "other", "second"] "led_answers" (defScope s_led_answers) f cdv A outer s H E) (fun c d _ H => E c d H) := takes_of rfl rfl rfl rfl
  exact (pssx_cons (psx_setN 2 nd rfl (by first | exact Or.inl rfl | exact Or.inr rfl) (px_ty call_list_of rc_list (by rfl) bn.list PyProof.Rows.boot_list (pax_cons (k := .vw) (PX.frVw (px_callF h_lows_of tk (hr.mono (by decide)) (by rfl) (pax_cons (k := .vw) (PX.frVw (px_ix (px_vw 0 (pv 0)) (PX.frVw px_int))) pax_nil))) pax_nil)))
  (pssx_cons (psx_for (passes_of rfl) rfl (pix_seq (m := true) (px_st 1 (pv 1))) (pgx_t rfl (pgsx_cons (pgx_n 3 (pg_name nd rfl (by first | exact Or.inl rfl | exact Or.inr rfl))) (pgsx_cons (pgx_n 4 (pg_name nd rfl (by first | exact Or.inl rfl | exact Or.inr rfl))) pgsx_nil)) 2) (pssx_one (psx_setIx 2 (px_vw 3 (pv 3)) (px_b (call_max2 rfl) rc_max2 (by rfl) bn.max PyProof.Rows.boot_max (pax_cons (k := .vw) (PX.frVw (px_ix (px_vw 2 (pv 2)) (px_vw 3 (pv 3)))) (pax_cons (k := .vw) (px_vw 4 (pv 4)) pax_nil))) (fun h1 h2 => ps_asg h2 (pg_sub (pv 2) h1 set_list)))))
  (pssx_cons (psx_set 5 nd rfl (by first | exact Or.inl rfl | exact Or.inr rfl) px_bl)
  (pssx_cons (psx_while (passes_of rfl) (ptx_tru (px_vw 5 (pv 5))) (pssx_cons (psx_set 5 nd rfl (by first | exact Or.inl rfl | exact Or.inr rfl) px_bl)
  (pssx_one (psx_for (passes_of rfl) rfl (pix_seq (m := true) (PX.frSt (px_ix (px_vw 0 (pv 0)) (PX.frVw px_int)))) (pgx_t rfl (pgsx_cons (pgx_t rfl (pgsx_cons (pgx_n 6 (pg_name nd rfl (by first | exact Or.inl rfl | exact Or.inr rfl))) (pgsx_cons (pgx_n 7 (pg_name nd rfl (by first | exact Or.inl rfl | exact Or.inr rfl))) pgsx_nil)) 2) (pgsx_cons (pgx_t rfl (pgsx_cons (pgx_n 8 (pg_name nd rfl (by first | exact Or.inl rfl | exact Or.inr rfl))) (pgsx_cons (pgx_n 9 (pg_name nd rfl (by first | exact Or.inl rfl | exact Or.inr rfl))) pgsx_nil)) 2) pgsx_nil)) 2) (pssx_one (psx_if (PWx.pt (pw_a (ptx_cmp op_ge (PX.frVw (px_ix (px_vw 2 (pv 2)) (px_vw 6 (pv 6)))) (px_vw 7 (pv 7)) r2_ge (nomark _)) (pw_1a (ptx_cmp op_lt (PX.frVw (px_ix (px_vw 2 (pv 2)) (px_vw 8 (pv 8)))) (px_vw 9 (pv 9)) r2_lt (nomark _))))) (pssx_cons (psx_setIx 2 (px_vw 8 (pv 8)) (px_fr 9 (pv 9)) (fun h1 h2 => ps_asg h2 (pg_sub (pv 2) h1 set_list)))
  (pssx_one (psx_set 5 nd rfl (by first | exact Or.inl rfl | exact Or.inr rfl) px_bl))) pssx_nil))))))
  (pssx_one (psx_ret (px_ty call_tuple_of rc_tuple (by rfl) bn.tuple PyProof.Rows.boot_tuple (pax_cons (k := .vw) (px_vw 2 (pv 2)) pax_nil)) (.inl rfl)))))))
end
end K07

set_option maxRecDepth 100000
set_option maxHeartbeats 4000000
namespace K07
open PySem PySem.Spec PyProof.Rows L2 Dt
/-! ### records -/
def rng (lo hi : Int) : List Int := (List.range (hi + 1 - lo).toNat).map fun i => lo + (i : Nat)
theorem mem_rng {lo hi a : Int} : a ∈ rng lo hi ↔ lo ≤ a ∧ a ≤ hi := by
  unfold rng
  simp only [List.mem_map, List.mem_range]
  constructor
  · rintro ⟨i, hi, rfl⟩; omega
  · rintro ⟨h1, h2⟩; exact ⟨(a - lo).toNat, by omega, by omega⟩
def grow1 (rows : List (List Int)) (f : Fld) : List (List Int) := rows.flatMap fun r => (rng f.2.1 f.2.2).map fun a => r ++ [a]
def rowsOf (fs : List Fld) : List (List Int) := fs.foldl grow1 [[]]
def In : List Int → List Fld → Prop
  | [], [] => True
  | a :: t, f :: fs => (f.2.1 ≤ a ∧ a ≤ f.2.2) ∧ In t fs
  | _, _ => False
theorem mem_rows0 : ∀ (fs : List Fld) (init : List (List Int)) (v : List Int), v ∈ fs.foldl grow1 init ↔ ∃ r ∈ init, ∃ t, v = r ++ t ∧ In t fs
  | [], init, v => by
    constructor
    · intro h; exact ⟨v, h, [], by simp, trivial⟩
    · rintro ⟨r, h, t, e, i⟩
      cases t with
      | nil => simpa [e] using h
      | cons a t => exact i.elim
  | f :: fs, init, v => by
    rw [List.foldl_cons, mem_rows0 fs]
    constructor
    · rintro ⟨r, h, t, e, i⟩
      unfold grow1 at h
      simp only [List.mem_flatMap, List.mem_map] at h
      obtain ⟨r0, h0, a, ha, rfl⟩ := h
      exact ⟨r0, h0, a :: t, by simp [e], mem_rng.mp ha, i⟩
    · rintro ⟨r, h, t, e, i⟩
      cases t with
      | nil => exact i.elim
      | cons a t =>
        refine ⟨r ++ [a], ?_, t, by simp [e], i.2⟩
        unfold grow1
        simp only [List.mem_flatMap, List.mem_map]
        exact ⟨r, h, a, mem_rng.mpr i.1, rfl⟩
theorem mem_rows {fs : List Fld} {v : List Int} : v ∈ rowsOf fs ↔ In v fs := by
  unfold rowsOf
  rw [mem_rows0]
  constructor
  · rintro ⟨r, h, t, e, i⟩
    have := List.mem_singleton.mp h
    subst this
    simpa [e] using i
  · intro i; exact ⟨[], by simp, v, by simp, i⟩
theorem in_iff : ∀ {fs : List Fld} {v : List Int}, In v fs ↔ v.length = fs.length ∧ ∀ k, k < fs.length → at0 (lows fs) k ≤ at0 v k ∧ at0 v k ≤ at0 (highs fs) k
  | [], [] => by simp [In]
  | [], _ :: _ => by simp [In]
  | _ :: _, [] => by simp [In]
  | f :: fs, a :: v => by
    simp only [In]
    rw [in_iff]
    constructor
    · rintro ⟨h1, h2, h3⟩
      refine ⟨by simp [h2], fun k hk => ?_⟩
      cases k with
      | zero => simpa [at0, lows, highs] using h1
      | succ k => simpa [at0, lows, highs] using h3 k (by simpa using hk)
    · rintro ⟨h2, h3⟩
      refine ⟨by simpa [at0, lows, highs] using h3 0 (by simp), by simpa using h2, fun k hk => ?_⟩
      simpa [at0, lows, highs] using h3 (k + 1) (by simpa using hk)
def recs (s : Sc) : List (List Int) := (rowsOf s.fs).filter (kl s)
theorem mem_recs {s : Sc} {v : List Int} : v ∈ recs s ↔ In v s.fs ∧ kl s v = true := by
  unfold recs; rw [List.mem_filter, mem_rows]
theorem kl_iff {s : Sc} {v : List Int} : kl s v = true ↔ ∀ l ∈ s.ls, l.1.2 ≤ at0 v l.1.1 → l.2.2 ≤ at0 v l.2.1 := by
  unfold kl kp
  rw [List.all_eq_true]
  constructor
  · intro h l hl h1
    have := h l hl
    simp only [Bool.or_eq_true, decide_eq_true_eq, Bool.not_eq_true', decide_eq_false_iff_not] at this
    rcases this with h2 | h2
    · exact h2
    · exact absurd h1 h2
  · intro h l hl
    simp only [Bool.or_eq_true, decide_eq_true_eq, Bool.not_eq_true', decide_eq_false_iff_not]
    by_cases h1 : l.1.2 ≤ at0 v l.1.1
    · exact .inl (h l hl h1)
    · exact .inr h1
theorem bey_iff : ∀ {fs : List Fld} {v : List Int}, v.length = fs.length → (((v.zip fs).any fun p => decide (p.2.2.2 < p.1)) = false ↔ ∀ k, k < fs.length → at0 v k ≤ at0 (highs fs) k)
  | [], [], _ => by simp
  | f :: fs, a :: v, h => by
    have ih := bey_iff (fs := fs) (v := v) (by simpa using h)
    simp only [List.zip_cons_cons, List.any_cons, Bool.or_eq_false_iff, decide_eq_false_iff_not, ih]
    constructor
    · rintro ⟨h1, h2⟩ k hk
      cases k with
      | zero => simp [at0, highs]; omega
      | succ k => simpa [at0, highs] using h2 k (by simpa using hk)
    · intro h2
      refine ⟨?_, fun k hk => ?_⟩
      · have := h2 0 (by simp); simp [at0, highs] at this; omega
      · simpa [at0, highs] using h2 (k + 1) (by simpa using hk)
/-- a record is good, and a good one not beyond is a record -/
theorem recs_iff {s : Sc} {dm : List Dem} {v : List Int} : (v ∈ recs s ∧ ∀ d ∈ dm, d.2 ≤ at0 v d.1) ↔ v.length = s.fs.length ∧ Good s dm v ∧ ∀ k, k < s.fs.length → at0 v k ≤ at0 (highs s.fs) k := by
  rw [mem_recs, in_iff, kl_iff]
  constructor
  · rintro ⟨⟨⟨h1, h2⟩, h3⟩, h4⟩
    exact ⟨h1, ⟨fun k hk => (h2 k hk).1, h4, h3⟩, fun k hk => (h2 k hk).2⟩
  · rintro ⟨h1, ⟨h2, h4, h3⟩, h5⟩
    exact ⟨⟨⟨h1, fun k hk => ⟨h2 k hk, h5 k hk⟩⟩, h3⟩, h4⟩
theorem led_rec {s : Sc} {dm : List Dem} {v : List Int} (h : IsLed s dm v) : bey s v = false ↔ (v ∈ recs s ∧ ∀ d ∈ dm, d.2 ≤ at0 v d.1) := by
  unfold bey
  rw [bey_iff h.len, recs_iff]
  exact ⟨fun z => ⟨h.len, h.good, z⟩, fun z => z.2.2⟩
theorem led_none {s : Sc} {dm : List Dem} {v : List Int} (h : IsLed s dm v) (hb : bey s v = true) : ∀ w ∈ recs s, ¬ ∀ d ∈ dm, d.2 ≤ at0 w d.1 := fun w hw hd => by
  obtain ⟨h1, h2, h3⟩ := recs_iff.mp ⟨hw, hd⟩
  have : bey s v = false := by
    unfold bey
    rw [bey_iff h.len]
    intro k hk
    have := h.least w h1 h2 k hk
    have := h3 k hk
    omega
  rw [this] at hb; cases hb
/-! ### what is due -/
def minOf : List Int → Int
  | [] => 0
  | [a] => a
  | a :: b :: r => if a ≤ minOf (b :: r) then a else minOf (b :: r)
theorem minOf_spec : ∀ (bs : List Int), bs ≠ [] → minOf bs ∈ bs ∧ ∀ y ∈ bs, minOf bs ≤ y
  | [], h => absurd rfl h
  | [a], _ => by simp [minOf]
  | a :: b :: r, _ => by
    obtain ⟨h1, h2⟩ := minOf_spec (b :: r) (by simp)
    unfold minOf
    split
    · refine ⟨by simp, fun y hy => ?_⟩
      rcases List.mem_cons.mp hy with e | hy
      · omega
      · have := h2 y hy; omega
    · refine ⟨List.mem_cons_of_mem _ h1, fun y hy => ?_⟩
      rcases List.mem_cons.mp hy with e | hy
      · omega
      · exact h2 y hy
theorem minOf_eq {bs : List Int} {m : Int} (h1 : m ∈ bs) (h2 : ∀ y ∈ bs, m ≤ y) : m = minOf bs := by
  obtain ⟨h3, h4⟩ := minOf_spec bs (fun e => by rw [e] at h1; simp at h1)
  have := h2 _ h3
  have := h4 _ h1
  omega
def told (a : String) (d : D) : D := .tuple [.str a, d]
def dueF (rs : List (List Int)) (dm : List Dem) : D := match rs with
  | [] => told "raised" (.str "void")
  | _ => match rs.filter fun r => dm.all (kp r) with
    | [] => told "raised" (.str "barred")
    | g :: gs => told "told" (eV ((List.range g.length).map fun k => minOf ((g :: gs).map (at0 · k))))
theorem all_kp {dm : List Dem} {r : List Int} : dm.all (kp r) = true ↔ ∀ d ∈ dm, d.2 ≤ at0 r d.1 := by simp [List.all_eq_true, kp]
/-- THE LAW of least_record -/
theorem due_void {s : Sc} {dm : List Dem} {v0 : List Int} (h0 : IsLed s [] v0) (hb : bey s v0 = true) : dueF (recs s) dm = told "raised" (.str "void") := by
  have : recs s = [] := List.eq_nil_iff_forall_not_mem.mpr fun w hw => led_none h0 hb w hw (by simp)
  rw [this]; rfl
theorem recs_ne {s : Sc} {v0 : List Int} (h0 : IsLed s [] v0) (hb : bey s v0 = false) : recs s ≠ [] := fun e => by
  have := ((led_rec h0).mp hb).1
  rw [e] at this; simp at this
theorem due_barred {s : Sc} {dm : List Dem} {v0 v : List Int} (h0 : IsLed s [] v0) (hb0 : bey s v0 = false) (h : IsLed s dm v) (hb : bey s v = true) : dueF (recs s) dm = told "raised" (.str "barred") := by
  have e : (recs s).filter (fun r => dm.all (kp r)) = [] := List.filter_eq_nil_iff.mpr fun w hw z => led_none h hb w hw (all_kp.mp z)
  unfold dueF
  split
  · rename_i z; exact absurd z (recs_ne h0 hb0)
  · rw [e]
theorem due_told {s : Sc} {dm : List Dem} {v0 v : List Int} (h0 : IsLed s [] v0) (hb0 : bey s v0 = false) (h : IsLed s dm v) (hb : bey s v = false) : dueF (recs s) dm = told "told" (eV v) := by
  have hv := (led_rec h).mp hb
  have hg : v ∈ (recs s).filter (fun r => dm.all (kp r)) := List.mem_filter.mpr ⟨hv.1, all_kp.mpr hv.2⟩
  unfold dueF
  split
  · rename_i z; exact absurd z (recs_ne h0 hb0)
  · split
    · rename_i z; rw [z] at hg; simp at hg
    · rename_i g gs z
      rw [z] at hg
      have hgl : g.length = v.length := by
        have : g ∈ (recs s).filter (fun r => dm.all (kp r)) := by rw [z]; simp
        have := (mem_recs.mp (List.mem_filter.mp this).1).1
        rw [(in_iff.mp this).1, h.len]
      have : ((List.range g.length).map fun k => minOf ((g :: gs).map (at0 · k))) = v := by
        refine ext0 (by simp [hgl]) fun k hk => ?_
        have hk' : k < v.length := by simpa [hgl] using hk
        have e1 : at0 ((List.range g.length).map fun k => minOf ((g :: gs).map (at0 · k))) k = minOf ((g :: gs).map (at0 · k)) := by
          unfold at0
          rw [List.getD_eq_getElem?_getD, List.getElem?_map, List.getElem?_range (by omega)]
          rfl
        rw [e1]
        refine (minOf_eq (List.mem_map.mpr ⟨v, hg, rfl⟩) fun y hy => ?_).symm
        obtain ⟨r, hr, rfl⟩ := List.mem_map.mp hy
        have hr' : r ∈ (recs s).filter (fun r => dm.all (kp r)) := by rw [z]; exact hr
        obtain ⟨r1, r2⟩ := List.mem_filter.mp hr'
        obtain ⟨q1, q2, q3⟩ := recs_iff.mp ⟨r1, all_kp.mp r2⟩
        exact h.least r q1 q2 k (by rw [← h.len]; exact hk')
      rw [this]
end K07

set_option maxRecDepth 100000
set_option maxHeartbeats 4000000
namespace K07
open PySem PySem.Spec PyProof.Rows L2 Dt
theorem Sc.Ok.ixs {s : Sc} (h : s.Ok) : s.Ix := h.ix
def xv (t : String) : Exn := ⟨"BadStep", [("word", .str t)]⟩
def sp_is_void : FSp := nd [.fr] .fr (fun s => [eS s]) Sc.Ok fun s d => ∃ v, IsLed s [] v ∧ d = .bool (bey s v)
def sp_need_records : FSp := ndx [.fr] .fr (fun s => [eS s]) Sc.Ok fun s r => ∃ v, IsLed s [] v ∧ r = if bey s v then .error (xv "void") else .ok .none
def RecB (s : Sc) (d : D) (b : Bool) : Prop := b = true ↔ ∃ v ∈ recs s, d = eV v
def sp_is_record : FSp := nd [.fr, .fr] .fr (fun (a : Sc × D) => [eS a.1, a.2]) (fun a => a.1.Ok ∧ flat1 a.2) fun a d => ∃ b, d = .bool b ∧ RecB a.1 a.2 b
def sp_least_record : FSp := ndx [.fr, .fr] .fr (fun (a : Sc × List Dem) => [eS a.1, eDs a.2]) (fun a => a.1.Ok ∧ ∀ d ∈ a.2, d.1 < a.1.fs.length) fun a r => ∃ v0 v, IsLed a.1 [] v0 ∧ (bey a.1 v0 = false → IsLed a.1 a.2 v) ∧
  r = if bey a.1 v0 then .error (xv "void") else if bey a.1 v then .error (xv "barred") else .ok (eV v)
def sp_all_records : FSp := det1 [.fr] .fr (fun s => [eS s]) Sc.Ok fun s => .tuple ((recs s).map eV)
def sp_law_records : FSp := det1 [.fr] .nw (fun s => [eS s]) Sc.Ok fun s => .list ((recs s).map eV)
def sp_law_least : FSp := det1 [.fr, .fr] .fr (fun (a : Sc × List Dem) => [eS a.1, eDs a.2]) (fun a => a.1.Ok ∧ ∀ d ∈ a.2, d.1 < a.1.fs.length) fun a => dueF (recs a.1) a.2
def xnames : List Str := ["BadStep"]
def xflds : List Str := ["word"]
def xtgts : List Str := ["StoreError", "BadStep", "CallError"]
def xsub (_ _ : Str) : Bool := true
def dsq (t : Bool) (dm : List Dem) : D := if t then eDs dm else .list (dm.map eD)
def sp_law_due : FSp := det1 [.fr, .fr] .fr (fun (a : List (List Int) × List Dem × Bool) => [.list (a.1.map eV), dsq a.2.2 a.2.1]) (fun a => (∀ r ∈ a.1, ∀ d ∈ a.2.1, d.1 < r.length) ∧ (∀ r ∈ a.1, ∀ r' ∈ a.1, r.length = r'.length) ∧ ∀ r ∈ a.1, r.length ≤ 1000) fun a => dueF a.1 a.2.1
theorem rowsB : ∀ (fs : List Fld) (init : List (List Int)) (b : Nat), (∀ f ∈ fs, f.2.2 ≤ f.2.1 + 3) → init.length ≤ b → (fs.foldl grow1 init).length ≤ b * 4 ^ fs.length
  | [], init, b, _, h => by simpa using h
  | f :: fs, init, b, hf, h => by
    rw [List.foldl_cons]
    have h1 : (grow1 init f).length ≤ b * 4 := by
      unfold grow1
      have hr : (rng f.2.1 f.2.2).length ≤ 4 := by
        have := hf f (by simp)
        simp only [rng, List.length_map, List.length_range]; omega
      have : ∀ l : List (List Int), (l.flatMap fun r => (rng f.2.1 f.2.2).map fun a => r ++ [a]).length ≤ l.length * 4 := by
        intro l
        induction l with
        | nil => simp
        | cons x l ih => rw [List.flatMap_cons, List.length_append, List.length_map, List.length_cons]; omega
      have := this init
      omega
    have := rowsB fs (grow1 init f) (b * 4) (fun g hg => hf g (List.mem_cons_of_mem _ hg)) h1
    rw [List.length_cons, Nat.pow_succ]
    calc _ ≤ _ := this
      _ = _ := by rw [Nat.mul_assoc, Nat.mul_comm 4]
theorem areA_in : ∀ {fs : List Fld} {d : D}, areA fs d = true ↔ ∃ v, d = eV v ∧ In v fs := by
  have key : ∀ {fs : List Fld} {ds : List D}, (ds.length = fs.length ∧ ((ds.zip fs).all fun p => iw p.1 p.2.2.1 p.2.2.2) = true) ↔ ∃ v : List Int, ds = v.map .int ∧ In v fs := by
    intro fs
    induction fs with
    | nil =>
      intro ds
      constructor
      · rintro ⟨h, _⟩
        exact ⟨[], by simpa using h, trivial⟩
      · rintro ⟨v, e, i⟩
        cases v with
        | nil => subst e; simp
        | cons a v => exact i.elim
    | cons f fs ih =>
      intro ds
      constructor
      · rintro ⟨h, h2⟩
        cases ds with
        | nil => simp at h
        | cons d ds =>
          simp only [List.zip_cons_cons, List.all_cons, Bool.and_eq_true] at h2
          obtain ⟨v, e, i⟩ := ih.mp ⟨by simpa using h, h2.2⟩
          cases d with
          | int z =>
            have hz := h2.1
            simp only [iw, Bool.and_eq_true, decide_eq_true_eq] at hz
            exact ⟨z :: v, by simp [e], hz, i⟩
          | _ => have := h2.1; simp [iw] at this
      · rintro ⟨v, e, i⟩
        cases v with
        | nil => exact i.elim
        | cons a v =>
          obtain ⟨h1, h2⟩ := ih.mpr ⟨v, rfl, i.2⟩
          subst e
          refine ⟨by simpa using h1, ?_⟩
          simp only [List.map_cons, List.zip_cons_cons, List.all_cons, Bool.and_eq_true]
          exact ⟨by simp [iw, i.1], h2⟩
  intro fs d
  unfold areA
  cases d with
  | tuple ds =>
    simp only [Bool.and_eq_true, decide_eq_true_eq, key]
    constructor
    · rintro ⟨v, e, i⟩; exact ⟨v, by rw [e]; rfl, i⟩
    · rintro ⟨v, e, i⟩; exact ⟨v, by simpa [eV] using e, i⟩
  | _ => simp [eV]
theorem eV_inj {v w : List Int} (h : eV v = eV w) : v = w := by
  simp only [eV, PyData.tuple.injEq] at h
  exact (List.map_inj_right (fun a b e => by simpa using e)).mp h
/-- is_void: 0 schema -/
noncomputable def b_is_void : DS :=
  (sRet ((xCall sp_goes_beyond (xCons (xFr 0) (xCons ((xCall sp_led_answers (xCons (xFr 0) (xCons ((xTup xNil)) xNil)))) xNil)))))

/-- need_records: 0 schema -/
noncomputable def b_need_records : DS :=
  (sIf ((xTru ((xCall sp_is_void (xCons (xFr 0) xNil))))) (sRaise "BadStep" ["word"] (xCons (xC (.str "void")) xNil)) sNil)

/-- is_record: 0 schema, 1 thing -/
noncomputable def b_is_record : DS :=
  (sRet ((xAnd ((xCall sp_are_answers (xCons ((xOp2 fIx (xVw 0) (xC (.int 0)))) (xCons (xFr 1) xNil)))) ((xCall sp_keeps_ladders (xCons (xFr 0) (xCons (xFr 1) xNil)))))))

/-- least_record: 0 schema, 1 demands, 2 answers -/
noncomputable def b_least_record : DS :=
  (sSeq (sDrop ((xCall sp_need_records (xCons (xFr 0) xNil))))
  (sSeq (sSet 2 ((xCall sp_led_answers (xCons (xFr 0) (xCons (xFr 1) xNil)))))
  (sSeq (sIf ((xTru ((xCall sp_goes_beyond (xCons (xFr 0) (xCons (xFr 2) xNil)))))) (sRaise "BadStep" ["word"] (xCons (xC (.str "barred")) xNil)) sNil)
  (sRet (xFr 2)))))

/-- all_records: 0 schema, 1 rows, 2 _, 3 low, 4 high, 5 row, 6 answer -/
noncomputable def b_all_records : DS :=
  (sSeq (sSetN 1 ((xLst (xCons ((xTup xNil)) xNil))))
  (sSeq (sFor (xSeq ((xOp2 fIx (xVw 0) (xC (.int 0))))) (dgT 3 (dgCons (dgN 2) (dgCons (dgN 3) (dgCons (dgN 4) dgNil)))) (sSetN 1 (xLc2 (xSeq (xVw 1)) (dgN 5) (xYes) (xRng2 (xCons (xVw 3) (xCons ((xOp2 fAddI (xVw 4) (xC (.int 1)))) xNil))) (dgN 6) (xYes) ((xOp2 fAddT (xVw 5) ((xTup (xCons (xFr 6) xNil))))) [5, 6] [6])))
  (sRet ((xCB fTuple (xCons ((xLc (xSeq (xVw 1)) (dgN 5) ((xTru ((xCall sp_keeps_ladders (xCons (xFr 0) (xCons (xFr 5) xNil)))))) (xFr 5) [5])) xNil))))))
theorem pure_is_void : PureOk sp_is_void b_is_void 1 := by
  rintro ds Q Qx ⟨s, rfl, h, q⟩
  simp only [b_is_void, sp_is_void, nd, sSeq_eq, thenD_cons, sNil, sRet, sRetN, sSet, sSetN, sAsg, sIf, sFor, forD, sDrop, sApp, sExt, sPop, sPop0, sSetIx, sAug, sPar, sMove, sFreeze, sNever, sBreak, sCont, xFr, xVw, xSt, xOw, xTp, xC, xOp1, xOp2, xTup, xLst, xCons, xNil, xCall, xCB, xTst, xTru, xAndT, xOrT, xNotT, xAnd, xOr, xNot, xIf, xChain, xCut, xSome, xNo, xIsi, xLc, xSeq, xRng1, xRng2, xYes, fRng1, fRng2, fSeq, dgN, dgT, dgCons, dgNil, Env.get, Env.put, env0, slOf, wipeR, List.set, List.set_cons_zero, List.set_cons_succ, List.getD_cons_zero, List.getD_cons_succ, List.length_cons, List.length_nil, fBool, fTru, fI20, fI2, fI1, fIsi, fOwL, fInt, fListQ, List.replicate, List.append_nil, List.nil_append, List.cons_append, Bool.false_eq_true, if_false, if_true, reduceIte, Nat.reduceSub, Nat.reduceAdd, true_and, and_true, Nat.zero_add, fLe, fLt, fGe, fGt, fAddI, fSubI, fMulI, fDivI, fModI, fNeg, fIx_t0, fIx_t1, fIx_t2, fIx_t3, xLc2, xZip, fZip, xIndex, fIndex, sRaise, fMulL, fListQ, xIsE, xFld, sTry, sTry0]
  refine ⟨(s, []), rfl, ⟨h.ix, by simp⟩, ?_⟩
  rintro d ⟨v, hv, rfl⟩
  have h1 : s.fs.length ≤ 4 := h.nf
  refine ⟨(s, v), rfl, by show v.length ≤ 1000; rw [hv.len]; show s.fs.length ≤ 1000; omega, ?_⟩
  exact q _ ⟨v, hv, rfl⟩
theorem pure_need_records : PureOk sp_need_records b_need_records 1 := by
  rintro ds Q Qx ⟨s, rfl, h, q, qx⟩
  simp only [b_need_records, sp_need_records, ndx, sRaise, sSeq_eq, thenD_cons, sNil, sRet, sRetN, sSet, sSetN, sAsg, sIf, sFor, forD, sDrop, sApp, sExt, sPop, sPop0, sSetIx, sAug, sPar, sMove, sFreeze, sNever, sBreak, sCont, xFr, xVw, xSt, xOw, xTp, xC, xOp1, xOp2, xTup, xLst, xCons, xNil, xCall, xCB, xTst, xTru, xAndT, xOrT, xNotT, xAnd, xOr, xNot, xIf, xChain, xCut, xSome, xNo, xIsi, xLc, xSeq, xRng1, xRng2, xYes, fRng1, fRng2, fSeq, dgN, dgT, dgCons, dgNil, Env.get, Env.put, env0, slOf, wipeR, List.set, List.set_cons_zero, List.set_cons_succ, List.getD_cons_zero, List.getD_cons_succ, List.length_cons, List.length_nil, fBool, fTru, fI20, fI2, fI1, fIsi, fOwL, fInt, fListQ, List.replicate, List.append_nil, List.nil_append, List.cons_append, Bool.false_eq_true, if_false, if_true, reduceIte, Nat.reduceSub, Nat.reduceAdd, true_and, and_true, Nat.zero_add, fLe, fLt, fGe, fGt, fAddI, fSubI, fMulI, fDivI, fModI, fNeg, fIx_t0, fIx_t1, fIx_t2, fIx_t3, xLc2, xZip, fZip, xIndex, fIndex, sRaise, fMulL, fListQ, xIsE, xFld, sTry, sTry0]
  refine ⟨s, rfl, h, ?_⟩
  rintro d ⟨v, hv, rfl⟩
  simp only [sSeq_eq, thenD_cons, sNil, sRet, sRetN, sSet, sSetN, sAsg, sIf, sFor, forD, sDrop, sApp, sExt, sPop, sPop0, sSetIx, sAug, sPar, sMove, sFreeze, sNever, sBreak, sCont, xFr, xVw, xSt, xOw, xTp, xC, xOp1, xOp2, xTup, xLst, xCons, xNil, xCall, xCB, xTst, xTru, xAndT, xOrT, xNotT, xAnd, xOr, xNot, xIf, xChain, xCut, xSome, xNo, xIsi, xLc, xSeq, xRng1, xRng2, xYes, fRng1, fRng2, fSeq, dgN, dgT, dgCons, dgNil, Env.get, Env.put, env0, slOf, wipeR, List.set, List.set_cons_zero, List.set_cons_succ, List.getD_cons_zero, List.getD_cons_succ, List.length_cons, List.length_nil, fBool, fTru, fI20, fI2, fI1, fIsi, fOwL, fInt, fListQ, List.replicate, List.append_nil, List.nil_append, List.cons_append, Bool.false_eq_true, if_false, if_true, reduceIte, Nat.reduceSub, Nat.reduceAdd, true_and, and_true, Nat.zero_add, fLe, fLt, fGe, fGt, fAddI, fSubI, fMulI, fDivI, fModI, fNeg, fIx_t0, fIx_t1, fIx_t2, fIx_t3, xLc2, xZip, fZip, xIndex, fIndex, sRaise, fMulL, fListQ, xIsE, xFld, sTry, sTry0]
  cases hb : bey s v with
  | true => exact qx _ ⟨v, hv, by rw [hb]; rfl⟩
  | false => exact q _ ⟨v, hv, by rw [hb]; rfl⟩
theorem pure_is_record : PureOk sp_is_record b_is_record 2 := by
  rintro ds Q Qx ⟨⟨s, d⟩, rfl, ⟨h, hd⟩, q⟩
  simp only [b_is_record, sp_is_record, nd, sSeq_eq, thenD_cons, sNil, sRet, sRetN, sSet, sSetN, sAsg, sIf, sFor, forD, sDrop, sApp, sExt, sPop, sPop0, sSetIx, sAug, sPar, sMove, sFreeze, sNever, sBreak, sCont, xFr, xVw, xSt, xOw, xTp, xC, xOp1, xOp2, xTup, xLst, xCons, xNil, xCall, xCB, xTst, xTru, xAndT, xOrT, xNotT, xAnd, xOr, xNot, xIf, xChain, xCut, xSome, xNo, xIsi, xLc, xSeq, xRng1, xRng2, xYes, fRng1, fRng2, fSeq, dgN, dgT, dgCons, dgNil, Env.get, Env.put, env0, slOf, wipeR, List.set, List.set_cons_zero, List.set_cons_succ, List.getD_cons_zero, List.getD_cons_succ, List.length_cons, List.length_nil, fBool, fTru, fI20, fI2, fI1, fIsi, fOwL, fInt, fListQ, List.replicate, List.append_nil, List.nil_append, List.cons_append, Bool.false_eq_true, if_false, if_true, reduceIte, Nat.reduceSub, Nat.reduceAdd, true_and, and_true, Nat.zero_add, fLe, fLt, fGe, fGt, fAddI, fSubI, fMulI, fDivI, fModI, fNeg, fIx_t0, fIx_t1, fIx_t2, fIx_t3, xLc2, xZip, fZip, xIndex, fIndex, sRaise, fMulL, fListQ, xIsE, xFld, sTry, sTry0]
  simp only [eS, sSeq_eq, thenD_cons, sNil, sRet, sRetN, sSet, sSetN, sAsg, sIf, sFor, forD, sDrop, sApp, sExt, sPop, sPop0, sSetIx, sAug, sPar, sMove, sFreeze, sNever, sBreak, sCont, xFr, xVw, xSt, xOw, xTp, xC, xOp1, xOp2, xTup, xLst, xCons, xNil, xCall, xCB, xTst, xTru, xAndT, xOrT, xNotT, xAnd, xOr, xNot, xIf, xChain, xCut, xSome, xNo, xIsi, xLc, xSeq, xRng1, xRng2, xYes, fRng1, fRng2, fSeq, dgN, dgT, dgCons, dgNil, Env.get, Env.put, env0, slOf, wipeR, List.set, List.set_cons_zero, List.set_cons_succ, List.getD_cons_zero, List.getD_cons_succ, List.length_cons, List.length_nil, fBool, fTru, fI20, fI2, fI1, fIsi, fOwL, fInt, fListQ, List.replicate, List.append_nil, List.nil_append, List.cons_append, Bool.false_eq_true, if_false, if_true, reduceIte, Nat.reduceSub, Nat.reduceAdd, true_and, and_true, Nat.zero_add, fLe, fLt, fGe, fGt, fAddI, fSubI, fMulI, fDivI, fModI, fNeg, fIx_t0, fIx_t1, fIx_t2, fIx_t3, xLc2, xZip, fZip, xIndex, fIndex, sRaise, fMulL, fListQ, xIsE, xFld, sTry, sTry0]
  have h1 : s.fs.length ≤ 4 := h.nf
  refine ⟨(s.fs, d), rfl, ⟨hd, by show s.fs.length ≤ 1000; omega⟩, ?_⟩
  simp only [sSeq_eq, thenD_cons, sNil, sRet, sRetN, sSet, sSetN, sAsg, sIf, sFor, forD, sDrop, sApp, sExt, sPop, sPop0, sSetIx, sAug, sPar, sMove, sFreeze, sNever, sBreak, sCont, xFr, xVw, xSt, xOw, xTp, xC, xOp1, xOp2, xTup, xLst, xCons, xNil, xCall, xCB, xTst, xTru, xAndT, xOrT, xNotT, xAnd, xOr, xNot, xIf, xChain, xCut, xSome, xNo, xIsi, xLc, xSeq, xRng1, xRng2, xYes, fRng1, fRng2, fSeq, dgN, dgT, dgCons, dgNil, Env.get, Env.put, env0, slOf, wipeR, List.set, List.set_cons_zero, List.set_cons_succ, List.getD_cons_zero, List.getD_cons_succ, List.length_cons, List.length_nil, fBool, fTru, fI20, fI2, fI1, fIsi, fOwL, fInt, fListQ, List.replicate, List.append_nil, List.nil_append, List.cons_append, Bool.false_eq_true, if_false, if_true, reduceIte, Nat.reduceSub, Nat.reduceAdd, true_and, and_true, Nat.zero_add, fLe, fLt, fGe, fGt, fAddI, fSubI, fMulI, fDivI, fModI, fNeg, fIx_t0, fIx_t1, fIx_t2, fIx_t3, xLc2, xZip, fZip, xIndex, fIndex, sRaise, fMulL, fListQ, xIsE, xFld, sTry, sTry0]
  cases ha : areA s.fs d with
  | false =>
    simp only [sSeq_eq, thenD_cons, sNil, sRet, sRetN, sSet, sSetN, sAsg, sIf, sFor, forD, sDrop, sApp, sExt, sPop, sPop0, sSetIx, sAug, sPar, sMove, sFreeze, sNever, sBreak, sCont, xFr, xVw, xSt, xOw, xTp, xC, xOp1, xOp2, xTup, xLst, xCons, xNil, xCall, xCB, xTst, xTru, xAndT, xOrT, xNotT, xAnd, xOr, xNot, xIf, xChain, xCut, xSome, xNo, xIsi, xLc, xSeq, xRng1, xRng2, xYes, fRng1, fRng2, fSeq, dgN, dgT, dgCons, dgNil, Env.get, Env.put, env0, slOf, wipeR, List.set, List.set_cons_zero, List.set_cons_succ, List.getD_cons_zero, List.getD_cons_succ, List.length_cons, List.length_nil, fBool, fTru, fI20, fI2, fI1, fIsi, fOwL, fInt, fListQ, List.replicate, List.append_nil, List.nil_append, List.cons_append, Bool.false_eq_true, if_false, if_true, reduceIte, Nat.reduceSub, Nat.reduceAdd, true_and, and_true, Nat.zero_add, fLe, fLt, fGe, fGt, fAddI, fSubI, fMulI, fDivI, fModI, fNeg, fIx_t0, fIx_t1, fIx_t2, fIx_t3, xLc2, xZip, fZip, xIndex, fIndex, sRaise, fMulL, fListQ, xIsE, xFld, sTry, sTry0]
    refine q _ ⟨false, rfl, ?_⟩
    unfold RecB
    simp only [Bool.false_eq_true, false_iff]
    rintro ⟨v, hv, e⟩
    have : areA s.fs d = true := areA_in.mpr ⟨v, e, (mem_recs.mp hv).1⟩
    rw [ha] at this; cases this
  | true =>
    simp only [sSeq_eq, thenD_cons, sNil, sRet, sRetN, sSet, sSetN, sAsg, sIf, sFor, forD, sDrop, sApp, sExt, sPop, sPop0, sSetIx, sAug, sPar, sMove, sFreeze, sNever, sBreak, sCont, xFr, xVw, xSt, xOw, xTp, xC, xOp1, xOp2, xTup, xLst, xCons, xNil, xCall, xCB, xTst, xTru, xAndT, xOrT, xNotT, xAnd, xOr, xNot, xIf, xChain, xCut, xSome, xNo, xIsi, xLc, xSeq, xRng1, xRng2, xYes, fRng1, fRng2, fSeq, dgN, dgT, dgCons, dgNil, Env.get, Env.put, env0, slOf, wipeR, List.set, List.set_cons_zero, List.set_cons_succ, List.getD_cons_zero, List.getD_cons_succ, List.length_cons, List.length_nil, fBool, fTru, fI20, fI2, fI1, fIsi, fOwL, fInt, fListQ, List.replicate, List.append_nil, List.nil_append, List.cons_append, Bool.false_eq_true, if_false, if_true, reduceIte, Nat.reduceSub, Nat.reduceAdd, true_and, and_true, Nat.zero_add, fLe, fLt, fGe, fGt, fAddI, fSubI, fMulI, fDivI, fModI, fNeg, fIx_t0, fIx_t1, fIx_t2, fIx_t3, xLc2, xZip, fZip, xIndex, fIndex, sRaise, fMulL, fListQ, xIsE, xFld, sTry, sTry0]
    obtain ⟨v, rfl, hi⟩ := areA_in.mp ha
    have hl := (in_iff.mp hi).1
    refine ⟨(s, v), rfl, fun l hl' => by simp only; rw [hl]; exact h.ix l hl', ?_⟩
    refine q _ ⟨_, rfl, ?_⟩
    unfold RecB
    constructor
    · intro hk; exact ⟨v, mem_recs.mpr ⟨hi, hk⟩, rfl⟩
    · rintro ⟨w, hw, e⟩
      rw [eV_inj e]
      exact (mem_recs.mp hw).2
theorem pure_least_record : PureOk sp_least_record b_least_record 3 := by
  rintro ds Q Qx ⟨⟨s, dm⟩, rfl, ⟨h, hd⟩, q, qx⟩
  simp only [b_least_record, sp_least_record, ndx, sRaise, sSeq_eq, thenD_cons, sNil, sRet, sRetN, sSet, sSetN, sAsg, sIf, sFor, forD, sDrop, sApp, sExt, sPop, sPop0, sSetIx, sAug, sPar, sMove, sFreeze, sNever, sBreak, sCont, xFr, xVw, xSt, xOw, xTp, xC, xOp1, xOp2, xTup, xLst, xCons, xNil, xCall, xCB, xTst, xTru, xAndT, xOrT, xNotT, xAnd, xOr, xNot, xIf, xChain, xCut, xSome, xNo, xIsi, xLc, xSeq, xRng1, xRng2, xYes, fRng1, fRng2, fSeq, dgN, dgT, dgCons, dgNil, Env.get, Env.put, env0, slOf, wipeR, List.set, List.set_cons_zero, List.set_cons_succ, List.getD_cons_zero, List.getD_cons_succ, List.length_cons, List.length_nil, fBool, fTru, fI20, fI2, fI1, fIsi, fOwL, fInt, fListQ, List.replicate, List.append_nil, List.nil_append, List.cons_append, Bool.false_eq_true, if_false, if_true, reduceIte, Nat.reduceSub, Nat.reduceAdd, true_and, and_true, Nat.zero_add, fLe, fLt, fGe, fGt, fAddI, fSubI, fMulI, fDivI, fModI, fNeg, fIx_t0, fIx_t1, fIx_t2, fIx_t3, xLc2, xZip, fZip, xIndex, fIndex, sRaise, fMulL, fListQ, xIsE, xFld, sTry, sTry0]
  simp only at hd q qx
  have h1 : s.fs.length ≤ 4 := h.nf
  refine ⟨s, rfl, h, ?_, ?_⟩
  · rintro d ⟨v0, hv0, e⟩
    split at e
    · cases e
    rename_i hb
    refine ⟨(s, dm), rfl, ⟨h.ix, hd⟩, ?_⟩
    rintro d2 ⟨v, hv, rfl⟩
    refine ⟨(s, v), rfl, by show v.length ≤ 1000; rw [hv.len]; show s.fs.length ≤ 1000; omega, ?_⟩
    simp only [sSeq_eq, thenD_cons, sNil, sRet, sRetN, sSet, sSetN, sAsg, sIf, sFor, forD, sDrop, sApp, sExt, sPop, sPop0, sSetIx, sAug, sPar, sMove, sFreeze, sNever, sBreak, sCont, xFr, xVw, xSt, xOw, xTp, xC, xOp1, xOp2, xTup, xLst, xCons, xNil, xCall, xCB, xTst, xTru, xAndT, xOrT, xNotT, xAnd, xOr, xNot, xIf, xChain, xCut, xSome, xNo, xIsi, xLc, xSeq, xRng1, xRng2, xYes, fRng1, fRng2, fSeq, dgN, dgT, dgCons, dgNil, Env.get, Env.put, env0, slOf, wipeR, List.set, List.set_cons_zero, List.set_cons_succ, List.getD_cons_zero, List.getD_cons_succ, List.length_cons, List.length_nil, fBool, fTru, fI20, fI2, fI1, fIsi, fOwL, fInt, fListQ, List.replicate, List.append_nil, List.nil_append, List.cons_append, Bool.false_eq_true, if_false, if_true, reduceIte, Nat.reduceSub, Nat.reduceAdd, true_and, and_true, Nat.zero_add, fLe, fLt, fGe, fGt, fAddI, fSubI, fMulI, fDivI, fModI, fNeg, fIx_t0, fIx_t1, fIx_t2, fIx_t3, xLc2, xZip, fZip, xIndex, fIndex, sRaise, fMulL, fListQ, xIsE, xFld, sTry, sTry0]
    cases hb2 : bey s v with
    | true => exact qx _ ⟨v0, v, hv0, fun _ => hv, by rw [if_neg hb, if_pos hb2]; rfl⟩
    | false => exact q _ ⟨v0, v, hv0, fun _ => hv, by rw [if_neg hb, if_neg (by rw [hb2]; simp)]⟩
  · rintro x ⟨v0, hv0, e⟩
    split at e
    · rename_i hb
      cases e
      exact qx _ ⟨v0, v0, hv0, fun z => absurd hb (by rw [z]; simp), by rw [if_pos hb]⟩
    · cases e
theorem rng_map {lo hi : Int} : rngD lo (hi + 1 - lo).toNat = (rng lo hi).map .int := by
  simp [rngD, rng, List.map_map, Function.comp_def]
theorem pure_all_records : PureOk sp_all_records b_all_records 7 := by
  rintro ds Q Qx ⟨s, rfl, h, q⟩
  simp only [b_all_records, sp_all_records, det1, sSeq_eq, thenD_cons, sNil, sRet, sRetN, sSet, sSetN, sAsg, sIf, sFor, forD, sDrop, sApp, sExt, sPop, sPop0, sSetIx, sAug, sPar, sMove, sFreeze, sNever, sBreak, sCont, xFr, xVw, xSt, xOw, xTp, xC, xOp1, xOp2, xTup, xLst, xCons, xNil, xCall, xCB, xTst, xTru, xAndT, xOrT, xNotT, xAnd, xOr, xNot, xIf, xChain, xCut, xSome, xNo, xIsi, xLc, xSeq, xRng1, xRng2, xYes, fRng1, fRng2, fSeq, dgN, dgT, dgCons, dgNil, Env.get, Env.put, env0, slOf, wipeR, List.set, List.set_cons_zero, List.set_cons_succ, List.getD_cons_zero, List.getD_cons_succ, List.length_cons, List.length_nil, fBool, fTru, fI20, fI2, fI1, fIsi, fOwL, fInt, fListQ, List.replicate, List.append_nil, List.nil_append, List.cons_append, Bool.false_eq_true, if_false, if_true, reduceIte, Nat.reduceSub, Nat.reduceAdd, true_and, and_true, Nat.zero_add, fLe, fLt, fGe, fGt, fAddI, fSubI, fMulI, fDivI, fModI, fNeg, fIx_t0, fIx_t1, fIx_t2, fIx_t3, xLc2, xZip, fZip, xIndex, fIndex, sRaise, fMulL, fListQ, xIsE, xFld, sTry, sTry0]
  simp only [eS, sSeq_eq, thenD_cons, sNil, sRet, sRetN, sSet, sSetN, sAsg, sIf, sFor, forD, sDrop, sApp, sExt, sPop, sPop0, sSetIx, sAug, sPar, sMove, sFreeze, sNever, sBreak, sCont, xFr, xVw, xSt, xOw, xTp, xC, xOp1, xOp2, xTup, xLst, xCons, xNil, xCall, xCB, xTst, xTru, xAndT, xOrT, xNotT, xAnd, xOr, xNot, xIf, xChain, xCut, xSome, xNo, xIsi, xLc, xSeq, xRng1, xRng2, xYes, fRng1, fRng2, fSeq, dgN, dgT, dgCons, dgNil, Env.get, Env.put, env0, slOf, wipeR, List.set, List.set_cons_zero, List.set_cons_succ, List.getD_cons_zero, List.getD_cons_succ, List.length_cons, List.length_nil, fBool, fTru, fI20, fI2, fI1, fIsi, fOwL, fInt, fListQ, List.replicate, List.append_nil, List.nil_append, List.cons_append, Bool.false_eq_true, if_false, if_true, reduceIte, Nat.reduceSub, Nat.reduceAdd, true_and, and_true, Nat.zero_add, fLe, fLt, fGe, fGt, fAddI, fSubI, fMulI, fDivI, fModI, fNeg, fIx_t0, fIx_t1, fIx_t2, fIx_t3, xLc2, xZip, fZip, xIndex, fIndex, sRaise, fMulL, fListQ, xIsE, xFld, sTry, sTry0]
  refine forD_pre eF (fun pre ρ => ∃ a b c, ρ = ([.fr (eS s), .ow (.list ((pre.foldl grow1 [[]]).map eV)), a, b, c, .un, .un] : Dt.Env)) _ s.fs s.fs [] _ rfl ⟨.un, .un, .un, rfl⟩ ?_ ?_
  · rintro pre f post ρ hall ⟨a, b, c, rfl⟩ N hN
    have hf : f ∈ s.fs := by rw [hall]; simp
    have hpl : pre.length + 1 ≤ 4 := by have h1 := h.nf; rw [hall] at h1; simp at h1; omega
    obtain ⟨g1, g2, g3, g4⟩ := h.lo f hf
    simp only [eF, sSeq_eq, thenD_cons, sNil, sRet, sRetN, sSet, sSetN, sAsg, sIf, sFor, forD, sDrop, sApp, sExt, sPop, sPop0, sSetIx, sAug, sPar, sMove, sFreeze, sNever, sBreak, sCont, xFr, xVw, xSt, xOw, xTp, xC, xOp1, xOp2, xTup, xLst, xCons, xNil, xCall, xCB, xTst, xTru, xAndT, xOrT, xNotT, xAnd, xOr, xNot, xIf, xChain, xCut, xSome, xNo, xIsi, xLc, xSeq, xRng1, xRng2, xYes, fRng1, fRng2, fSeq, dgN, dgT, dgCons, dgNil, Env.get, Env.put, env0, slOf, wipeR, List.set, List.set_cons_zero, List.set_cons_succ, List.getD_cons_zero, List.getD_cons_succ, List.length_cons, List.length_nil, fBool, fTru, fI20, fI2, fI1, fIsi, fOwL, fInt, fListQ, List.replicate, List.append_nil, List.nil_append, List.cons_append, Bool.false_eq_true, if_false, if_true, reduceIte, Nat.reduceSub, Nat.reduceAdd, true_and, and_true, Nat.zero_add, fLe, fLt, fGe, fGt, fAddI, fSubI, fMulI, fDivI, fModI, fNeg, fIx_t0, fIx_t1, fIx_t2, fIx_t3, xLc2, xZip, fZip, xIndex, fIndex, sRaise, fMulL, fListQ, xIsE, xFld, sTry, sTry0]
    have e1 : (((pre ++ [f]).foldl grow1 [[]]).map eV) = ((pre.foldl grow1 [[]]).flatMap fun r => (rng f.2.1 f.2.2).map fun a => eV (r ++ [a])) := by
      rw [List.foldl_append]
      show (grow1 _ f).map eV = _
      simp [grow1, List.map_flatMap, Function.comp_def]
    refine lc2D_all eV (fun r => (rng f.2.1 f.2.2).map fun a => eV (r ++ [a])) _ _ _ (fun r hr k R R0 hk hR => ?_) ?_ ?_
    · simp only [sSeq_eq, thenD_cons, sNil, sRet, sRetN, sSet, sSetN, sAsg, sIf, sFor, forD, sDrop, sApp, sExt, sPop, sPop0, sSetIx, sAug, sPar, sMove, sFreeze, sNever, sBreak, sCont, xFr, xVw, xSt, xOw, xTp, xC, xOp1, xOp2, xTup, xLst, xCons, xNil, xCall, xCB, xTst, xTru, xAndT, xOrT, xNotT, xAnd, xOr, xNot, xIf, xChain, xCut, xSome, xNo, xIsi, xLc, xSeq, xRng1, xRng2, xYes, fRng1, fRng2, fSeq, dgN, dgT, dgCons, dgNil, Env.get, Env.put, env0, slOf, wipeR, List.set, List.set_cons_zero, List.set_cons_succ, List.getD_cons_zero, List.getD_cons_succ, List.length_cons, List.length_nil, fBool, fTru, fI20, fI2, fI1, fIsi, fOwL, fInt, fListQ, List.replicate, List.append_nil, List.nil_append, List.cons_append, Bool.false_eq_true, if_false, if_true, reduceIte, Nat.reduceSub, Nat.reduceAdd, true_and, and_true, Nat.zero_add, fLe, fLt, fGe, fGt, fAddI, fSubI, fMulI, fDivI, fModI, fNeg, fIx_t0, fIx_t1, fIx_t2, fIx_t3, xLc2, xZip, fZip, xIndex, fIndex, sRaise, fMulL, fListQ, xIsE, xFld, sTry, sTry0]
      refine ⟨by omega, ?_, ?_⟩
      · rw [rngD_len]
        simpa [rng] using hk
      · rw [rng_map]
        refine lcD_all PyData.int (fun a => eV (r ++ [a])) _ _ (fun a _ R R0 r1 => ?_) hR
        simp only [sSeq_eq, thenD_cons, sNil, sRet, sRetN, sSet, sSetN, sAsg, sIf, sFor, forD, sDrop, sApp, sExt, sPop, sPop0, sSetIx, sAug, sPar, sMove, sFreeze, sNever, sBreak, sCont, xFr, xVw, xSt, xOw, xTp, xC, xOp1, xOp2, xTup, xLst, xCons, xNil, xCall, xCB, xTst, xTru, xAndT, xOrT, xNotT, xAnd, xOr, xNot, xIf, xChain, xCut, xSome, xNo, xIsi, xLc, xSeq, xRng1, xRng2, xYes, fRng1, fRng2, fSeq, dgN, dgT, dgCons, dgNil, Env.get, Env.put, env0, slOf, wipeR, List.set, List.set_cons_zero, List.set_cons_succ, List.getD_cons_zero, List.getD_cons_succ, List.length_cons, List.length_nil, fBool, fTru, fI20, fI2, fI1, fIsi, fOwL, fInt, fListQ, List.replicate, List.append_nil, List.nil_append, List.cons_append, Bool.false_eq_true, if_false, if_true, reduceIte, Nat.reduceSub, Nat.reduceAdd, true_and, and_true, Nat.zero_add, fLe, fLt, fGe, fGt, fAddI, fSubI, fMulI, fDivI, fModI, fNeg, fIx_t0, fIx_t1, fIx_t2, fIx_t3, xLc2, xZip, fZip, xIndex, fIndex, sRaise, fMulL, fListQ, xIsE, xFld, sTry, sTry0, fAddT, eV]
        have hl := (in_iff.mp (mem_rows.mp (show r ∈ rowsOf pre from hr))).1
        refine ⟨by rw [List.length_map, sizeLine_eq, hl]; omega, ?_⟩
        simpa [eV] using r1
    · have hB := rowsB (pre ++ [f]) [[]] 1 (fun x hx => (h.lo x (by rw [hall]; rcases List.mem_append.mp hx with z | z; exact List.mem_append_left _ z; rw [List.mem_singleton.mp z]; simp)).2.1) (by simp)
      rw [← e1, List.length_map, Nat.zero_add, sizeLine_eq]
      have : 4 ^ (pre ++ [f]).length ≤ 4 ^ 4 := Nat.pow_le_pow_right (by decide) (by simp; omega)
      omega
    · exact hN _ ⟨_, _, _, by rw [e1]⟩
  · rintro ρ ⟨a, b, c, rfl⟩
    simp only [sSeq_eq, thenD_cons, sNil, sRet, sRetN, sSet, sSetN, sAsg, sIf, sFor, forD, sDrop, sApp, sExt, sPop, sPop0, sSetIx, sAug, sPar, sMove, sFreeze, sNever, sBreak, sCont, xFr, xVw, xSt, xOw, xTp, xC, xOp1, xOp2, xTup, xLst, xCons, xNil, xCall, xCB, xTst, xTru, xAndT, xOrT, xNotT, xAnd, xOr, xNot, xIf, xChain, xCut, xSome, xNo, xIsi, xLc, xSeq, xRng1, xRng2, xYes, fRng1, fRng2, fSeq, dgN, dgT, dgCons, dgNil, Env.get, Env.put, env0, slOf, wipeR, List.set, List.set_cons_zero, List.set_cons_succ, List.getD_cons_zero, List.getD_cons_succ, List.length_cons, List.length_nil, fBool, fTru, fI20, fI2, fI1, fIsi, fOwL, fInt, fListQ, List.replicate, List.append_nil, List.nil_append, List.cons_append, Bool.false_eq_true, if_false, if_true, reduceIte, Nat.reduceSub, Nat.reduceAdd, true_and, and_true, Nat.zero_add, fLe, fLt, fGe, fGt, fAddI, fSubI, fMulI, fDivI, fModI, fNeg, fIx_t0, fIx_t1, fIx_t2, fIx_t3, xLc2, xZip, fZip, xIndex, fIndex, sRaise, fMulL, fListQ, xIsE, xFld, sTry, sTry0]
    refine lcD_filter eV (kl s) eV _ _ (fun v hv R R0 r1 r0 => ?_) ?_
    · simp only [sSeq_eq, thenD_cons, sNil, sRet, sRetN, sSet, sSetN, sAsg, sIf, sFor, forD, sDrop, sApp, sExt, sPop, sPop0, sSetIx, sAug, sPar, sMove, sFreeze, sNever, sBreak, sCont, xFr, xVw, xSt, xOw, xTp, xC, xOp1, xOp2, xTup, xLst, xCons, xNil, xCall, xCB, xTst, xTru, xAndT, xOrT, xNotT, xAnd, xOr, xNot, xIf, xChain, xCut, xSome, xNo, xIsi, xLc, xSeq, xRng1, xRng2, xYes, fRng1, fRng2, fSeq, dgN, dgT, dgCons, dgNil, Env.get, Env.put, env0, slOf, wipeR, List.set, List.set_cons_zero, List.set_cons_succ, List.getD_cons_zero, List.getD_cons_succ, List.length_cons, List.length_nil, fBool, fTru, fI20, fI2, fI1, fIsi, fOwL, fInt, fListQ, List.replicate, List.append_nil, List.nil_append, List.cons_append, Bool.false_eq_true, if_false, if_true, reduceIte, Nat.reduceSub, Nat.reduceAdd, true_and, and_true, Nat.zero_add, fLe, fLt, fGe, fGt, fAddI, fSubI, fMulI, fDivI, fModI, fNeg, fIx_t0, fIx_t1, fIx_t2, fIx_t3, xLc2, xZip, fZip, xIndex, fIndex, sRaise, fMulL, fListQ, xIsE, xFld, sTry, sTry0]
      have hi := mem_rows.mp (show v ∈ rowsOf s.fs from hv)
      refine ⟨(s, v), rfl, fun l hl => by simp only; rw [(in_iff.mp hi).1]; exact h.ix l hl, ?_⟩
      simp only [sSeq_eq, thenD_cons, sNil, sRet, sRetN, sSet, sSetN, sAsg, sIf, sFor, forD, sDrop, sApp, sExt, sPop, sPop0, sSetIx, sAug, sPar, sMove, sFreeze, sNever, sBreak, sCont, xFr, xVw, xSt, xOw, xTp, xC, xOp1, xOp2, xTup, xLst, xCons, xNil, xCall, xCB, xTst, xTru, xAndT, xOrT, xNotT, xAnd, xOr, xNot, xIf, xChain, xCut, xSome, xNo, xIsi, xLc, xSeq, xRng1, xRng2, xYes, fRng1, fRng2, fSeq, dgN, dgT, dgCons, dgNil, Env.get, Env.put, env0, slOf, wipeR, List.set, List.set_cons_zero, List.set_cons_succ, List.getD_cons_zero, List.getD_cons_succ, List.length_cons, List.length_nil, fBool, fTru, fI20, fI2, fI1, fIsi, fOwL, fInt, fListQ, List.replicate, List.append_nil, List.nil_append, List.cons_append, Bool.false_eq_true, if_false, if_true, reduceIte, Nat.reduceSub, Nat.reduceAdd, true_and, and_true, Nat.zero_add, fLe, fLt, fGe, fGt, fAddI, fSubI, fMulI, fDivI, fModI, fNeg, fIx_t0, fIx_t1, fIx_t2, fIx_t3, xLc2, xZip, fZip, xIndex, fIndex, sRaise, fMulL, fListQ, xIsE, xFld, sTry, sTry0]
      cases hk : kl s v with
      | true => simp only [sSeq_eq, thenD_cons, sNil, sRet, sRetN, sSet, sSetN, sAsg, sIf, sFor, forD, sDrop, sApp, sExt, sPop, sPop0, sSetIx, sAug, sPar, sMove, sFreeze, sNever, sBreak, sCont, xFr, xVw, xSt, xOw, xTp, xC, xOp1, xOp2, xTup, xLst, xCons, xNil, xCall, xCB, xTst, xTru, xAndT, xOrT, xNotT, xAnd, xOr, xNot, xIf, xChain, xCut, xSome, xNo, xIsi, xLc, xSeq, xRng1, xRng2, xYes, fRng1, fRng2, fSeq, dgN, dgT, dgCons, dgNil, Env.get, Env.put, env0, slOf, wipeR, List.set, List.set_cons_zero, List.set_cons_succ, List.getD_cons_zero, List.getD_cons_succ, List.length_cons, List.length_nil, fBool, fTru, fI20, fI2, fI1, fIsi, fOwL, fInt, fListQ, List.replicate, List.append_nil, List.nil_append, List.cons_append, Bool.false_eq_true, if_false, if_true, reduceIte, Nat.reduceSub, Nat.reduceAdd, true_and, and_true, Nat.zero_add, fLe, fLt, fGe, fGt, fAddI, fSubI, fMulI, fDivI, fModI, fNeg, fIx_t0, fIx_t1, fIx_t2, fIx_t3, xLc2, xZip, fZip, xIndex, fIndex, sRaise, fMulL, fListQ, xIsE, xFld, sTry, sTry0]; exact r1 hk
      | false => simp only [sSeq_eq, thenD_cons, sNil, sRet, sRetN, sSet, sSetN, sAsg, sIf, sFor, forD, sDrop, sApp, sExt, sPop, sPop0, sSetIx, sAug, sPar, sMove, sFreeze, sNever, sBreak, sCont, xFr, xVw, xSt, xOw, xTp, xC, xOp1, xOp2, xTup, xLst, xCons, xNil, xCall, xCB, xTst, xTru, xAndT, xOrT, xNotT, xAnd, xOr, xNot, xIf, xChain, xCut, xSome, xNo, xIsi, xLc, xSeq, xRng1, xRng2, xYes, fRng1, fRng2, fSeq, dgN, dgT, dgCons, dgNil, Env.get, Env.put, env0, slOf, wipeR, List.set, List.set_cons_zero, List.set_cons_succ, List.getD_cons_zero, List.getD_cons_succ, List.length_cons, List.length_nil, fBool, fTru, fI20, fI2, fI1, fIsi, fOwL, fInt, fListQ, List.replicate, List.append_nil, List.nil_append, List.cons_append, Bool.false_eq_true, if_false, if_true, reduceIte, Nat.reduceSub, Nat.reduceAdd, true_and, and_true, Nat.zero_add, fLe, fLt, fGe, fGt, fAddI, fSubI, fMulI, fDivI, fModI, fNeg, fIx_t0, fIx_t1, fIx_t2, fIx_t3, xLc2, xZip, fZip, xIndex, fIndex, sRaise, fMulL, fListQ, xIsE, xFld, sTry, sTry0]; exact r0 hk
    · exact q
section
variable {P : Program} {w : World} {K : PySem.W.Frag} {mg : Str → Option Value} {base : Heap} {T : Tape}
abbrev s_is_void : Stmt := top 15
theorem sc_is_void : FnScope ["schema"] ["schema"] (defScope s_is_void) := ⟨rfl, rfl, rfl, by decide +kernel, rfl, by decide +kernel, by decide +kernel⟩
theorem ok_is_void (D : DefD K mg "is_void" s_is_void ["schema"]) (bn : Bn mg) (h_goes_beyond : FnD P w K mg base T "goes_beyond" 1 sp_goes_beyond) (h_led_answers : FnD P w K mg base T "led_answers" 2 sp_led_answers) : FnD P w K mg base T "is_void" 3 sp_is_void := by
  refine fnD (N := ["schema"]) (B := b_is_void) D sc_is_void rfl (.inl rfl) (fun f cdv A outer s H E hr => ?_) pure_is_void
  have nd := sc_is_void.nd
  have tk : Takes (cxOf (L2.CX P w) P w K mg base ["schema"] "is_void" (defScope s_is_void) f cdv A outer s H E) (fun c d _ H => E c d H) := takes_of rfl rfl rfl rfl
  exact (pssx_one (psx_ret (px_callF h_goes_beyond tk (hr.mono (by decide)) (by rfl) (pax_cons (k := .fr) (px_fr 0 (pv 0)) (pax_cons (k := .fr) (px_callF h_led_answers tk (hr.mono (by decide)) (by rfl) (pax_cons (k := .fr) (px_fr 0 (pv 0)) (pax_cons (k := .fr) (px_tup pax_nil) pax_nil))) pax_nil))) (.inl rfl)))

abbrev s_need_records : Stmt := top 16
theorem sc_need_records : FnScope ["schema"] ["schema"] (defScope s_need_records) := ⟨rfl, rfl, rfl, by decide +kernel, rfl, by decide +kernel, by decide +kernel⟩
theorem ok_need_records (D : DefD K mg "need_records" s_need_records ["schema"]) (bn : Bn mg) (h_is_void : FnD P w K mg base T "is_void" 3 sp_is_void) (x_BadStep : XCls P w K mg base "BadStep" ["word"]) : FnD P w K mg base T "need_records" 4 sp_need_records := by
  refine fnD (N := ["schema"]) (B := b_need_records) D sc_need_records rfl (.inl rfl) (fun f cdv A outer s H E hr => ?_) pure_need_records
  have nd := sc_need_records.nd
  have tk : Takes (cxOf (L2.CX P w) P w K mg base ["schema"] "need_records" (defScope s_need_records) f cdv A outer s H E) (fun c d _ H => E c d H) := takes_of rfl rfl rfl rfl
  exact (pssx_one (psx_if (ptx_tru (PX.frVw (px_callF h_is_void tk (hr.mono (by decide)) (by rfl) (pax_cons (k := .fr) (px_fr 0 (pv 0)) pax_nil)))) (pssx_one (psx_raise rfl tk x_BadStep hr (by rfl) (pax_cons (k := .fr) px_str pax_nil))) pssx_nil))

abbrev s_is_record : Stmt := top 19
theorem sc_is_record : FnScope ["schema", "thing"] ["schema", "thing"] (defScope s_is_record) := ⟨rfl, rfl, rfl, by decide +kernel, rfl, by decide +kernel, by decide +kernel⟩
theorem ok_is_record (D : DefD K mg "is_record" s_is_record ["schema", "thing"]) (bn : Bn mg) (h_keeps_ladders : FnD P w K mg base T "keeps_ladders" 2 sp_keeps_ladders) (h_are_answers : FnD P w K mg base T "are_answers" 3 sp_are_answers) : FnD P w K mg base T "is_record" 4 sp_is_record := by
  refine fnD (N := ["schema", "thing"]) (B := b_is_record) D sc_is_record rfl (.inl rfl) (fun f cdv A outer s H E hr => ?_) pure_is_record
  have nd := sc_is_record.nd
  have tk : Takes (cxOf (L2.CX P w) P w K mg base ["schema", "thing"] "is_record" (defScope s_is_record) f cdv A outer s H E) (fun c d _ H => E c d H) := takes_of rfl rfl rfl rfl
  exact (pssx_one (psx_ret (px_and (PX.frVw (px_callF h_are_answers tk (hr.mono (by decide)) (by rfl) (pax_cons (k := .fr) (px_ix (px_vw 0 (pv 0)) (PX.frVw px_int)) (pax_cons (k := .fr) (px_fr 1 (pv 1)) pax_nil)))) (px_one (px_callF h_keeps_ladders tk (hr.mono (by decide)) (by rfl) (pax_cons (k := .fr) (px_fr 0 (pv 0)) (pax_cons (k := .fr) (px_fr 1 (pv 1)) pax_nil))))) (.inl rfl)))

abbrev s_least_record : Stmt := top 20
theorem sc_least_record : FnScope ["schema", "demands", "answers"] ["schema", "demands"] (defScope s_least_record) := ⟨rfl, rfl, rfl, by decide +kernel, rfl, by decide +kernel, by decide +kernel⟩
theorem ok_least_record (D : DefD K mg "least_record" s_least_record ["schema", "demands"]) (bn : Bn mg) (h_need_records : FnD P w K mg base T "need_records" 4 sp_need_records) (h_led_answers : FnD P w K mg base T "led_answers" 2 sp_led_answers) (h_goes_beyond : FnD P w K mg base T "goes_beyond" 1 sp_goes_beyond) (x_BadStep : XCls P w K mg base "BadStep" ["word"]) : FnD P w K mg base T "least_record" 5 sp_least_record := by
  refine fnD (N := ["schema", "demands", "answers"]) (B := b_least_record) D sc_least_record rfl (.inl rfl) (fun f cdv A outer s H E hr => ?_) pure_least_record
  have nd := sc_least_record.nd
  have tk : Takes (cxOf (L2.CX P w) P w K mg base ["schema", "demands", "answers"] "least_record" (defScope s_least_record) f cdv A outer s H E) (fun c d _ H => E c d H) := takes_of rfl rfl rfl rfl
  exact (pssx_cons (psx_expr (px_callF h_need_records tk (hr.mono (by decide)) (by rfl) (pax_cons (k := .fr) (px_fr 0 (pv 0)) pax_nil)))
  (pssx_cons (psx_set 2 nd rfl (by first | exact Or.inl rfl | exact Or.inr rfl) (px_callF h_led_answers tk (hr.mono (by decide)) (by rfl) (pax_cons (k := .fr) (px_fr 0 (pv 0)) (pax_cons (k := .fr) (px_fr 1 (pv 1)) pax_nil))))
  (pssx_cons (psx_if (ptx_tru (PX.frVw (px_callF h_goes_beyond tk (hr.mono (by decide)) (by rfl) (pax_cons (k := .fr) (px_fr 0 (pv 0)) (pax_cons (k := .fr) (px_fr 2 (pv 2)) pax_nil))))) (pssx_one (psx_raise rfl tk x_BadStep hr (by rfl) (pax_cons (k := .fr) px_str pax_nil))) pssx_nil)
  (pssx_one (psx_ret (px_fr 2 (pv 2)) (.inl rfl))))))

abbrev s_all_records : Stmt := top 21
theorem sc_all_records : FnScope ["schema", "rows", "_", "low", "high", "row", "answer"] ["schema"] (defScope s_all_records) := ⟨rfl, rfl, rfl, by decide +kernel, rfl, by decide +kernel, by decide +kernel⟩
theorem ok_all_records (D : DefD K mg "all_records" s_all_records ["schema"]) (bn : Bn mg) (h_keeps_ladders : FnD P w K mg base T "keeps_ladders" 2 sp_keeps_ladders) : FnD P w K mg base T "all_records" 3 sp_all_records := by
  refine fnD (N := ["schema", "rows", "_", "low", "high", "row", "answer"]) (B := b_all_records) D sc_all_records rfl (.inl rfl) (fun f cdv A outer s H E hr => ?_) pure_all_records
  have nd := sc_all_records.nd
  have tk : Takes (cxOf (L2.CX P w) P w K mg base ["schema", "rows", "_", "low", "high", "row", "answer"] "all_records" (defScope s_all_records) f cdv A outer s H E) (fun c d _ H => E c d H) := takes_of rfl rfl rfl rfl
  exact (pssx_cons (psx_setN 1 nd rfl (by first | exact Or.inl rfl | exact Or.inr rfl) (px_lst (pax_cons (k := .fr) (px_tup pax_nil) pax_nil)))
  (pssx_cons (psx_for (passes_of rfl) rfl (pix_seq (m := true) (PX.frSt (px_ix (px_vw 0 (pv 0)) (PX.frVw px_int)))) (pgx_t rfl (pgsx_cons (pgx_n 2 (pg_name nd rfl (by first | exact Or.inl rfl | exact Or.inr rfl))) (pgsx_cons (pgx_n 3 (pg_name nd rfl (by first | exact Or.inl rfl | exact Or.inr rfl))) (pgsx_cons (pgx_n 4 (pg_name nd rfl (by first | exact Or.inl rfl | exact Or.inr rfl))) pgsx_nil))) 3) (pssx_one (psx_setLc2 1 [6] (own := [("row", 5), ("answer", 6)]) rfl nd rfl rfl (sw_true rfl rfl rfl (by decide +kernel)) (pix_seq (m := false) (px_vw 1 (pv 1))) (blkOk_by (by first | (change blkC ["schema", "rows", "_", "low", "high", "row", "answer"] (defScope s_all_records) _ _ = true; decide +kernel) | rfl)) (fun _ _ _ _ _ => (pgx_n 5 (pg_name nd rfl (by first | exact Or.inl rfl | exact Or.inr rfl)))) (fun _ _ _ _ _ => ptsx_nil) (fun _ _ _ _ _ => (pix_range2 (m := true) (by rfl) bn.range (pax_cons (k := .vw) (px_vw 3 (pv 3)) (pax_cons (k := .vw) (PX.frVw (px_addI (px_vw 4 (pv 4)) (PX.frVw px_int))) pax_nil)))) (fun _ _ _ _ _ => (pgx_n 6 (pg_name nd rfl (by first | exact Or.inl rfl | exact Or.inr rfl)))) (fun _ _ _ _ _ => ptsx_nil) (fun _ _ _ _ _ => (px_addT (px_vw 5 (pv 5)) (PX.frVw (px_tup (pax_cons (k := .fr) (px_fr 6 (pv 6)) pax_nil))))))))
  (pssx_one (psx_ret (px_ty call_tuple_of rc_tuple (by rfl) bn.tuple PyProof.Rows.boot_tuple (pax_cons (k := .vw) (PX.nwVw (px_lc (own := [("row", 5)]) rfl nd (pix_seq (m := false) (px_vw 1 (pv 1))) (blkOk_by (by first | (change blkC ["schema", "rows", "_", "low", "high", "row", "answer"] (defScope s_all_records) _ _ = true; decide +kernel) | rfl)) (fun _ _ _ _ _ => (pgx_n 5 (pg_name nd rfl (by first | exact Or.inl rfl | exact Or.inr rfl)))) (fun _ _ _ _ _ => (ptsx_one (ptx_tru (PX.frVw (px_callF h_keeps_ladders takes0 (hr.mono (by decide)) (by rfl) (pax_cons (k := .fr) (px_fr 0 (pv 0)) (pax_cons (k := .fr) (px_fr 5 (pv 5)) pax_nil))))))) (fun _ _ _ _ _ => (px_fr 5 (pv 5))))) pax_nil)) (.inl rfl)))))
end
end K07

set_option maxRecDepth 100000
set_option maxHeartbeats 4000000
namespace K07
open PySem PySem.Spec PyProof.Rows L2 Dt
/-! ### what two things the same must be: no dict within, few parts -/
mutual
def nodes : D → Nat
  | .list ds => nodesL ds + 1
  | .tuple ds => nodesL ds + 1
  | _ => 1
def nodesL : List D → Nat
  | [] => 0
  | d :: ds => nodes d + nodesL ds
end
mutual
def noD : D → Bool
  | .dict _ => false
  | .str x => PyData.canLay0 (.str x)
  | .list ds => noDL ds
  | .tuple ds => noDL ds
  | _ => true
def noDL : List D → Bool
  | [] => true
  | d :: ds => noD d && noDL ds
end
theorem noDL_mem : ∀ {ds : List D}, noDL ds = true ↔ ∀ d ∈ ds, noD d = true
  | [] => by simp [noDL]
  | d :: ds => by simp [noDL, noDL_mem]
theorem nodesL_app : ∀ (a b : List D), nodesL (a ++ b) = nodesL a + nodesL b
  | [], b => by simp [nodesL]
  | d :: a, b => by simp only [List.cons_append, nodesL, nodesL_app]; omega
theorem nodes_pos : ∀ (d : D), 1 ≤ nodes d
  | .none | .bool _ | .int _ | .str _ | .dict _ => by simp [nodes]
  | .list ds => by simp [nodes]
  | .tuple ds => by simp [nodes]
theorem len_le_nodesL : ∀ (a : List D), a.length ≤ nodesL a
  | [] => by simp
  | d :: a => by have := len_le_nodesL a; have := nodes_pos d; simp only [List.length_cons, nodesL]; omega
structure Small (d : D) : Prop where
  no : noD d = true
  few : nodes d ≤ 100000
def sp_law_same : FSp where
  ks := [.fr, .fr]
  rk := .fr
  f := fun ds Q _ => ∃ d, ds = [d, d] ∧ Small d ∧ Q (.bool true)
  mono := fun ds Q Q' Qx Qx' h hx ⟨d, e, o, q⟩ => ⟨d, e, o, h _ q⟩
def sp_law_is_record : FSp := nd [.fr, .fr, .fr] .fr (fun (a : D × List (List Int) × D) => [a.1, .list (a.2.1.map eV), a.2.2]) (fun a => flat1 a.2.2 ∧ (∀ v ∈ a.2.1, v.length ≤ 1000) ∧ a.2.1.length ≤ 100000) fun a d => ∃ b : Bool, d = .bool b ∧ (b = true ↔ ∃ v ∈ a.2.1, a.2.2 = eV v)
theorem eqvAll_ints : ∀ (v w : List Int), PyData.eqvAll (v.map .int) (w.map .int) = decide (v = w)
  | [], [] => by simp [PyData.eqvAll]
  | [], _ :: _ => by simp [PyData.eqvAll]
  | _ :: _, [] => by simp [PyData.eqvAll]
  | a :: v, b :: w => by
    have := eqvAll_ints v w
    simp only [List.map_cons, PyData.eqvAll, PyData.eqv, this]
    by_cases h1 : a = b <;> by_cases h2 : v = w <;> simp [h1, h2]
theorem shaped_eV (v : List Int) : SeqAt.shaped (eV v) = true := by
  have h1 : ∀ v : List Int, PyData.canLayAll0 (v.map .int) = true := fun v => by
    induction v with
    | nil => rfl
    | cons a v ih => simp [PyData.canLayAll0, PyData.canLay0, ih]
  have h2 : ∀ v : List Int, PyData.depthAll (v.map .int) ≤ 1 := fun v => by
    induction v with
    | nil => simp [PyData.depthAll]
    | cons a v ih => simp only [List.map_cons, PyData.depthAll, PyData.depth]; omega
  have := h2 v
  simp [SeqAt.shaped, eV, PyData.canLay0, h1, PyData.depth]
  omega
theorem shaped_rows (rs : List (List Int)) : SeqAt.shaped (.list (rs.map eV)) = true := by
  have h0 : ∀ v, PyData.canLay0 (eV v) = true ∧ PyData.depth (eV v) ≤ 2 := fun v => by
    have := shaped_eV v
    refine ⟨SeqAt.canLay_of_shaped this, ?_⟩
    have h2 : ∀ v : List Int, PyData.depthAll (v.map .int) ≤ 1 := fun v => by
      induction v with
      | nil => simp [PyData.depthAll]
      | cons a v ih => simp only [List.map_cons, PyData.depthAll, PyData.depth]; omega
    have := h2 v
    simp only [eV, PyData.depth]; omega
  have h1 : PyData.canLayAll0 (rs.map eV) = true ∧ PyData.depthAll (rs.map eV) ≤ 2 := by
    induction rs with
    | nil => exact ⟨rfl, by simp [PyData.depthAll]⟩
    | cons a rs ih =>
      obtain ⟨a1, a2⟩ := h0 a
      refine ⟨by simp [PyData.canLayAll0, a1, ih.1], ?_⟩
      simp only [List.map_cons, PyData.depthAll]; omega
  simp [SeqAt.shaped, PyData.canLay0, h1.1, PyData.depth]
  omega
/-- _law_records: 0 schema, 1 found, 2 name, 3 low, 4 high, 5 one, 6 other, 7 more, 8 answers, 9 answer -/
noncomputable def b__law_records : DS :=
  (sSeq (sSetN 1 ((xLst (xCons ((xTup xNil)) xNil))))
  (sSeq (sFor (xSeq ((xOp2 fIx (xVw 0) (xC (.int 0))))) (dgT 3 (dgCons (dgN 2) (dgCons (dgN 3) (dgCons (dgN 4) dgNil)))) (sSeq (sSetN 7 ((xLst xNil)))
  (sSeq (sFreeze 1 (sFor (xSeq (xSt 1)) (dgN 8) (sExt 7 ((xLc (xRng2 (xCons (xVw 3) (xCons ((xOp2 fAddI (xVw 4) (xC (.int 1)))) xNil))) (dgN 9) (xYes) ((xOp2 fAddT (xVw 8) ((xTup (xCons (xFr 9) xNil))))) [9])))))
  (sMove 1 7))))
  (sSeq (sFor (xSeq ((xOp2 fIx (xVw 0) (xC (.int 1))))) (dgT 2 (dgCons (dgN 5) (dgCons (dgN 6) dgNil))) (sSetN 1 (xLc (xSeq (xVw 1)) (dgN 8) ((xOrT ((xTst (xOp2 fLt ((xOp2 fIx (xVw 8) ((xOp2 fIx (xVw 5) (xC (.int 0)))))) ((xOp2 fIx (xVw 5) (xC (.int 1))))))) ((xTst (xOp2 fGe ((xOp2 fIx (xVw 8) ((xOp2 fIx (xVw 6) (xC (.int 0)))))) ((xOp2 fIx (xVw 6) (xC (.int 1))))))))) (xFr 8) [8])))
  (sRet (xOw 1)))))

/-- _law_least: 0 schema, 1 demands, 2 error -/
noncomputable def b__law_least : DS :=
  (sTry xnames xsub "StoreError" 2 (sRet ((xTup (xCons (xC (.str "told")) (xCons ((xCall sp_least_record (xCons (xFr 0) (xCons (xFr 1) xNil)))) xNil))))) (fun x a d => (sRet ((xIf ((xAndT ((xTru ((xIsE 2 "BadStep" xnames xsub x a d)))) ((xTru ((xIsE 2 "CallError" xnames xsub x a d)))))) ((xTup (xCons (xC (.str "raised")) (xCons ((xFld 2 "word" xnames x a d)) xNil)))) ((xTup (xCons (xC (.str "raised")) (xCons (xC (.str "odd")) xNil)))))))))

/-- _law_is_record: 0 schema, 1 records, 2 thing, 3 part -/
noncomputable def b__law_is_record : DS :=
  (sSeq (sIf ((xOrT ((xNotT ((xTru ((xIsi "tuple" (xVw 2))))))) ((xTst (xOp2 fGt ((xCB fLen (xCons ((xLc (xSeq (xVw 2)) (dgN 3) ((xOrT ((xNotT ((xTru ((xIsi "int" (xVw 3))))))) ((xTru ((xIsi "bool" (xVw 3))))))) (xFr 3) [3])) xNil))) (xC (.int 0))))))) (sRet (xC (.bool false))) sNil)
  (sRet ((xOp2 fIn (xVw 2) (xVw 1)))))

/-- _law_due: 0 records, 1 demands, 2 good, 3 field, 4 answer, 5 record, 6 at -/
noncomputable def b__law_due : DS :=
  (sSeq (sIf ((xTst (xOp2 fEq ((xCB fLen (xCons (xVw 0) xNil))) (xC (.int 0))))) (sRet ((xTup (xCons (xC (.str "raised")) (xCons (xC (.str "void")) xNil))))) sNil)
  (sSeq (sSet 2 (xFr 0))
  (sSeq (sFor (xSeq (xSt 1)) (dgT 2 (dgCons (dgN 3) (dgCons (dgN 4) dgNil))) (sSet 2 (xLc (xSeq (xVw 2)) (dgN 5) ((xTst (xOp2 fGe ((xOp2 fIx (xVw 5) (xVw 3))) (xVw 4)))) (xFr 5) [5])))
  (sSeq (sIf ((xTst (xOp2 fEq ((xCB fLen (xCons (xVw 2) xNil))) (xC (.int 0))))) (sRet ((xTup (xCons (xC (.str "raised")) (xCons (xC (.str "barred")) xNil))))) sNil)
  (sRet ((xTup (xCons (xC (.str "told")) (xCons ((xCB fTuple (xCons ((xLc (xRng1 (xCons ((xCB fLen (xCons ((xOp2 fIx (xVw 2) (xC (.int 0)))) xNil))) xNil)) (dgN 6) (xYes) ((xCB fMinL (xCons ((xLc (xSeq (xVw 2)) (dgN 5) (xYes) ((xOp2 fIx (xVw 5) (xVw 6))) [5])) xNil))) [6])) xNil))) xNil)))))))))
theorem pure__law_records : PureOk sp_law_records b__law_records 10 := by
  rintro ds Q Qx ⟨s, rfl, h, q⟩
  simp only [b__law_records, sp_law_records, det1, sSeq_eq, thenD_cons, sNil, sRet, sRetN, sSet, sSetN, sAsg, sIf, sFor, forD, sDrop, sApp, sExt, sPop, sPop0, sSetIx, sAug, sPar, sMove, sFreeze, sNever, sBreak, sCont, xFr, xVw, xSt, xOw, xTp, xC, xOp1, xOp2, xTup, xLst, xCons, xNil, xCall, xCB, xTst, xTru, xAndT, xOrT, xNotT, xAnd, xOr, xNot, xIf, xChain, xCut, xSome, xNo, xIsi, xLc, xSeq, xRng1, xRng2, xYes, fRng1, fRng2, fSeq, dgN, dgT, dgCons, dgNil, Env.get, Env.put, env0, slOf, wipeR, List.set, List.set_cons_zero, List.set_cons_succ, List.getD_cons_zero, List.getD_cons_succ, List.length_cons, List.length_nil, fBool, fTru, fI20, fI2, fI1, fIsi, fOwL, fInt, fListQ, List.replicate, List.append_nil, List.nil_append, List.cons_append, Bool.false_eq_true, if_false, if_true, reduceIte, Nat.reduceSub, Nat.reduceAdd, true_and, and_true, Nat.zero_add, fLe, fLt, fGe, fGt, fAddI, fSubI, fMulI, fDivI, fModI, fNeg, fIx_t0, fIx_t1, fIx_t2, fIx_t3, xLc2, xZip, fZip, xIndex, fIndex, sRaise, fMulL, fListQ, xIsE, xFld, sTry, sTry0]
  simp only [eS, sSeq_eq, thenD_cons, sNil, sRet, sRetN, sSet, sSetN, sAsg, sIf, sFor, forD, sDrop, sApp, sExt, sPop, sPop0, sSetIx, sAug, sPar, sMove, sFreeze, sNever, sBreak, sCont, xFr, xVw, xSt, xOw, xTp, xC, xOp1, xOp2, xTup, xLst, xCons, xNil, xCall, xCB, xTst, xTru, xAndT, xOrT, xNotT, xAnd, xOr, xNot, xIf, xChain, xCut, xSome, xNo, xIsi, xLc, xSeq, xRng1, xRng2, xYes, fRng1, fRng2, fSeq, dgN, dgT, dgCons, dgNil, Env.get, Env.put, env0, slOf, wipeR, List.set, List.set_cons_zero, List.set_cons_succ, List.getD_cons_zero, List.getD_cons_succ, List.length_cons, List.length_nil, fBool, fTru, fI20, fI2, fI1, fIsi, fOwL, fInt, fListQ, List.replicate, List.append_nil, List.nil_append, List.cons_append, Bool.false_eq_true, if_false, if_true, reduceIte, Nat.reduceSub, Nat.reduceAdd, true_and, and_true, Nat.zero_add, fLe, fLt, fGe, fGt, fAddI, fSubI, fMulI, fDivI, fModI, fNeg, fIx_t0, fIx_t1, fIx_t2, fIx_t3, xLc2, xZip, fZip, xIndex, fIndex, sRaise, fMulL, fListQ, xIsE, xFld, sTry, sTry0]
  refine forD_pre eF (fun pre ρ => ∃ a b c d e, ρ = ([.fr (eS s), .ow (.list ((pre.foldl grow1 [[]]).map eV)), a, b, c, .un, .un, d, e, .un] : Dt.Env)) _ s.fs s.fs [] _ rfl ⟨_, _, _, _, _, rfl⟩ ?_ ?_
  · rintro pre f post ρ hall ⟨a, b, c, d, e, rfl⟩ N hN
    have hf : f ∈ s.fs := by rw [hall]; simp
    have hpl : pre.length + 1 ≤ 4 := by have h1 := h.nf; rw [hall] at h1; simp at h1; omega
    obtain ⟨g1, g2, g3, g4⟩ := h.lo f hf
    have e1 : (((pre ++ [f]).foldl grow1 [[]]).map eV) = ((pre.foldl grow1 [[]]).flatMap fun r => (rng f.2.1 f.2.2).map fun a => eV (r ++ [a])) := by
      rw [List.foldl_append]
      show (grow1 _ f).map eV = _
      simp [grow1, List.map_flatMap, Function.comp_def]
    have hB := rowsB (pre ++ [f]) [[]] 1 (fun x hx => (h.lo x (by rw [hall]; rcases List.mem_append.mp hx with z | z; exact List.mem_append_left _ z; rw [List.mem_singleton.mp z]; simp)).2.1) (by simp)
    have hB2 : ((pre ++ [f]).foldl grow1 [[]]).length ≤ 256 := by
      have : 4 ^ (pre ++ [f]).length ≤ 4 ^ 4 := Nat.pow_le_pow_right (by decide) (by simp; omega)
      omega
    simp only [eF, sSeq_eq, thenD_cons, sNil, sRet, sRetN, sSet, sSetN, sAsg, sIf, sFor, forD, sDrop, sApp, sExt, sPop, sPop0, sSetIx, sAug, sPar, sMove, sFreeze, sNever, sBreak, sCont, xFr, xVw, xSt, xOw, xTp, xC, xOp1, xOp2, xTup, xLst, xCons, xNil, xCall, xCB, xTst, xTru, xAndT, xOrT, xNotT, xAnd, xOr, xNot, xIf, xChain, xCut, xSome, xNo, xIsi, xLc, xSeq, xRng1, xRng2, xYes, fRng1, fRng2, fSeq, dgN, dgT, dgCons, dgNil, Env.get, Env.put, env0, slOf, wipeR, List.set, List.set_cons_zero, List.set_cons_succ, List.getD_cons_zero, List.getD_cons_succ, List.length_cons, List.length_nil, fBool, fTru, fI20, fI2, fI1, fIsi, fOwL, fInt, fListQ, List.replicate, List.append_nil, List.nil_append, List.cons_append, Bool.false_eq_true, if_false, if_true, reduceIte, Nat.reduceSub, Nat.reduceAdd, true_and, and_true, Nat.zero_add, fLe, fLt, fGe, fGt, fAddI, fSubI, fMulI, fDivI, fModI, fNeg, fIx_t0, fIx_t1, fIx_t2, fIx_t3, xLc2, xZip, fZip, xIndex, fIndex, sRaise, fMulL, fListQ, xIsE, xFld, sTry, sTry0]
    refine forD_pre eV (fun done ρ => ∃ e, ρ = ([.fr (eS s), .fr (.list ((pre.foldl grow1 [[]]).map eV)), .fr (.str f.1), .fr (.int f.2.1), .fr (.int f.2.2), .un, .un, .ow (.list (done.flatMap fun r => (rng f.2.1 f.2.2).map fun a => eV (r ++ [a]))), e, .un] : Dt.Env)) _ (pre.foldl grow1 [[]]) (pre.foldl grow1 [[]]) [] _ rfl ⟨_, rfl⟩ ?_ ?_
    · rintro done r rest ρ hall2 ⟨e, rfl⟩ N2 hN2
      simp only [sSeq_eq, thenD_cons, sNil, sRet, sRetN, sSet, sSetN, sAsg, sIf, sFor, forD, sDrop, sApp, sExt, sPop, sPop0, sSetIx, sAug, sPar, sMove, sFreeze, sNever, sBreak, sCont, xFr, xVw, xSt, xOw, xTp, xC, xOp1, xOp2, xTup, xLst, xCons, xNil, xCall, xCB, xTst, xTru, xAndT, xOrT, xNotT, xAnd, xOr, xNot, xIf, xChain, xCut, xSome, xNo, xIsi, xLc, xSeq, xRng1, xRng2, xYes, fRng1, fRng2, fSeq, dgN, dgT, dgCons, dgNil, Env.get, Env.put, env0, slOf, wipeR, List.set, List.set_cons_zero, List.set_cons_succ, List.getD_cons_zero, List.getD_cons_succ, List.length_cons, List.length_nil, fBool, fTru, fI20, fI2, fI1, fIsi, fOwL, fInt, fListQ, List.replicate, List.append_nil, List.nil_append, List.cons_append, Bool.false_eq_true, if_false, if_true, reduceIte, Nat.reduceSub, Nat.reduceAdd, true_and, and_true, Nat.zero_add, fLe, fLt, fGe, fGt, fAddI, fSubI, fMulI, fDivI, fModI, fNeg, fIx_t0, fIx_t1, fIx_t2, fIx_t3, xLc2, xZip, fZip, xIndex, fIndex, sRaise, fMulL, fListQ, xIsE, xFld, sTry, sTry0]
      refine ⟨by omega, ?_⟩
      rw [rng_map]
      refine lcD_all PyData.int (fun a => eV (r ++ [a])) _ _ (fun a _ R R0 r1 => ?_) ?_
      · simp only [sSeq_eq, thenD_cons, sNil, sRet, sRetN, sSet, sSetN, sAsg, sIf, sFor, forD, sDrop, sApp, sExt, sPop, sPop0, sSetIx, sAug, sPar, sMove, sFreeze, sNever, sBreak, sCont, xFr, xVw, xSt, xOw, xTp, xC, xOp1, xOp2, xTup, xLst, xCons, xNil, xCall, xCB, xTst, xTru, xAndT, xOrT, xNotT, xAnd, xOr, xNot, xIf, xChain, xCut, xSome, xNo, xIsi, xLc, xSeq, xRng1, xRng2, xYes, fRng1, fRng2, fSeq, dgN, dgT, dgCons, dgNil, Env.get, Env.put, env0, slOf, wipeR, List.set, List.set_cons_zero, List.set_cons_succ, List.getD_cons_zero, List.getD_cons_succ, List.length_cons, List.length_nil, fBool, fTru, fI20, fI2, fI1, fIsi, fOwL, fInt, fListQ, List.replicate, List.append_nil, List.nil_append, List.cons_append, Bool.false_eq_true, if_false, if_true, reduceIte, Nat.reduceSub, Nat.reduceAdd, true_and, and_true, Nat.zero_add, fLe, fLt, fGe, fGt, fAddI, fSubI, fMulI, fDivI, fModI, fNeg, fIx_t0, fIx_t1, fIx_t2, fIx_t3, xLc2, xZip, fZip, xIndex, fIndex, sRaise, fMulL, fListQ, xIsE, xFld, sTry, sTry0, fAddT, eV]
        have hl := (in_iff.mp (mem_rows.mp (show r ∈ rowsOf pre from by show r ∈ pre.foldl grow1 [[]]; rw [hall2]; simp))).1
        refine ⟨by rw [List.length_map, sizeLine_eq, hl]; omega, ?_⟩
        simpa [eV] using r1
      · refine ⟨?_, hN2 _ ⟨.fr (eV r), by rw [List.flatMap_append]; simp⟩⟩
        have : ((pre ++ [f]).foldl grow1 [[]]).length = (((pre ++ [f]).foldl grow1 [[]]).map eV).length := by simp
        rw [this, e1, hall2] at hB2
        rw [List.flatMap_append, List.length_append, List.flatMap_cons, List.length_append] at hB2
        rw [sizeLine_eq]; omega
    · rintro ρ ⟨e, rfl⟩
      simp only [sSeq_eq, thenD_cons, sNil, sRet, sRetN, sSet, sSetN, sAsg, sIf, sFor, forD, sDrop, sApp, sExt, sPop, sPop0, sSetIx, sAug, sPar, sMove, sFreeze, sNever, sBreak, sCont, xFr, xVw, xSt, xOw, xTp, xC, xOp1, xOp2, xTup, xLst, xCons, xNil, xCall, xCB, xTst, xTru, xAndT, xOrT, xNotT, xAnd, xOr, xNot, xIf, xChain, xCut, xSome, xNo, xIsi, xLc, xSeq, xRng1, xRng2, xYes, fRng1, fRng2, fSeq, dgN, dgT, dgCons, dgNil, Env.get, Env.put, env0, slOf, wipeR, List.set, List.set_cons_zero, List.set_cons_succ, List.getD_cons_zero, List.getD_cons_succ, List.length_cons, List.length_nil, fBool, fTru, fI20, fI2, fI1, fIsi, fOwL, fInt, fListQ, List.replicate, List.append_nil, List.nil_append, List.cons_append, Bool.false_eq_true, if_false, if_true, reduceIte, Nat.reduceSub, Nat.reduceAdd, true_and, and_true, Nat.zero_add, fLe, fLt, fGe, fGt, fAddI, fSubI, fMulI, fDivI, fModI, fNeg, fIx_t0, fIx_t1, fIx_t2, fIx_t3, xLc2, xZip, fZip, xIndex, fIndex, sRaise, fMulL, fListQ, xIsE, xFld, sTry, sTry0]
      exact hN _ ⟨_, _, _, _, _, by rw [e1]⟩
  · rintro ρ ⟨a, b, c, d, e, rfl⟩
    simp only [eS, sSeq_eq, thenD_cons, sNil, sRet, sRetN, sSet, sSetN, sAsg, sIf, sFor, forD, sDrop, sApp, sExt, sPop, sPop0, sSetIx, sAug, sPar, sMove, sFreeze, sNever, sBreak, sCont, xFr, xVw, xSt, xOw, xTp, xC, xOp1, xOp2, xTup, xLst, xCons, xNil, xCall, xCB, xTst, xTru, xAndT, xOrT, xNotT, xAnd, xOr, xNot, xIf, xChain, xCut, xSome, xNo, xIsi, xLc, xSeq, xRng1, xRng2, xYes, fRng1, fRng2, fSeq, dgN, dgT, dgCons, dgNil, Env.get, Env.put, env0, slOf, wipeR, List.set, List.set_cons_zero, List.set_cons_succ, List.getD_cons_zero, List.getD_cons_succ, List.length_cons, List.length_nil, fBool, fTru, fI20, fI2, fI1, fIsi, fOwL, fInt, fListQ, List.replicate, List.append_nil, List.nil_append, List.cons_append, Bool.false_eq_true, if_false, if_true, reduceIte, Nat.reduceSub, Nat.reduceAdd, true_and, and_true, Nat.zero_add, fLe, fLt, fGe, fGt, fAddI, fSubI, fMulI, fDivI, fModI, fNeg, fIx_t0, fIx_t1, fIx_t2, fIx_t3, xLc2, xZip, fZip, xIndex, fIndex, sRaise, fMulL, fListQ, xIsE, xFld, sTry, sTry0]
    refine forD_pre eL (fun pre ρ => ∃ a b c d e f g, ρ = ([.fr (eS s), .ow (.list (((rowsOf s.fs).filter fun v => pre.all fun l => kp v l.2 || !kp v l.1).map eV)), a, b, c, d, e, f, g, .un] : Dt.Env)) _ s.ls s.ls [] _ rfl ⟨a, b, c, .un, .un, d, e, by simp only [List.all_nil]; rw [List.filter_eq_self.mpr (fun _ _ => rfl)]; rfl⟩ ?_ ?_
    · rintro pre l post ρ hall ⟨a, b, c, d, e, f, g, rfl⟩ N hN
      have hl : l ∈ s.ls := by rw [hall]; simp
      simp only [eL, sSeq_eq, thenD_cons, sNil, sRet, sRetN, sSet, sSetN, sAsg, sIf, sFor, forD, sDrop, sApp, sExt, sPop, sPop0, sSetIx, sAug, sPar, sMove, sFreeze, sNever, sBreak, sCont, xFr, xVw, xSt, xOw, xTp, xC, xOp1, xOp2, xTup, xLst, xCons, xNil, xCall, xCB, xTst, xTru, xAndT, xOrT, xNotT, xAnd, xOr, xNot, xIf, xChain, xCut, xSome, xNo, xIsi, xLc, xSeq, xRng1, xRng2, xYes, fRng1, fRng2, fSeq, dgN, dgT, dgCons, dgNil, Env.get, Env.put, env0, slOf, wipeR, List.set, List.set_cons_zero, List.set_cons_succ, List.getD_cons_zero, List.getD_cons_succ, List.length_cons, List.length_nil, fBool, fTru, fI20, fI2, fI1, fIsi, fOwL, fInt, fListQ, List.replicate, List.append_nil, List.nil_append, List.cons_append, Bool.false_eq_true, if_false, if_true, reduceIte, Nat.reduceSub, Nat.reduceAdd, true_and, and_true, Nat.zero_add, fLe, fLt, fGe, fGt, fAddI, fSubI, fMulI, fDivI, fModI, fNeg, fIx_t0, fIx_t1, fIx_t2, fIx_t3, xLc2, xZip, fZip, xIndex, fIndex, sRaise, fMulL, fListQ, xIsE, xFld, sTry, sTry0]
      refine lcD_filter eV (fun v => kp v l.2 || !kp v l.1) eV _ _ (fun v hv R R0 r1 r0 => ?_) ?_
      · have hlen := (in_iff.mp (mem_rows.mp (List.mem_filter.mp hv).1)).1
        have i1 : l.1.1 < v.length := by rw [hlen]; exact (h.ix l hl).1
        have i2 : l.2.1 < v.length := by rw [hlen]; exact (h.ix l hl).2
        simp only [eD, sSeq_eq, thenD_cons, sNil, sRet, sRetN, sSet, sSetN, sAsg, sIf, sFor, forD, sDrop, sApp, sExt, sPop, sPop0, sSetIx, sAug, sPar, sMove, sFreeze, sNever, sBreak, sCont, xFr, xVw, xSt, xOw, xTp, xC, xOp1, xOp2, xTup, xLst, xCons, xNil, xCall, xCB, xTst, xTru, xAndT, xOrT, xNotT, xAnd, xOr, xNot, xIf, xChain, xCut, xSome, xNo, xIsi, xLc, xSeq, xRng1, xRng2, xYes, fRng1, fRng2, fSeq, dgN, dgT, dgCons, dgNil, Env.get, Env.put, env0, slOf, wipeR, List.set, List.set_cons_zero, List.set_cons_succ, List.getD_cons_zero, List.getD_cons_succ, List.length_cons, List.length_nil, fBool, fTru, fI20, fI2, fI1, fIsi, fOwL, fInt, fListQ, List.replicate, List.append_nil, List.nil_append, List.cons_append, Bool.false_eq_true, if_false, if_true, reduceIte, Nat.reduceSub, Nat.reduceAdd, true_and, and_true, Nat.zero_add, fLe, fLt, fGe, fGt, fAddI, fSubI, fMulI, fDivI, fModI, fNeg, fIx_t0, fIx_t1, fIx_t2, fIx_t3, xLc2, xZip, fZip, xIndex, fIndex, sRaise, fMulL, fListQ, xIsE, xFld, sTry, sTry0]
        refine ix_int i1 ?_
        simp only [sSeq_eq, thenD_cons, sNil, sRet, sRetN, sSet, sSetN, sAsg, sIf, sFor, forD, sDrop, sApp, sExt, sPop, sPop0, sSetIx, sAug, sPar, sMove, sFreeze, sNever, sBreak, sCont, xFr, xVw, xSt, xOw, xTp, xC, xOp1, xOp2, xTup, xLst, xCons, xNil, xCall, xCB, xTst, xTru, xAndT, xOrT, xNotT, xAnd, xOr, xNot, xIf, xChain, xCut, xSome, xNo, xIsi, xLc, xSeq, xRng1, xRng2, xYes, fRng1, fRng2, fSeq, dgN, dgT, dgCons, dgNil, Env.get, Env.put, env0, slOf, wipeR, List.set, List.set_cons_zero, List.set_cons_succ, List.getD_cons_zero, List.getD_cons_succ, List.length_cons, List.length_nil, fBool, fTru, fI20, fI2, fI1, fIsi, fOwL, fInt, fListQ, List.replicate, List.append_nil, List.nil_append, List.cons_append, Bool.false_eq_true, if_false, if_true, reduceIte, Nat.reduceSub, Nat.reduceAdd, true_and, and_true, Nat.zero_add, fLe, fLt, fGe, fGt, fAddI, fSubI, fMulI, fDivI, fModI, fNeg, fIx_t0, fIx_t1, fIx_t2, fIx_t3, xLc2, xZip, fZip, xIndex, fIndex, sRaise, fMulL, fListQ, xIsE, xFld, sTry, sTry0]
        by_cases k1 : at0 v l.1.1 < l.1.2
        · simp only [k1, decide_true, sSeq_eq, thenD_cons, sNil, sRet, sRetN, sSet, sSetN, sAsg, sIf, sFor, forD, sDrop, sApp, sExt, sPop, sPop0, sSetIx, sAug, sPar, sMove, sFreeze, sNever, sBreak, sCont, xFr, xVw, xSt, xOw, xTp, xC, xOp1, xOp2, xTup, xLst, xCons, xNil, xCall, xCB, xTst, xTru, xAndT, xOrT, xNotT, xAnd, xOr, xNot, xIf, xChain, xCut, xSome, xNo, xIsi, xLc, xSeq, xRng1, xRng2, xYes, fRng1, fRng2, fSeq, dgN, dgT, dgCons, dgNil, Env.get, Env.put, env0, slOf, wipeR, List.set, List.set_cons_zero, List.set_cons_succ, List.getD_cons_zero, List.getD_cons_succ, List.length_cons, List.length_nil, fBool, fTru, fI20, fI2, fI1, fIsi, fOwL, fInt, fListQ, List.replicate, List.append_nil, List.nil_append, List.cons_append, Bool.false_eq_true, if_false, if_true, reduceIte, Nat.reduceSub, Nat.reduceAdd, true_and, and_true, Nat.zero_add, fLe, fLt, fGe, fGt, fAddI, fSubI, fMulI, fDivI, fModI, fNeg, fIx_t0, fIx_t1, fIx_t2, fIx_t3, xLc2, xZip, fZip, xIndex, fIndex, sRaise, fMulL, fListQ, xIsE, xFld, sTry, sTry0]
          exact r1 (by simp [kp, Int.not_le.mpr k1])
        · simp only [k1, decide_false, sSeq_eq, thenD_cons, sNil, sRet, sRetN, sSet, sSetN, sAsg, sIf, sFor, forD, sDrop, sApp, sExt, sPop, sPop0, sSetIx, sAug, sPar, sMove, sFreeze, sNever, sBreak, sCont, xFr, xVw, xSt, xOw, xTp, xC, xOp1, xOp2, xTup, xLst, xCons, xNil, xCall, xCB, xTst, xTru, xAndT, xOrT, xNotT, xAnd, xOr, xNot, xIf, xChain, xCut, xSome, xNo, xIsi, xLc, xSeq, xRng1, xRng2, xYes, fRng1, fRng2, fSeq, dgN, dgT, dgCons, dgNil, Env.get, Env.put, env0, slOf, wipeR, List.set, List.set_cons_zero, List.set_cons_succ, List.getD_cons_zero, List.getD_cons_succ, List.length_cons, List.length_nil, fBool, fTru, fI20, fI2, fI1, fIsi, fOwL, fInt, fListQ, List.replicate, List.append_nil, List.nil_append, List.cons_append, Bool.false_eq_true, if_false, if_true, reduceIte, Nat.reduceSub, Nat.reduceAdd, true_and, and_true, Nat.zero_add, fLe, fLt, fGe, fGt, fAddI, fSubI, fMulI, fDivI, fModI, fNeg, fIx_t0, fIx_t1, fIx_t2, fIx_t3, xLc2, xZip, fZip, xIndex, fIndex, sRaise, fMulL, fListQ, xIsE, xFld, sTry, sTry0]
          refine ix_int i2 ?_
          simp only [sSeq_eq, thenD_cons, sNil, sRet, sRetN, sSet, sSetN, sAsg, sIf, sFor, forD, sDrop, sApp, sExt, sPop, sPop0, sSetIx, sAug, sPar, sMove, sFreeze, sNever, sBreak, sCont, xFr, xVw, xSt, xOw, xTp, xC, xOp1, xOp2, xTup, xLst, xCons, xNil, xCall, xCB, xTst, xTru, xAndT, xOrT, xNotT, xAnd, xOr, xNot, xIf, xChain, xCut, xSome, xNo, xIsi, xLc, xSeq, xRng1, xRng2, xYes, fRng1, fRng2, fSeq, dgN, dgT, dgCons, dgNil, Env.get, Env.put, env0, slOf, wipeR, List.set, List.set_cons_zero, List.set_cons_succ, List.getD_cons_zero, List.getD_cons_succ, List.length_cons, List.length_nil, fBool, fTru, fI20, fI2, fI1, fIsi, fOwL, fInt, fListQ, List.replicate, List.append_nil, List.nil_append, List.cons_append, Bool.false_eq_true, if_false, if_true, reduceIte, Nat.reduceSub, Nat.reduceAdd, true_and, and_true, Nat.zero_add, fLe, fLt, fGe, fGt, fAddI, fSubI, fMulI, fDivI, fModI, fNeg, fIx_t0, fIx_t1, fIx_t2, fIx_t3, xLc2, xZip, fZip, xIndex, fIndex, sRaise, fMulL, fListQ, xIsE, xFld, sTry, sTry0]
          by_cases k2 : l.2.2 ≤ at0 v l.2.1
          · simp only [k2, decide_true, sSeq_eq, thenD_cons, sNil, sRet, sRetN, sSet, sSetN, sAsg, sIf, sFor, forD, sDrop, sApp, sExt, sPop, sPop0, sSetIx, sAug, sPar, sMove, sFreeze, sNever, sBreak, sCont, xFr, xVw, xSt, xOw, xTp, xC, xOp1, xOp2, xTup, xLst, xCons, xNil, xCall, xCB, xTst, xTru, xAndT, xOrT, xNotT, xAnd, xOr, xNot, xIf, xChain, xCut, xSome, xNo, xIsi, xLc, xSeq, xRng1, xRng2, xYes, fRng1, fRng2, fSeq, dgN, dgT, dgCons, dgNil, Env.get, Env.put, env0, slOf, wipeR, List.set, List.set_cons_zero, List.set_cons_succ, List.getD_cons_zero, List.getD_cons_succ, List.length_cons, List.length_nil, fBool, fTru, fI20, fI2, fI1, fIsi, fOwL, fInt, fListQ, List.replicate, List.append_nil, List.nil_append, List.cons_append, Bool.false_eq_true, if_false, if_true, reduceIte, Nat.reduceSub, Nat.reduceAdd, true_and, and_true, Nat.zero_add, fLe, fLt, fGe, fGt, fAddI, fSubI, fMulI, fDivI, fModI, fNeg, fIx_t0, fIx_t1, fIx_t2, fIx_t3, xLc2, xZip, fZip, xIndex, fIndex, sRaise, fMulL, fListQ, xIsE, xFld, sTry, sTry0]
            exact r1 (by simp [kp, k2])
          · simp only [k2, decide_false, sSeq_eq, thenD_cons, sNil, sRet, sRetN, sSet, sSetN, sAsg, sIf, sFor, forD, sDrop, sApp, sExt, sPop, sPop0, sSetIx, sAug, sPar, sMove, sFreeze, sNever, sBreak, sCont, xFr, xVw, xSt, xOw, xTp, xC, xOp1, xOp2, xTup, xLst, xCons, xNil, xCall, xCB, xTst, xTru, xAndT, xOrT, xNotT, xAnd, xOr, xNot, xIf, xChain, xCut, xSome, xNo, xIsi, xLc, xSeq, xRng1, xRng2, xYes, fRng1, fRng2, fSeq, dgN, dgT, dgCons, dgNil, Env.get, Env.put, env0, slOf, wipeR, List.set, List.set_cons_zero, List.set_cons_succ, List.getD_cons_zero, List.getD_cons_succ, List.length_cons, List.length_nil, fBool, fTru, fI20, fI2, fI1, fIsi, fOwL, fInt, fListQ, List.replicate, List.append_nil, List.nil_append, List.cons_append, Bool.false_eq_true, if_false, if_true, reduceIte, Nat.reduceSub, Nat.reduceAdd, true_and, and_true, Nat.zero_add, fLe, fLt, fGe, fGt, fAddI, fSubI, fMulI, fDivI, fModI, fNeg, fIx_t0, fIx_t1, fIx_t2, fIx_t3, xLc2, xZip, fZip, xIndex, fIndex, sRaise, fMulL, fListQ, xIsE, xFld, sTry, sTry0]
            exact r0 (by simp [kp, k2]; omega)
      · rw [List.filter_filter]
        have e2 : (fun v => (kp v l.2 || !kp v l.1) && pre.all fun l => kp v l.2 || !kp v l.1) = fun v => (pre ++ [l]).all fun l => kp v l.2 || !kp v l.1 := by
          funext v; simp [List.all_append, Bool.and_comm]
        rw [e2]
        exact hN _ ⟨_, _, _, _, _, _, _, rfl⟩
    · rintro ρ ⟨a, b, c, d, e, f, g, rfl⟩
      simp only [sSeq_eq, thenD_cons, sNil, sRet, sRetN, sSet, sSetN, sAsg, sIf, sFor, forD, sDrop, sApp, sExt, sPop, sPop0, sSetIx, sAug, sPar, sMove, sFreeze, sNever, sBreak, sCont, xFr, xVw, xSt, xOw, xTp, xC, xOp1, xOp2, xTup, xLst, xCons, xNil, xCall, xCB, xTst, xTru, xAndT, xOrT, xNotT, xAnd, xOr, xNot, xIf, xChain, xCut, xSome, xNo, xIsi, xLc, xSeq, xRng1, xRng2, xYes, fRng1, fRng2, fSeq, dgN, dgT, dgCons, dgNil, Env.get, Env.put, env0, slOf, wipeR, List.set, List.set_cons_zero, List.set_cons_succ, List.getD_cons_zero, List.getD_cons_succ, List.length_cons, List.length_nil, fBool, fTru, fI20, fI2, fI1, fIsi, fOwL, fInt, fListQ, List.replicate, List.append_nil, List.nil_append, List.cons_append, Bool.false_eq_true, if_false, if_true, reduceIte, Nat.reduceSub, Nat.reduceAdd, true_and, and_true, Nat.zero_add, fLe, fLt, fGe, fGt, fAddI, fSubI, fMulI, fDivI, fModI, fNeg, fIx_t0, fIx_t1, fIx_t2, fIx_t3, xLc2, xZip, fZip, xIndex, fIndex, sRaise, fMulL, fListQ, xIsE, xFld, sTry, sTry0]
      exact q
theorem pure__law_least : PureOk sp_law_least b__law_least 3 := by
  rintro ds Q Qx ⟨⟨s, dm⟩, rfl, ⟨h, hd⟩, q⟩
  simp only [b__law_least, sp_law_least, det1, sSeq_eq, thenD_cons, sNil, sRet, sRetN, sSet, sSetN, sAsg, sIf, sFor, forD, sDrop, sApp, sExt, sPop, sPop0, sSetIx, sAug, sPar, sMove, sFreeze, sNever, sBreak, sCont, xFr, xVw, xSt, xOw, xTp, xC, xOp1, xOp2, xTup, xLst, xCons, xNil, xCall, xCB, xTst, xTru, xAndT, xOrT, xNotT, xAnd, xOr, xNot, xIf, xChain, xCut, xSome, xNo, xIsi, xLc, xSeq, xRng1, xRng2, xYes, fRng1, fRng2, fSeq, dgN, dgT, dgCons, dgNil, Env.get, Env.put, env0, slOf, wipeR, List.set, List.set_cons_zero, List.set_cons_succ, List.getD_cons_zero, List.getD_cons_succ, List.length_cons, List.length_nil, fBool, fTru, fI20, fI2, fI1, fIsi, fOwL, fInt, fListQ, List.replicate, List.append_nil, List.nil_append, List.cons_append, Bool.false_eq_true, if_false, if_true, reduceIte, Nat.reduceSub, Nat.reduceAdd, true_and, and_true, Nat.zero_add, fLe, fLt, fGe, fGt, fAddI, fSubI, fMulI, fDivI, fModI, fNeg, fIx_t0, fIx_t1, fIx_t2, fIx_t3, xLc2, xZip, fZip, xIndex, fIndex, sRaise, fMulL, fListQ, xIsE, xFld, sTry, sTry0]
  refine ⟨(s, dm), rfl, ⟨h, hd⟩, ?_, ?_⟩
  · rintro d ⟨v0, v, h0, hv, e⟩
    split at e
    · cases e
    split at e
    · cases e
    rename_i b0 b1
    cases e
    have b0 : bey s v0 = false := by simpa using b0
    have b1 : bey s v = false := by simpa using b1
    have q : Q (dueF (recs s) dm) := q
    rw [due_told h0 b0 (hv b0) b1] at q
    exact q
  · rintro x ⟨v0, v, h0, hv, e⟩
    split at e
    · rename_i b0
      cases e
      refine ⟨by decide, ?_⟩
      rw [if_pos (show xsub _ _ = true from rfl)]
      intro a d
      have q : Q (dueF (recs s) dm) := q
      rw [due_void h0 b0] at q
      refine ⟨by decide, ?_⟩
      rw [if_pos (show xsub _ _ = true from rfl)]
      refine ⟨by decide, ?_⟩
      rw [if_pos (show xsub _ _ = true from rfl)]
      exact ⟨by decide, _, by simp [xv, List.lookup], q⟩
    · split at e
      · rename_i b0 b1
        cases e
        have b0 : bey s v0 = false := by simpa using b0
        refine ⟨by decide, ?_⟩
        rw [if_pos (show xsub _ _ = true from rfl)]
        intro a d
        have q : Q (dueF (recs s) dm) := q
        rw [due_barred h0 b0 (hv b0) b1] at q
        refine ⟨by decide, ?_⟩
        rw [if_pos (show xsub _ _ = true from rfl)]
        refine ⟨by decide, ?_⟩
        rw [if_pos (show xsub _ _ = true from rfl)]
        exact ⟨by decide, _, by simp [xv, List.lookup], q⟩
      · cases e
theorem ints_of : ∀ {ds : List D}, (ds.filter fun x => !isInt x) = [] → ∃ v : List Int, ds = v.map .int
  | [], _ => ⟨[], rfl⟩
  | d :: ds, h => by
    rw [List.filter_cons] at h
    split at h
    · cases h
    · rename_i hd
      obtain ⟨v, e⟩ := ints_of h
      cases d with
      | int i => exact ⟨i :: v, by rw [e]; rfl⟩
      | _ => simp [isInt] at hd
theorem pure__law_is_record : PureOk sp_law_is_record b__law_is_record 4 := by
  rintro ds Q Qx ⟨⟨e0, rs, d⟩, rfl, ⟨hd, hlen, hn⟩, q⟩
  simp only [b__law_is_record, sp_law_is_record, nd, sSeq_eq, thenD_cons, sNil, sRet, sRetN, sSet, sSetN, sAsg, sIf, sFor, forD, sDrop, sApp, sExt, sPop, sPop0, sSetIx, sAug, sPar, sMove, sFreeze, sNever, sBreak, sCont, xFr, xVw, xSt, xOw, xTp, xC, xOp1, xOp2, xTup, xLst, xCons, xNil, xCall, xCB, xTst, xTru, xAndT, xOrT, xNotT, xAnd, xOr, xNot, xIf, xChain, xCut, xSome, xNo, xIsi, xLc, xSeq, xRng1, xRng2, xYes, fRng1, fRng2, fSeq, dgN, dgT, dgCons, dgNil, Env.get, Env.put, env0, slOf, wipeR, List.set, List.set_cons_zero, List.set_cons_succ, List.getD_cons_zero, List.getD_cons_succ, List.length_cons, List.length_nil, fBool, fTru, fI20, fI2, fI1, fIsi, fOwL, fInt, fListQ, List.replicate, List.append_nil, List.nil_append, List.cons_append, Bool.false_eq_true, if_false, if_true, reduceIte, Nat.reduceSub, Nat.reduceAdd, true_and, and_true, Nat.zero_add, fLe, fLt, fGe, fGt, fAddI, fSubI, fMulI, fDivI, fModI, fNeg, fIx_t0, fIx_t1, fIx_t2, fIx_t3, xLc2, xZip, fZip, xIndex, fIndex, sRaise, fMulL, fListQ, xIsE, xFld, sTry, sTry0]
  simp only at hd hlen hn q
  have bad : (¬ ∃ v, d = eV v) → Q (.bool false) := fun z => q _ ⟨false, rfl, by
    simp only [Bool.false_eq_true, false_iff]
    rintro ⟨v, _, e⟩; exact z ⟨v, e⟩⟩
  cases d with
  | tuple ds =>
    have e1 : isA "tuple" (.tuple ds) = true := by simp [isA, isTn, tyOf]
    simp only [e1, sSeq_eq, thenD_cons, sNil, sRet, sRetN, sSet, sSetN, sAsg, sIf, sFor, forD, sDrop, sApp, sExt, sPop, sPop0, sSetIx, sAug, sPar, sMove, sFreeze, sNever, sBreak, sCont, xFr, xVw, xSt, xOw, xTp, xC, xOp1, xOp2, xTup, xLst, xCons, xNil, xCall, xCB, xTst, xTru, xAndT, xOrT, xNotT, xAnd, xOr, xNot, xIf, xChain, xCut, xSome, xNo, xIsi, xLc, xSeq, xRng1, xRng2, xYes, fRng1, fRng2, fSeq, dgN, dgT, dgCons, dgNil, Env.get, Env.put, env0, slOf, wipeR, List.set, List.set_cons_zero, List.set_cons_succ, List.getD_cons_zero, List.getD_cons_succ, List.length_cons, List.length_nil, fBool, fTru, fI20, fI2, fI1, fIsi, fOwL, fInt, fListQ, List.replicate, List.append_nil, List.nil_append, List.cons_append, Bool.false_eq_true, if_false, if_true, reduceIte, Nat.reduceSub, Nat.reduceAdd, true_and, and_true, Nat.zero_add, fLe, fLt, fGe, fGt, fAddI, fSubI, fMulI, fDivI, fModI, fNeg, fIx_t0, fIx_t1, fIx_t2, fIx_t3, xLc2, xZip, fZip, xIndex, fIndex, sRaise, fMulL, fListQ, xIsE, xFld, sTry, sTry0, Bool.not_true]
    have hall : ∀ x ∈ ds, notDict x := hd
    rw [← List.map_id ds]
    refine lcD_filter id (fun x => !isInt x) id ds _ (fun x hx R R0 r1 r0 => ?_) ?_
    · have := hall x hx
      cases x with
      | dict _ => exact this.elim
      | _ => simp [isInt, isA, isTn, tyOf, sSeq_eq, thenD_cons, sNil, sRet, sRetN, sSet, sSetN, sAsg, sIf, sFor, forD, sDrop, sApp, sExt, sPop, sPop0, sSetIx, sAug, sPar, sMove, sFreeze, sNever, sBreak, sCont, xFr, xVw, xSt, xOw, xTp, xC, xOp1, xOp2, xTup, xLst, xCons, xNil, xCall, xCB, xTst, xTru, xAndT, xOrT, xNotT, xAnd, xOr, xNot, xIf, xChain, xCut, xSome, xNo, xIsi, xLc, xSeq, xRng1, xRng2, xYes, fRng1, fRng2, fSeq, dgN, dgT, dgCons, dgNil, Env.get, Env.put, env0, slOf, wipeR, List.set, List.set_cons_zero, List.set_cons_succ, List.getD_cons_zero, List.getD_cons_succ, List.length_cons, List.length_nil, fBool, fTru, fI20, fI2, fI1, fIsi, fOwL, fInt, fListQ, List.replicate, List.append_nil, List.nil_append, List.cons_append, Bool.false_eq_true, if_false, if_true, reduceIte, Nat.reduceSub, Nat.reduceAdd, true_and, and_true, Nat.zero_add, fLe, fLt, fGe, fGt, fAddI, fSubI, fMulI, fDivI, fModI, fNeg, fIx_t0, fIx_t1, fIx_t2, fIx_t3, xLc2, xZip, fZip, xIndex, fIndex, sRaise, fMulL, fListQ, xIsE, xFld, sTry, sTry0] at r1 r0 ⊢; assumption
    · simp only [fLen, sSeq_eq, thenD_cons, sNil, sRet, sRetN, sSet, sSetN, sAsg, sIf, sFor, forD, sDrop, sApp, sExt, sPop, sPop0, sSetIx, sAug, sPar, sMove, sFreeze, sNever, sBreak, sCont, xFr, xVw, xSt, xOw, xTp, xC, xOp1, xOp2, xTup, xLst, xCons, xNil, xCall, xCB, xTst, xTru, xAndT, xOrT, xNotT, xAnd, xOr, xNot, xIf, xChain, xCut, xSome, xNo, xIsi, xLc, xSeq, xRng1, xRng2, xYes, fRng1, fRng2, fSeq, dgN, dgT, dgCons, dgNil, Env.get, Env.put, env0, slOf, wipeR, List.set, List.set_cons_zero, List.set_cons_succ, List.getD_cons_zero, List.getD_cons_succ, List.length_cons, List.length_nil, fBool, fTru, fI20, fI2, fI1, fIsi, fOwL, fInt, fListQ, List.replicate, List.append_nil, List.nil_append, List.cons_append, Bool.false_eq_true, if_false, if_true, reduceIte, Nat.reduceSub, Nat.reduceAdd, true_and, and_true, Nat.zero_add, fLe, fLt, fGe, fGt, fAddI, fSubI, fMulI, fDivI, fModI, fNeg, fIx_t0, fIx_t1, fIx_t2, fIx_t3, xLc2, xZip, fZip, xIndex, fIndex, sRaise, fMulL, fListQ, xIsE, xFld, sTry, sTry0, List.map_id]
      by_cases hc : (ds.filter fun x => !isInt x) = []
      · have h0 : ¬ ((0 : Int) < (((ds.filter fun x => !isInt x).length : Nat) : Int)) := by rw [hc]; simp
        simp only [h0, decide_false, sSeq_eq, thenD_cons, sNil, sRet, sRetN, sSet, sSetN, sAsg, sIf, sFor, forD, sDrop, sApp, sExt, sPop, sPop0, sSetIx, sAug, sPar, sMove, sFreeze, sNever, sBreak, sCont, xFr, xVw, xSt, xOw, xTp, xC, xOp1, xOp2, xTup, xLst, xCons, xNil, xCall, xCB, xTst, xTru, xAndT, xOrT, xNotT, xAnd, xOr, xNot, xIf, xChain, xCut, xSome, xNo, xIsi, xLc, xSeq, xRng1, xRng2, xYes, fRng1, fRng2, fSeq, dgN, dgT, dgCons, dgNil, Env.get, Env.put, env0, slOf, wipeR, List.set, List.set_cons_zero, List.set_cons_succ, List.getD_cons_zero, List.getD_cons_succ, List.length_cons, List.length_nil, fBool, fTru, fI20, fI2, fI1, fIsi, fOwL, fInt, fListQ, List.replicate, List.append_nil, List.nil_append, List.cons_append, Bool.false_eq_true, if_false, if_true, reduceIte, Nat.reduceSub, Nat.reduceAdd, true_and, and_true, Nat.zero_add, fLe, fLt, fGe, fGt, fAddI, fSubI, fMulI, fDivI, fModI, fNeg, fIx_t0, fIx_t1, fIx_t2, fIx_t3, xLc2, xZip, fZip, xIndex, fIndex, sRaise, fMulL, fListQ, xIsE, xFld, sTry, sTry0]
        obtain ⟨v, rfl⟩ := ints_of hc
        refine ⟨shaped_eV v, shaped_rows rs, q _ ⟨_, rfl, ?_⟩⟩
        rw [List.any_map, List.any_eq_true]
        constructor
        · rintro ⟨w, hw, e⟩
          refine ⟨w, hw, ?_⟩
          simp only [Function.comp, eV, PyData.eqv, eqvAll_ints, decide_eq_true_eq] at e
          rw [e]; rfl
        · rintro ⟨w, hw, e⟩
          refine ⟨w, hw, ?_⟩
          have : v = w := eV_inj e
          subst this
          simp [eV, PyData.eqv, eqvAll_ints]
      · have h0 : (0 : Int) < (((ds.filter fun x => !isInt x).length : Nat) : Int) := by
          have := List.length_pos_iff.mpr hc
          omega
        simp only [h0, decide_true, sSeq_eq, thenD_cons, sNil, sRet, sRetN, sSet, sSetN, sAsg, sIf, sFor, forD, sDrop, sApp, sExt, sPop, sPop0, sSetIx, sAug, sPar, sMove, sFreeze, sNever, sBreak, sCont, xFr, xVw, xSt, xOw, xTp, xC, xOp1, xOp2, xTup, xLst, xCons, xNil, xCall, xCB, xTst, xTru, xAndT, xOrT, xNotT, xAnd, xOr, xNot, xIf, xChain, xCut, xSome, xNo, xIsi, xLc, xSeq, xRng1, xRng2, xYes, fRng1, fRng2, fSeq, dgN, dgT, dgCons, dgNil, Env.get, Env.put, env0, slOf, wipeR, List.set, List.set_cons_zero, List.set_cons_succ, List.getD_cons_zero, List.getD_cons_succ, List.length_cons, List.length_nil, fBool, fTru, fI20, fI2, fI1, fIsi, fOwL, fInt, fListQ, List.replicate, List.append_nil, List.nil_append, List.cons_append, Bool.false_eq_true, if_false, if_true, reduceIte, Nat.reduceSub, Nat.reduceAdd, true_and, and_true, Nat.zero_add, fLe, fLt, fGe, fGt, fAddI, fSubI, fMulI, fDivI, fModI, fNeg, fIx_t0, fIx_t1, fIx_t2, fIx_t3, xLc2, xZip, fZip, xIndex, fIndex, sRaise, fMulL, fListQ, xIsE, xFld, sTry, sTry0]
        refine bad ?_
        rintro ⟨v, e⟩
        simp only [eV, PyData.tuple.injEq] at e
        subst e
        refine hc (List.filter_eq_nil_iff.mpr fun x hx => ?_)
        obtain ⟨i, _, rfl⟩ := List.mem_map.mp hx
        simp [isInt]
  | dict _ => exact hd.elim
  | _ => simp [isA, isTn, tyOf, sSeq_eq, thenD_cons, sNil, sRet, sRetN, sSet, sSetN, sAsg, sIf, sFor, forD, sDrop, sApp, sExt, sPop, sPop0, sSetIx, sAug, sPar, sMove, sFreeze, sNever, sBreak, sCont, xFr, xVw, xSt, xOw, xTp, xC, xOp1, xOp2, xTup, xLst, xCons, xNil, xCall, xCB, xTst, xTru, xAndT, xOrT, xNotT, xAnd, xOr, xNot, xIf, xChain, xCut, xSome, xNo, xIsi, xLc, xSeq, xRng1, xRng2, xYes, fRng1, fRng2, fSeq, dgN, dgT, dgCons, dgNil, Env.get, Env.put, env0, slOf, wipeR, List.set, List.set_cons_zero, List.set_cons_succ, List.getD_cons_zero, List.getD_cons_succ, List.length_cons, List.length_nil, fBool, fTru, fI20, fI2, fI1, fIsi, fOwL, fInt, fListQ, List.replicate, List.append_nil, List.nil_append, List.cons_append, Bool.false_eq_true, if_false, if_true, reduceIte, Nat.reduceSub, Nat.reduceAdd, true_and, and_true, Nat.zero_add, fLe, fLt, fGe, fGt, fAddI, fSubI, fMulI, fDivI, fModI, fNeg, fIx_t0, fIx_t1, fIx_t2, fIx_t3, xLc2, xZip, fZip, xIndex, fIndex, sRaise, fMulL, fListQ, xIsE, xFld, sTry, sTry0]; exact bad (by rintro ⟨v, e⟩; simp [eV] at e)
theorem pure__law_due : PureOk sp_law_due b__law_due 7 := by
  rintro ds Q Qx ⟨⟨rs, dm, t⟩, rfl, ⟨h1, h2, h3⟩, q⟩
  simp only at h1 h2 h3 q
  simp only [b__law_due, sp_law_due, det1, sSeq_eq, thenD_cons, sNil, sRet, sRetN, sSet, sSetN, sAsg, sIf, sFor, forD, sDrop, sApp, sExt, sPop, sPop0, sSetIx, sAug, sPar, sMove, sFreeze, sNever, sBreak, sCont, xFr, xVw, xSt, xOw, xTp, xC, xOp1, xOp2, xTup, xLst, xCons, xNil, xCall, xCB, xTst, xTru, xAndT, xOrT, xNotT, xAnd, xOr, xNot, xIf, xChain, xCut, xSome, xNo, xIsi, xLc, xSeq, xRng1, xRng2, xYes, fRng1, fRng2, fSeq, dgN, dgT, dgCons, dgNil, Env.get, Env.put, env0, slOf, wipeR, List.set, List.set_cons_zero, List.set_cons_succ, List.getD_cons_zero, List.getD_cons_succ, List.length_cons, List.length_nil, fBool, fTru, fI20, fI2, fI1, fIsi, fOwL, fInt, fListQ, List.replicate, List.append_nil, List.nil_append, List.cons_append, Bool.false_eq_true, if_false, if_true, reduceIte, Nat.reduceSub, Nat.reduceAdd, true_and, and_true, Nat.zero_add, fLe, fLt, fGe, fGt, fAddI, fSubI, fMulI, fDivI, fModI, fNeg, fIx_t0, fIx_t1, fIx_t2, fIx_t3, xLc2, xZip, fZip, xIndex, fIndex, sRaise, fMulL, fListQ, xIsE, xFld, sTry, sTry0]
  simp only [fLen, fEq, sSeq_eq, thenD_cons, sNil, sRet, sRetN, sSet, sSetN, sAsg, sIf, sFor, forD, sDrop, sApp, sExt, sPop, sPop0, sSetIx, sAug, sPar, sMove, sFreeze, sNever, sBreak, sCont, xFr, xVw, xSt, xOw, xTp, xC, xOp1, xOp2, xTup, xLst, xCons, xNil, xCall, xCB, xTst, xTru, xAndT, xOrT, xNotT, xAnd, xOr, xNot, xIf, xChain, xCut, xSome, xNo, xIsi, xLc, xSeq, xRng1, xRng2, xYes, fRng1, fRng2, fSeq, dgN, dgT, dgCons, dgNil, Env.get, Env.put, env0, slOf, wipeR, List.set, List.set_cons_zero, List.set_cons_succ, List.getD_cons_zero, List.getD_cons_succ, List.length_cons, List.length_nil, fBool, fTru, fI20, fI2, fI1, fIsi, fOwL, fInt, fListQ, List.replicate, List.append_nil, List.nil_append, List.cons_append, Bool.false_eq_true, if_false, if_true, reduceIte, Nat.reduceSub, Nat.reduceAdd, true_and, and_true, Nat.zero_add, fLe, fLt, fGe, fGt, fAddI, fSubI, fMulI, fDivI, fModI, fNeg, fIx_t0, fIx_t1, fIx_t2, fIx_t3, xLc2, xZip, fZip, xIndex, fIndex, sRaise, fMulL, fListQ, xIsE, xFld, sTry, sTry0, List.length_map]
  cases rs with
  | nil => simp [sSeq_eq, thenD_cons, sNil, sRet, sRetN, sSet, sSetN, sAsg, sIf, sFor, forD, sDrop, sApp, sExt, sPop, sPop0, sSetIx, sAug, sPar, sMove, sFreeze, sNever, sBreak, sCont, xFr, xVw, xSt, xOw, xTp, xC, xOp1, xOp2, xTup, xLst, xCons, xNil, xCall, xCB, xTst, xTru, xAndT, xOrT, xNotT, xAnd, xOr, xNot, xIf, xChain, xCut, xSome, xNo, xIsi, xLc, xSeq, xRng1, xRng2, xYes, fRng1, fRng2, fSeq, dgN, dgT, dgCons, dgNil, Env.get, Env.put, env0, slOf, wipeR, List.set, List.set_cons_zero, List.set_cons_succ, List.getD_cons_zero, List.getD_cons_succ, List.length_cons, List.length_nil, fBool, fTru, fI20, fI2, fI1, fIsi, fOwL, fInt, fListQ, List.replicate, List.append_nil, List.nil_append, List.cons_append, Bool.false_eq_true, if_false, if_true, reduceIte, Nat.reduceSub, Nat.reduceAdd, true_and, and_true, Nat.zero_add, fLe, fLt, fGe, fGt, fAddI, fSubI, fMulI, fDivI, fModI, fNeg, fIx_t0, fIx_t1, fIx_t2, fIx_t3, xLc2, xZip, fZip, xIndex, fIndex, sRaise, fMulL, fListQ, xIsE, xFld, sTry, sTry0]; exact q
  | cons r0 rs' =>
    have hne : (((((r0 :: rs').length : Nat) : Int)) == 0) = false := by simp; omega
    simp only [List.length_cons] at hne
    simp only [hne, sSeq_eq, thenD_cons, sNil, sRet, sRetN, sSet, sSetN, sAsg, sIf, sFor, forD, sDrop, sApp, sExt, sPop, sPop0, sSetIx, sAug, sPar, sMove, sFreeze, sNever, sBreak, sCont, xFr, xVw, xSt, xOw, xTp, xC, xOp1, xOp2, xTup, xLst, xCons, xNil, xCall, xCB, xTst, xTru, xAndT, xOrT, xNotT, xAnd, xOr, xNot, xIf, xChain, xCut, xSome, xNo, xIsi, xLc, xSeq, xRng1, xRng2, xYes, fRng1, fRng2, fSeq, dgN, dgT, dgCons, dgNil, Env.get, Env.put, env0, slOf, wipeR, List.set, List.set_cons_zero, List.set_cons_succ, List.getD_cons_zero, List.getD_cons_succ, List.length_cons, List.length_nil, fBool, fTru, fI20, fI2, fI1, fIsi, fOwL, fInt, fListQ, List.replicate, List.append_nil, List.nil_append, List.cons_append, Bool.false_eq_true, if_false, if_true, reduceIte, Nat.reduceSub, Nat.reduceAdd, true_and, and_true, Nat.zero_add, fLe, fLt, fGe, fGt, fAddI, fSubI, fMulI, fDivI, fModI, fNeg, fIx_t0, fIx_t1, fIx_t2, fIx_t3, xLc2, xZip, fZip, xIndex, fIndex, sRaise, fMulL, fListQ, xIsE, xFld, sTry, sTry0]
    generalize hrs : r0 :: rs' = rs at *
    have key : ∀ A : SE, (∀ a b, A.nx [.fr (.list (rs.map eV)), .fr (dsq t dm), .fr (.list ((rs.filter fun r => dm.all (kp r)).map eV)), a, b, .un, .un]) →
        forD (dgT 2 (dgCons (dgN 3) (dgCons (dgN 4) dgNil))) (sSet 2 (xLc (xSeq (xVw 2)) (dgN 5) (xTst (xOp2 fGe (xOp2 fIx (xVw 5) (xVw 3)) (xVw 4))) (xFr 5) [5])) (dm.map eD) [.fr (.list (rs.map eV)), .fr (dsq t dm), .fr (.list (rs.map eV)), .un, .un, .un, .un] A := by
      intro A hA
      refine forD_pre eD (fun pre ρ => ∃ a b, ρ = ([.fr (.list (rs.map eV)), .fr (dsq t dm), .fr (.list ((rs.filter fun r => pre.all (kp r)).map eV)), a, b, .un, .un] : Dt.Env)) _ dm dm [] _ rfl ⟨.un, .un, by simp only [List.all_nil]; rw [List.filter_eq_self.mpr (fun _ _ => rfl)]⟩ ?_ ?_
      · rintro pre d post ρ hall ⟨a, b, rfl⟩ N hN
        have hd : d ∈ dm := by rw [hall]; simp
        simp only [eD, sSeq_eq, thenD_cons, sNil, sRet, sRetN, sSet, sSetN, sAsg, sIf, sFor, forD, sDrop, sApp, sExt, sPop, sPop0, sSetIx, sAug, sPar, sMove, sFreeze, sNever, sBreak, sCont, xFr, xVw, xSt, xOw, xTp, xC, xOp1, xOp2, xTup, xLst, xCons, xNil, xCall, xCB, xTst, xTru, xAndT, xOrT, xNotT, xAnd, xOr, xNot, xIf, xChain, xCut, xSome, xNo, xIsi, xLc, xSeq, xRng1, xRng2, xYes, fRng1, fRng2, fSeq, dgN, dgT, dgCons, dgNil, Env.get, Env.put, env0, slOf, wipeR, List.set, List.set_cons_zero, List.set_cons_succ, List.getD_cons_zero, List.getD_cons_succ, List.length_cons, List.length_nil, fBool, fTru, fI20, fI2, fI1, fIsi, fOwL, fInt, fListQ, List.replicate, List.append_nil, List.nil_append, List.cons_append, Bool.false_eq_true, if_false, if_true, reduceIte, Nat.reduceSub, Nat.reduceAdd, true_and, and_true, Nat.zero_add, fLe, fLt, fGe, fGt, fAddI, fSubI, fMulI, fDivI, fModI, fNeg, fIx_t0, fIx_t1, fIx_t2, fIx_t3, xLc2, xZip, fZip, xIndex, fIndex, sRaise, fMulL, fListQ, xIsE, xFld, sTry, sTry0]
        refine lcD_filter eV (fun r => kp r d) eV _ _ (fun r hr R R0 r1 r0 => ?_) ?_
        · have hi : d.1 < r.length := h1 r (List.mem_filter.mp hr).1 d hd
          simp only [sSeq_eq, thenD_cons, sNil, sRet, sRetN, sSet, sSetN, sAsg, sIf, sFor, forD, sDrop, sApp, sExt, sPop, sPop0, sSetIx, sAug, sPar, sMove, sFreeze, sNever, sBreak, sCont, xFr, xVw, xSt, xOw, xTp, xC, xOp1, xOp2, xTup, xLst, xCons, xNil, xCall, xCB, xTst, xTru, xAndT, xOrT, xNotT, xAnd, xOr, xNot, xIf, xChain, xCut, xSome, xNo, xIsi, xLc, xSeq, xRng1, xRng2, xYes, fRng1, fRng2, fSeq, dgN, dgT, dgCons, dgNil, Env.get, Env.put, env0, slOf, wipeR, List.set, List.set_cons_zero, List.set_cons_succ, List.getD_cons_zero, List.getD_cons_succ, List.length_cons, List.length_nil, fBool, fTru, fI20, fI2, fI1, fIsi, fOwL, fInt, fListQ, List.replicate, List.append_nil, List.nil_append, List.cons_append, Bool.false_eq_true, if_false, if_true, reduceIte, Nat.reduceSub, Nat.reduceAdd, true_and, and_true, Nat.zero_add, fLe, fLt, fGe, fGt, fAddI, fSubI, fMulI, fDivI, fModI, fNeg, fIx_t0, fIx_t1, fIx_t2, fIx_t3, xLc2, xZip, fZip, xIndex, fIndex, sRaise, fMulL, fListQ, xIsE, xFld, sTry, sTry0]
          refine ix_int hi ?_
          simp only [sSeq_eq, thenD_cons, sNil, sRet, sRetN, sSet, sSetN, sAsg, sIf, sFor, forD, sDrop, sApp, sExt, sPop, sPop0, sSetIx, sAug, sPar, sMove, sFreeze, sNever, sBreak, sCont, xFr, xVw, xSt, xOw, xTp, xC, xOp1, xOp2, xTup, xLst, xCons, xNil, xCall, xCB, xTst, xTru, xAndT, xOrT, xNotT, xAnd, xOr, xNot, xIf, xChain, xCut, xSome, xNo, xIsi, xLc, xSeq, xRng1, xRng2, xYes, fRng1, fRng2, fSeq, dgN, dgT, dgCons, dgNil, Env.get, Env.put, env0, slOf, wipeR, List.set, List.set_cons_zero, List.set_cons_succ, List.getD_cons_zero, List.getD_cons_succ, List.length_cons, List.length_nil, fBool, fTru, fI20, fI2, fI1, fIsi, fOwL, fInt, fListQ, List.replicate, List.append_nil, List.nil_append, List.cons_append, Bool.false_eq_true, if_false, if_true, reduceIte, Nat.reduceSub, Nat.reduceAdd, true_and, and_true, Nat.zero_add, fLe, fLt, fGe, fGt, fAddI, fSubI, fMulI, fDivI, fModI, fNeg, fIx_t0, fIx_t1, fIx_t2, fIx_t3, xLc2, xZip, fZip, xIndex, fIndex, sRaise, fMulL, fListQ, xIsE, xFld, sTry, sTry0]
          by_cases k : d.2 ≤ at0 r d.1
          · simp only [k, decide_true, sSeq_eq, thenD_cons, sNil, sRet, sRetN, sSet, sSetN, sAsg, sIf, sFor, forD, sDrop, sApp, sExt, sPop, sPop0, sSetIx, sAug, sPar, sMove, sFreeze, sNever, sBreak, sCont, xFr, xVw, xSt, xOw, xTp, xC, xOp1, xOp2, xTup, xLst, xCons, xNil, xCall, xCB, xTst, xTru, xAndT, xOrT, xNotT, xAnd, xOr, xNot, xIf, xChain, xCut, xSome, xNo, xIsi, xLc, xSeq, xRng1, xRng2, xYes, fRng1, fRng2, fSeq, dgN, dgT, dgCons, dgNil, Env.get, Env.put, env0, slOf, wipeR, List.set, List.set_cons_zero, List.set_cons_succ, List.getD_cons_zero, List.getD_cons_succ, List.length_cons, List.length_nil, fBool, fTru, fI20, fI2, fI1, fIsi, fOwL, fInt, fListQ, List.replicate, List.append_nil, List.nil_append, List.cons_append, Bool.false_eq_true, if_false, if_true, reduceIte, Nat.reduceSub, Nat.reduceAdd, true_and, and_true, Nat.zero_add, fLe, fLt, fGe, fGt, fAddI, fSubI, fMulI, fDivI, fModI, fNeg, fIx_t0, fIx_t1, fIx_t2, fIx_t3, xLc2, xZip, fZip, xIndex, fIndex, sRaise, fMulL, fListQ, xIsE, xFld, sTry, sTry0]; exact r1 (by simp [kp, k])
          · simp only [k, decide_false, sSeq_eq, thenD_cons, sNil, sRet, sRetN, sSet, sSetN, sAsg, sIf, sFor, forD, sDrop, sApp, sExt, sPop, sPop0, sSetIx, sAug, sPar, sMove, sFreeze, sNever, sBreak, sCont, xFr, xVw, xSt, xOw, xTp, xC, xOp1, xOp2, xTup, xLst, xCons, xNil, xCall, xCB, xTst, xTru, xAndT, xOrT, xNotT, xAnd, xOr, xNot, xIf, xChain, xCut, xSome, xNo, xIsi, xLc, xSeq, xRng1, xRng2, xYes, fRng1, fRng2, fSeq, dgN, dgT, dgCons, dgNil, Env.get, Env.put, env0, slOf, wipeR, List.set, List.set_cons_zero, List.set_cons_succ, List.getD_cons_zero, List.getD_cons_succ, List.length_cons, List.length_nil, fBool, fTru, fI20, fI2, fI1, fIsi, fOwL, fInt, fListQ, List.replicate, List.append_nil, List.nil_append, List.cons_append, Bool.false_eq_true, if_false, if_true, reduceIte, Nat.reduceSub, Nat.reduceAdd, true_and, and_true, Nat.zero_add, fLe, fLt, fGe, fGt, fAddI, fSubI, fMulI, fDivI, fModI, fNeg, fIx_t0, fIx_t1, fIx_t2, fIx_t3, xLc2, xZip, fZip, xIndex, fIndex, sRaise, fMulL, fListQ, xIsE, xFld, sTry, sTry0]; exact r0 (by simp only [kp, k, decide_false])
        · rw [List.filter_filter]
          have e2 : (fun r => kp r d && pre.all (kp r)) = fun r => (pre ++ [d]).all (kp r) := by
            funext v; simp [List.all_append, Bool.and_comm]
          rw [e2]
          exact hN _ ⟨_, _, rfl⟩
      · rintro ρ ⟨a, b, rfl⟩
        exact hA a b
    have qq : ∀ g gs, (rs.filter fun r => dm.all (kp r)) = g :: gs → Q (.tuple [.str "told", .tuple (((List.range g.length).map fun k => minOf ((g :: gs).map (at0 · k))).map .int)]) := fun g gs e => by
      rw [← hrs] at q e
      simp only [dueF, e] at q
      exact q
    have q0 : (rs.filter fun r => dm.all (kp r)) = [] → Q (.tuple [.str "raised", .str "barred"]) := fun e => by
      rw [← hrs] at q e
      simp only [dueF, e] at q
      exact q
    have go : ∀ A : SE, (∀ a b, A.nx [.fr (.list (rs.map eV)), .fr (dsq t dm), .fr (.list ((rs.filter fun r => dm.all (kp r)).map eV)), a, b, .un, .un]) → fSeq (fun ds => forD (dgT 2 (dgCons (dgN 3) (dgCons (dgN 4) dgNil))) (sSet 2 (xLc (xSeq (xVw 2)) (dgN 5) (xTst (xOp2 fGe (xOp2 fIx (xVw 5) (xVw 3)) (xVw 4))) (xFr 5) [5])) ds [.fr (.list (rs.map eV)), .fr (dsq t dm), .fr (.list (rs.map eV)), .un, .un, .un, .un] A) (dsq t dm) := fun A hA => by
      have k := key A hA
      cases t with
      | true => exact k
      | false => exact k
    refine go _ fun a b => ?_
    simp only [sSeq_eq, thenD_cons, sNil, sRet, sRetN, sSet, sSetN, sAsg, sIf, sFor, forD, sDrop, sApp, sExt, sPop, sPop0, sSetIx, sAug, sPar, sMove, sFreeze, sNever, sBreak, sCont, xFr, xVw, xSt, xOw, xTp, xC, xOp1, xOp2, xTup, xLst, xCons, xNil, xCall, xCB, xTst, xTru, xAndT, xOrT, xNotT, xAnd, xOr, xNot, xIf, xChain, xCut, xSome, xNo, xIsi, xLc, xSeq, xRng1, xRng2, xYes, fRng1, fRng2, fSeq, dgN, dgT, dgCons, dgNil, Env.get, Env.put, env0, slOf, wipeR, List.set, List.set_cons_zero, List.set_cons_succ, List.getD_cons_zero, List.getD_cons_succ, List.length_cons, List.length_nil, fBool, fTru, fI20, fI2, fI1, fIsi, fOwL, fInt, fListQ, List.replicate, List.append_nil, List.nil_append, List.cons_append, Bool.false_eq_true, if_false, if_true, reduceIte, Nat.reduceSub, Nat.reduceAdd, true_and, and_true, Nat.zero_add, fLe, fLt, fGe, fGt, fAddI, fSubI, fMulI, fDivI, fModI, fNeg, fIx_t0, fIx_t1, fIx_t2, fIx_t3, xLc2, xZip, fZip, xIndex, fIndex, sRaise, fMulL, fListQ, xIsE, xFld, sTry, sTry0]
    simp only [fLen, fEq, sSeq_eq, thenD_cons, sNil, sRet, sRetN, sSet, sSetN, sAsg, sIf, sFor, forD, sDrop, sApp, sExt, sPop, sPop0, sSetIx, sAug, sPar, sMove, sFreeze, sNever, sBreak, sCont, xFr, xVw, xSt, xOw, xTp, xC, xOp1, xOp2, xTup, xLst, xCons, xNil, xCall, xCB, xTst, xTru, xAndT, xOrT, xNotT, xAnd, xOr, xNot, xIf, xChain, xCut, xSome, xNo, xIsi, xLc, xSeq, xRng1, xRng2, xYes, fRng1, fRng2, fSeq, dgN, dgT, dgCons, dgNil, Env.get, Env.put, env0, slOf, wipeR, List.set, List.set_cons_zero, List.set_cons_succ, List.getD_cons_zero, List.getD_cons_succ, List.length_cons, List.length_nil, fBool, fTru, fI20, fI2, fI1, fIsi, fOwL, fInt, fListQ, List.replicate, List.append_nil, List.nil_append, List.cons_append, Bool.false_eq_true, if_false, if_true, reduceIte, Nat.reduceSub, Nat.reduceAdd, true_and, and_true, Nat.zero_add, fLe, fLt, fGe, fGt, fAddI, fSubI, fMulI, fDivI, fModI, fNeg, fIx_t0, fIx_t1, fIx_t2, fIx_t3, xLc2, xZip, fZip, xIndex, fIndex, sRaise, fMulL, fListQ, xIsE, xFld, sTry, sTry0, List.length_map]
    cases hg : rs.filter fun r => dm.all (kp r) with
    | nil => simp [sSeq_eq, thenD_cons, sNil, sRet, sRetN, sSet, sSetN, sAsg, sIf, sFor, forD, sDrop, sApp, sExt, sPop, sPop0, sSetIx, sAug, sPar, sMove, sFreeze, sNever, sBreak, sCont, xFr, xVw, xSt, xOw, xTp, xC, xOp1, xOp2, xTup, xLst, xCons, xNil, xCall, xCB, xTst, xTru, xAndT, xOrT, xNotT, xAnd, xOr, xNot, xIf, xChain, xCut, xSome, xNo, xIsi, xLc, xSeq, xRng1, xRng2, xYes, fRng1, fRng2, fSeq, dgN, dgT, dgCons, dgNil, Env.get, Env.put, env0, slOf, wipeR, List.set, List.set_cons_zero, List.set_cons_succ, List.getD_cons_zero, List.getD_cons_succ, List.length_cons, List.length_nil, fBool, fTru, fI20, fI2, fI1, fIsi, fOwL, fInt, fListQ, List.replicate, List.append_nil, List.nil_append, List.cons_append, Bool.false_eq_true, if_false, if_true, reduceIte, Nat.reduceSub, Nat.reduceAdd, true_and, and_true, Nat.zero_add, fLe, fLt, fGe, fGt, fAddI, fSubI, fMulI, fDivI, fModI, fNeg, fIx_t0, fIx_t1, fIx_t2, fIx_t3, xLc2, xZip, fZip, xIndex, fIndex, sRaise, fMulL, fListQ, xIsE, xFld, sTry, sTry0]; exact q0 hg
    | cons g gs =>
      have hne2 : (((((g :: gs).length : Nat) : Int)) == 0) = false := by simp; omega
      simp only [List.length_cons] at hne2
      simp only [List.length_cons, hne2, sSeq_eq, thenD_cons, sNil, sRet, sRetN, sSet, sSetN, sAsg, sIf, sFor, forD, sDrop, sApp, sExt, sPop, sPop0, sSetIx, sAug, sPar, sMove, sFreeze, sNever, sBreak, sCont, xFr, xVw, xSt, xOw, xTp, xC, xOp1, xOp2, xTup, xLst, xCons, xNil, xCall, xCB, xTst, xTru, xAndT, xOrT, xNotT, xAnd, xOr, xNot, xIf, xChain, xCut, xSome, xNo, xIsi, xLc, xSeq, xRng1, xRng2, xYes, fRng1, fRng2, fSeq, dgN, dgT, dgCons, dgNil, Env.get, Env.put, env0, slOf, wipeR, List.set, List.set_cons_zero, List.set_cons_succ, List.getD_cons_zero, List.getD_cons_succ, List.length_cons, List.length_nil, fBool, fTru, fI20, fI2, fI1, fIsi, fOwL, fInt, fListQ, List.replicate, List.append_nil, List.nil_append, List.cons_append, Bool.false_eq_true, if_false, if_true, reduceIte, Nat.reduceSub, Nat.reduceAdd, true_and, and_true, Nat.zero_add, fLe, fLt, fGe, fGt, fAddI, fSubI, fMulI, fDivI, fModI, fNeg, fIx_t0, fIx_t1, fIx_t2, fIx_t3, xLc2, xZip, fZip, xIndex, fIndex, sRaise, fMulL, fListQ, xIsE, xFld, sTry, sTry0]
      refine fIx_l (i := 0) (d := eV g) (by simp) ?_
      have hgm : ∀ r ∈ g :: gs, r ∈ rs := fun r hr => (List.mem_filter.mp (by rw [hg]; exact hr)).1
      have hgl : g.length ≤ 1000 := h3 g (hgm g (by simp))
      simp only [eV, sSeq_eq, thenD_cons, sNil, sRet, sRetN, sSet, sSetN, sAsg, sIf, sFor, forD, sDrop, sApp, sExt, sPop, sPop0, sSetIx, sAug, sPar, sMove, sFreeze, sNever, sBreak, sCont, xFr, xVw, xSt, xOw, xTp, xC, xOp1, xOp2, xTup, xLst, xCons, xNil, xCall, xCB, xTst, xTru, xAndT, xOrT, xNotT, xAnd, xOr, xNot, xIf, xChain, xCut, xSome, xNo, xIsi, xLc, xSeq, xRng1, xRng2, xYes, fRng1, fRng2, fSeq, dgN, dgT, dgCons, dgNil, Env.get, Env.put, env0, slOf, wipeR, List.set, List.set_cons_zero, List.set_cons_succ, List.getD_cons_zero, List.getD_cons_succ, List.length_cons, List.length_nil, fBool, fTru, fI20, fI2, fI1, fIsi, fOwL, fInt, fListQ, List.replicate, List.append_nil, List.nil_append, List.cons_append, Bool.false_eq_true, if_false, if_true, reduceIte, Nat.reduceSub, Nat.reduceAdd, true_and, and_true, Nat.zero_add, fLe, fLt, fGe, fGt, fAddI, fSubI, fMulI, fDivI, fModI, fNeg, fIx_t0, fIx_t1, fIx_t2, fIx_t3, xLc2, xZip, fZip, xIndex, fIndex, sRaise, fMulL, fListQ, xIsE, xFld, sTry, sTry0, List.length_map]
      refine ⟨by omega, by omega, ?_⟩
      have er : rngD 0 ((g.length : Nat) : Int).toNat = (List.range g.length).map fun k => (.int (k : Int)) := by simp [rngD]
      rw [er]
      refine lcD_all (fun k : Nat => (.int (k : Int))) (fun k => .int (minOf ((g :: gs).map (at0 · k)))) _ _ (fun k hk R R0 r1 => ?_) ?_
      · have hk' : k < g.length := List.mem_range.mp hk
        simp only [sSeq_eq, thenD_cons, sNil, sRet, sRetN, sSet, sSetN, sAsg, sIf, sFor, forD, sDrop, sApp, sExt, sPop, sPop0, sSetIx, sAug, sPar, sMove, sFreeze, sNever, sBreak, sCont, xFr, xVw, xSt, xOw, xTp, xC, xOp1, xOp2, xTup, xLst, xCons, xNil, xCall, xCB, xTst, xTru, xAndT, xOrT, xNotT, xAnd, xOr, xNot, xIf, xChain, xCut, xSome, xNo, xIsi, xLc, xSeq, xRng1, xRng2, xYes, fRng1, fRng2, fSeq, dgN, dgT, dgCons, dgNil, Env.get, Env.put, env0, slOf, wipeR, List.set, List.set_cons_zero, List.set_cons_succ, List.getD_cons_zero, List.getD_cons_succ, List.length_cons, List.length_nil, fBool, fTru, fI20, fI2, fI1, fIsi, fOwL, fInt, fListQ, List.replicate, List.append_nil, List.nil_append, List.cons_append, Bool.false_eq_true, if_false, if_true, reduceIte, Nat.reduceSub, Nat.reduceAdd, true_and, and_true, Nat.zero_add, fLe, fLt, fGe, fGt, fAddI, fSubI, fMulI, fDivI, fModI, fNeg, fIx_t0, fIx_t1, fIx_t2, fIx_t3, xLc2, xZip, fZip, xIndex, fIndex, sRaise, fMulL, fListQ, xIsE, xFld, sTry, sTry0]
        refine lcD_all (fun v : List Int => .tuple (v.map .int)) (fun v => .int (at0 v k)) (g :: gs) _ (fun v hv R R0 r2 => ?_) ?_
        · simp only [sSeq_eq, thenD_cons, sNil, sRet, sRetN, sSet, sSetN, sAsg, sIf, sFor, forD, sDrop, sApp, sExt, sPop, sPop0, sSetIx, sAug, sPar, sMove, sFreeze, sNever, sBreak, sCont, xFr, xVw, xSt, xOw, xTp, xC, xOp1, xOp2, xTup, xLst, xCons, xNil, xCall, xCB, xTst, xTru, xAndT, xOrT, xNotT, xAnd, xOr, xNot, xIf, xChain, xCut, xSome, xNo, xIsi, xLc, xSeq, xRng1, xRng2, xYes, fRng1, fRng2, fSeq, dgN, dgT, dgCons, dgNil, Env.get, Env.put, env0, slOf, wipeR, List.set, List.set_cons_zero, List.set_cons_succ, List.getD_cons_zero, List.getD_cons_succ, List.length_cons, List.length_nil, fBool, fTru, fI20, fI2, fI1, fIsi, fOwL, fInt, fListQ, List.replicate, List.append_nil, List.nil_append, List.cons_append, Bool.false_eq_true, if_false, if_true, reduceIte, Nat.reduceSub, Nat.reduceAdd, true_and, and_true, Nat.zero_add, fLe, fLt, fGe, fGt, fAddI, fSubI, fMulI, fDivI, fModI, fNeg, fIx_t0, fIx_t1, fIx_t2, fIx_t3, xLc2, xZip, fZip, xIndex, fIndex, sRaise, fMulL, fListQ, xIsE, xFld, sTry, sTry0]
          exact ix_int (by rw [h2 v (hgm v hv) g (hgm g (by simp))]; exact hk') r2
        · refine ⟨(g :: gs).map (at0 · k), by rw [List.map_map]; rfl, by simp, fun m hm hmin => ?_⟩
          rw [minOf_eq hm hmin]
          exact r1
      · have := qq g gs hg
        simpa [fTuple, List.map_map, Function.comp_def] using this
section
variable {P : Program} {w : World} {K : PySem.W.Frag} {mg : Str → Option Value} {base : Heap} {T : Tape}
abbrev s__law_records : Stmt := top 28
theorem sc__law_records : FnScope ["schema", "found", "name", "low", "high", "one", "other", "more", "answers", "answer"] ["schema"] (defScope s__law_records) := ⟨rfl, rfl, rfl, by decide +kernel, rfl, by decide +kernel, by decide +kernel⟩
theorem ok__law_records (D : DefD K mg "_law_records" s__law_records ["schema"]) (bn : Bn mg) : FnD P w K mg base T "_law_records" 1 sp_law_records := by
  refine fnD (N := ["schema", "found", "name", "low", "high", "one", "other", "more", "answers", "answer"]) (B := b__law_records) D sc__law_records rfl (.inr rfl) (fun f cdv A outer s H E hr => ?_) pure__law_records
  have nd := sc__law_records.nd
  have tk : Takes (cxOf (L2.CX P w) P w K mg base ["schema", "found", "name", "low", "high", "one", "other", "more", "answers", "answer"] "_law_records" (defScope s__law_records) f cdv A outer s H E) (fun c d _ H => E c d H) := takes_of rfl rfl rfl rfl
  exact (pssx_cons (psx_setN 1 nd rfl (by first | exact Or.inl rfl | exact Or.inr rfl) (px_lst (pax_cons (k := .fr) (px_tup pax_nil) pax_nil)))
  (pssx_cons (psx_for (passes_of rfl) rfl (pix_seq (m := true) (PX.frSt (px_ix (px_vw 0 (pv 0)) (PX.frVw px_int)))) (pgx_t rfl (pgsx_cons (pgx_n 2 (pg_name nd rfl (by first | exact Or.inl rfl | exact Or.inr rfl))) (pgsx_cons (pgx_n 3 (pg_name nd rfl (by first | exact Or.inl rfl | exact Or.inr rfl))) (pgsx_cons (pgx_n 4 (pg_name nd rfl (by first | exact Or.inl rfl | exact Or.inr rfl))) pgsx_nil))) 3) (pssx_cons (psx_setN 7 nd rfl (by first | exact Or.inl rfl | exact Or.inr rfl) (px_lst pax_nil))
  (pssx_cons (psx_freeze 1 (psx_for (passes_of rfl) rfl (pix_seq (m := true) (px_st 1 (pv 1))) (pgx_n 8 (pg_name nd rfl (by first | exact Or.inl rfl | exact Or.inr rfl))) (pssx_one (psx_ext 7 (px_lc (own := [("answer", 9)]) rfl nd (pix_range2 (m := false) (by rfl) bn.range (pax_cons (k := .vw) (px_vw 3 (pv 3)) (pax_cons (k := .vw) (PX.frVw (px_addI (px_vw 4 (pv 4)) (PX.frVw px_int))) pax_nil))) (blkOk_by (by first | (change blkC ["schema", "found", "name", "low", "high", "one", "other", "more", "answers", "answer"] (defScope s__law_records) _ _ = true; decide +kernel) | rfl)) (fun _ _ _ _ _ => (pgx_n 9 (pg_name nd rfl (by first | exact Or.inl rfl | exact Or.inr rfl)))) (fun _ _ _ _ _ => ptsx_nil) (fun _ _ _ _ _ => (px_addT (px_vw 8 (pv 8)) (PX.frVw (px_tup (pax_cons (k := .fr) (px_fr 9 (pv 9)) pax_nil)))))) (fun h => ps_expr (pe_bm PySem.F.plainAttrs_list PySem.F.slot_list_extend PySem.F.type_list_extend mt_extend (pv 7) (pa_cons h pa_nil)))))))
  (pssx_one (psx_move 1 7 nd rfl (by first | exact Or.inl rfl | exact Or.inr rfl) (pv 7))))))
  (pssx_cons (psx_for (passes_of rfl) rfl (pix_seq (m := true) (PX.frSt (px_ix (px_vw 0 (pv 0)) (PX.frVw px_int)))) (pgx_t rfl (pgsx_cons (pgx_n 5 (pg_name nd rfl (by first | exact Or.inl rfl | exact Or.inr rfl))) (pgsx_cons (pgx_n 6 (pg_name nd rfl (by first | exact Or.inl rfl | exact Or.inr rfl))) pgsx_nil)) 2) (pssx_one (psx_setLc 1 (own := [("answers", 8)]) rfl nd rfl rfl (sw_true rfl rfl rfl (by decide +kernel)) (pix_seq (m := false) (px_vw 1 (pv 1))) (blkOk_by (by first | (change blkC ["schema", "found", "name", "low", "high", "one", "other", "more", "answers", "answer"] (defScope s__law_records) _ _ = true; decide +kernel) | rfl)) (fun _ _ _ _ _ => (pgx_n 8 (pg_name nd rfl (by first | exact Or.inl rfl | exact Or.inr rfl)))) (fun _ _ _ _ _ => (ptsx_one (PWx.pt (pw_o (ptx_cmp op_lt (PX.frVw (px_ix (px_vw 8 (pv 8)) (PX.frVw (px_ix (px_vw 5 (pv 5)) (PX.frVw px_int))))) (PX.frVw (px_ix (px_vw 5 (pv 5)) (PX.frVw px_int))) r2_lt (nomark _)) (pw_1o (ptx_cmp op_ge (PX.frVw (px_ix (px_vw 8 (pv 8)) (PX.frVw (px_ix (px_vw 6 (pv 6)) (PX.frVw px_int))))) (PX.frVw (px_ix (px_vw 6 (pv 6)) (PX.frVw px_int))) r2_ge (nomark _))))))) (fun _ _ _ _ _ => (px_fr 8 (pv 8))))))
  (pssx_one (psx_ret (px_ow 1 (pv 1)) (.inr rfl))))))

abbrev s__law_least : Stmt := top 29
theorem sc__law_least : FnScope ["schema", "demands", "error"] ["schema", "demands"] (defScope s__law_least) := ⟨rfl, rfl, rfl, by decide +kernel, rfl, by decide +kernel, by decide +kernel⟩
theorem ok__law_least (D : DefD K mg "_law_least" s__law_least ["schema", "demands"]) (bn : Bn mg) (h_least_record : FnD P w K mg base T "least_record" 5 sp_least_record) (tb : XTab K mg xnames xflds xtgts xsub) : FnD P w K mg base T "_law_least" 6 sp_law_least := by
  refine fnD (N := ["schema", "demands", "error"]) (B := b__law_least) D sc__law_least rfl (.inl rfl) (fun f cdv A outer s H E hr => ?_) pure__law_least
  have nd := sc__law_least.nd
  have tk : Takes (cxOf (L2.CX P w) P w K mg base ["schema", "demands", "error"] "_law_least" (defScope s__law_least) f cdv A outer s H E) (fun c d _ H => E c d H) := takes_of rfl rfl rfl rfl
  exact (pssx_one (psx_tryAs 2 rfl rfl nd rfl rfl tb (by decide) (by rfl) (by decide) tk (fun W1 pn xe tk pw => (pssx_one (psx_ret (px_tup (pax_cons (k := .fr) px_str (pax_cons (k := .fr) (px_callF h_least_record tk (hr.mono (by decide)) (by rfl) (pax_cons (k := .fr) (px_fr 0 (pv 0)) (pax_cons (k := .fr) (px_fr 1 (pv 1)) pax_nil))) pax_nil))) (.inl rfl)))) (fun a oe cls d pn hz hf x C hm hc => (pssx_one (psx_ret (px_ite (PWx.pt (pw_a (ptx_tru (PX.frVw (px_isE 2 tb (by decide) hz hf hm hc (by rfl) bn.isinstance (by rfl) (by decide) (pv 2)))) (pw_1a (ptx_tru (PX.frVw (px_isE 2 tb (by decide) hz hf hm hc (by rfl) bn.isinstance (by rfl) (by decide) (pv 2))))))) (px_tup (pax_cons (k := .fr) px_str (pax_cons (k := .fr) (px_fld 2 tb (by decide) hz hf hm hc (pv 2)) pax_nil))) (px_tup (pax_cons (k := .fr) px_str (pax_cons (k := .fr) px_str pax_nil)))) (.inl rfl))))))

abbrev s__law_is_record : Stmt := top 32
theorem sc__law_is_record : FnScope ["schema", "records", "thing", "part"] ["schema", "records", "thing"] (defScope s__law_is_record) := ⟨rfl, rfl, rfl, by decide +kernel, rfl, by decide +kernel, by decide +kernel⟩
theorem ok__law_is_record (D : DefD K mg "_law_is_record" s__law_is_record ["schema", "records", "thing"]) (bn : Bn mg) : FnD P w K mg base T "_law_is_record" 1 sp_law_is_record := by
  refine fnD (N := ["schema", "records", "thing", "part"]) (B := b__law_is_record) D sc__law_is_record rfl (.inl rfl) (fun f cdv A outer s H E hr => ?_) pure__law_is_record
  have nd := sc__law_is_record.nd
  have tk : Takes (cxOf (L2.CX P w) P w K mg base ["schema", "records", "thing", "part"] "_law_is_record" (defScope s__law_is_record) f cdv A outer s H E) (fun c d _ H => E c d H) := takes_of rfl rfl rfl rfl
  exact (pssx_cons (psx_if (PWx.pt (pw_o (ptx_not (ptx_tru (PX.frVw (px_isi (t := "tuple") (by decide) (by rfl) bn.isinstance (by rfl) bn.tuple PyProof.Rows.boot_tuple (by decide) (by decide) (px_vw 2 (pv 2)))))) (pw_1o (ptx_cmp op_gt (PX.frVw (px_b call_len rc_len (by rfl) bn.len PySem.boot_len (pax_cons (k := .vw) (PX.nwVw (px_lc (own := [("part", 3)]) rfl nd (pix_seq (m := false) (px_vw 2 (pv 2))) (blkOk_by (by first | (change blkC ["schema", "records", "thing", "part"] (defScope s__law_is_record) _ _ = true; decide +kernel) | rfl)) (fun _ _ _ _ _ => (pgx_n 3 (pg_name nd rfl (by first | exact Or.inl rfl | exact Or.inr rfl)))) (fun _ _ _ _ _ => (ptsx_one (PWx.pt (pw_o (ptx_not (ptx_tru (PX.frVw (px_isi (t := "int") (by decide) (by rfl) bn.isinstance (by rfl) bn.int PyProof.Rows.boot_int (by decide) (by decide) (px_vw 3 (pv 3)))))) (pw_1o (ptx_tru (PX.frVw (px_isi (t := "bool") (by decide) (by rfl) bn.isinstance (by rfl) bn.bool PyProof.Rows.boot_bool (by decide) (by decide) (px_vw 3 (pv 3)))))))))) (fun _ _ _ _ _ => (px_fr 3 (pv 3))))) pax_nil))) (PX.frVw px_int) r2_gt (nomark _))))) (pssx_one (psx_ret px_bl (.inl rfl))) pssx_nil)
  (pssx_one (psx_ret (px_cmp (op_inA (hu65 hr)) (px_vw 2 (pv 2)) (px_vw 1 (pv 1)) r2_in (by with_unfolding_all rfl)) (.inl rfl))))

abbrev s__law_due : Stmt := top 30
theorem sc__law_due : FnScope ["records", "demands", "good", "field", "answer", "record", "at"] ["records", "demands"] (defScope s__law_due) := ⟨rfl, rfl, rfl, by decide +kernel, rfl, by decide +kernel, by decide +kernel⟩
theorem ok__law_due (D : DefD K mg "_law_due" s__law_due ["records", "demands"]) (bn : Bn mg) : FnD P w K mg base T "_law_due" 1 sp_law_due := by
  refine fnD (N := ["records", "demands", "good", "field", "answer", "record", "at"]) (B := b__law_due) D sc__law_due rfl (.inl rfl) (fun f cdv A outer s H E hr => ?_) pure__law_due
  have nd := sc__law_due.nd
  have tk : Takes (cxOf (L2.CX P w) P w K mg base ["records", "demands", "good", "field", "answer", "record", "at"] "_law_due" (defScope s__law_due) f cdv A outer s H E) (fun c d _ H => E c d H) := takes_of rfl rfl rfl rfl
  exact (pssx_cons (psx_if (ptx_cmp (op_eqD (hu64 hr)) (PX.frVw (px_b call_len rc_len (by rfl) bn.len PySem.boot_len (pax_cons (k := .vw) (px_vw 0 (pv 0)) pax_nil))) (PX.frVw px_int) r2_eq (nomark _)) (pssx_one (psx_ret (px_tup (pax_cons (k := .fr) px_str (pax_cons (k := .fr) px_str pax_nil))) (.inl rfl))) pssx_nil)
  (pssx_cons (psx_set 2 nd rfl (by first | exact Or.inl rfl | exact Or.inr rfl) (px_fr 0 (pv 0)))
  (pssx_cons (psx_for (passes_of rfl) rfl (pix_seq (m := true) (px_st 1 (pv 1))) (pgx_t rfl (pgsx_cons (pgx_n 3 (pg_name nd rfl (by first | exact Or.inl rfl | exact Or.inr rfl))) (pgsx_cons (pgx_n 4 (pg_name nd rfl (by first | exact Or.inl rfl | exact Or.inr rfl))) pgsx_nil)) 2) (pssx_one (psx_nfr (psx_setN 2 nd rfl (by first | exact Or.inl rfl | exact Or.inr rfl) (px_lc (own := [("record", 5)]) rfl nd (pix_seq (m := false) (px_vw 2 (pv 2))) (blkOk_by (by first | (change blkC ["records", "demands", "good", "field", "answer", "record", "at"] (defScope s__law_due) _ _ = true; decide +kernel) | rfl)) (fun _ _ _ _ _ => (pgx_n 5 (pg_name nd rfl (by first | exact Or.inl rfl | exact Or.inr rfl)))) (fun _ _ _ _ _ => (ptsx_one (ptx_cmp op_ge (PX.frVw (px_ix (px_vw 5 (pv 5)) (px_vw 3 (pv 3)))) (px_vw 4 (pv 4)) r2_ge (nomark _)))) (fun _ _ _ _ _ => (px_fr 5 (pv 5))))))))
  (pssx_cons (psx_if (ptx_cmp (op_eqD (hu64 hr)) (PX.frVw (px_b call_len rc_len (by rfl) bn.len PySem.boot_len (pax_cons (k := .vw) (px_vw 2 (pv 2)) pax_nil))) (PX.frVw px_int) r2_eq (nomark _)) (pssx_one (psx_ret (px_tup (pax_cons (k := .fr) px_str (pax_cons (k := .fr) px_str pax_nil))) (.inl rfl))) pssx_nil)
  (pssx_one (psx_ret (px_tup (pax_cons (k := .fr) px_str (pax_cons (k := .fr) (px_ty call_tuple_of rc_tuple (by rfl) bn.tuple PyProof.Rows.boot_tuple (pax_cons (k := .vw) (PX.nwVw (px_lc (own := [("at", 6)]) rfl nd (pix_range1 (m := false) (by rfl) bn.range (pax_cons (k := .vw) (PX.frVw (px_b call_len rc_len (by rfl) bn.len PySem.boot_len (pax_cons (k := .vw) (PX.frVw (px_ix (px_vw 2 (pv 2)) (PX.frVw px_int))) pax_nil))) pax_nil)) (blkOk_by (by first | (change blkC ["records", "demands", "good", "field", "answer", "record", "at"] (defScope s__law_due) _ _ = true; decide +kernel) | rfl)) (fun _ _ _ _ _ => (pgx_n 6 (pg_name nd rfl (by first | exact Or.inl rfl | exact Or.inr rfl)))) (fun _ _ _ _ _ => ptsx_nil) (fun _ _ _ _ _ => (px_b (cr_min rfl) rc_minL (by rfl) bn.min PyProof.Rows.boot_min (pax_cons (k := .vw) (PX.nwVw (px_lc (own := [("record", 5)]) rfl nd (pix_seq (m := false) (px_vw 2 (pv 2))) (blkOk_by (by first | (change blkC ["records", "demands", "good", "field", "answer", "record", "at"] (defScope s__law_due) _ _ = true; decide +kernel) | rfl)) (fun _ _ _ _ _ => (pgx_n 5 (pg_name nd rfl (by first | exact Or.inl rfl | exact Or.inr rfl)))) (fun _ _ _ _ _ => ptsx_nil) (fun _ _ _ _ _ => (px_ix (px_vw 5 (pv 5)) (px_vw 6 (pv 6)))))) pax_nil))))) pax_nil)) pax_nil))) (.inl rfl)))))))
end
end K07

set_option maxRecDepth 100000
set_option maxHeartbeats 4000000
namespace K07
open PySem PySem.Spec PyProof.Rows L2 Dt
theorem shaped_bool (b : Bool) : SeqAt.shaped (.bool b) = true := by simp [SeqAt.shaped, PyData.canLay0, PyData.depth]
theorem shaped_str {x : Str} (h : PyData.canLay0 (.str x) = true) : SeqAt.shaped (.str x) = true := by simp [SeqAt.shaped, h, PyData.depth]
theorem fNe_bool {a b : Bool} {Q : D → Prop} : fNe (.bool a) (.bool b) Q = Q (.bool (!(a == b))) := by simp [fNe, shaped_bool, PyData.eqv]
theorem fNe_str {x : Str} (h : PyData.canLay0 (.str x) = true) {Q : D → Prop} : fNe (.str x) (.str x) Q = Q (.bool false) := by simp [fNe, shaped_str h, PyData.eqv]
theorem fNe_int {a b : Int} {Q : D → Prop} : fNe (.int a) (.int b) Q = Q (.bool (!(a == b))) := by simp [fNe]
abbrev prs (xs : List D) : List D := xs.map fun x => .tuple [x, x]
theorem isA_tt (ds : List D) : isA "tuple" (.tuple ds) = true := by simp [isA, isTn, tyOf]
theorem isA_tl (ds : List D) : isA "tuple" (.list ds) = false := by simp [isA, isTn, tyOf]
theorem isA_lt (ds : List D) : isA "list" (.tuple ds) = false := by simp [isA, isTn, tyOf]
theorem isA_ll (ds : List D) : isA "list" (.list ds) = true := by simp [isA, isTn, tyOf]
/-- _law_same: 0 told, 1 due, 2 left, 3 one, 4 other, 5 at -/
noncomputable def b__law_same : DS :=
  (sSeq (sSetN 2 ((xLst (xCons ((xTup (xCons (xFr 0) (xCons (xFr 1) xNil)))) xNil))))
  (sSeq (whileD ((xTst (xOp2 fGt ((xCB fLen (xCons (xVw 2) xNil))) (xC (.int 0))))) (sSeq (sPop 2 (dgT 2 (dgCons (dgN 3) (dgCons (dgN 4) dgNil))))
  (sSeq (sIf ((xOrT ((xTst (xOp2 fNe ((xIsi "tuple" (xVw 3))) ((xIsi "tuple" (xVw 4)))))) ((xTst (xOp2 fNe ((xIsi "list" (xVw 3))) ((xIsi "list" (xVw 4)))))))) (sRet (xC (.bool false))) sNil)
  (sIf ((xOrT ((xTru ((xIsi "tuple" (xVw 4))))) ((xTru ((xIsi "list" (xVw 4))))))) (sSeq (sIf ((xTst (xOp2 fNe ((xCB fLen (xCons (xVw 3) xNil))) ((xCB fLen (xCons (xVw 4) xNil)))))) (sRet (xC (.bool false))) sNil)
  (sExt 2 ((xLc (xRng1 (xCons ((xCB fLen (xCons (xVw 4) xNil))) xNil)) (dgN 5) (xYes) ((xTup (xCons ((xOp2 fIx (xVw 3) (xVw 5))) (xCons ((xOp2 fIx (xVw 4) (xVw 5))) xNil)))) [5])))) (sIf ((xTst (xOp2 fIsN (xVw 4) (xC .none)))) (sIf ((xTst (xOp2 fNotN (xVw 3) (xC .none)))) (sRet (xC (.bool false))) sNil) (sIf ((xTru ((xIsi "bool" (xVw 4))))) (sIf ((xOrT ((xNotT ((xTru ((xIsi "bool" (xVw 3))))))) ((xTst (xOp2 fNe (xVw 3) (xVw 4)))))) (sRet (xC (.bool false))) sNil) (sIf ((xTru ((xIsi "int" (xVw 4))))) (sIf ((xOrT ((xNotT ((xTru ((xIsi "int" (xVw 3))))))) ((xOrT ((xTru ((xIsi "bool" (xVw 3))))) ((xTst (xOp2 fNe (xVw 3) (xVw 4)))))))) (sRet (xC (.bool false))) sNil) (sIf ((xOrT ((xNotT ((xTru ((xIsi "str" (xVw 3))))))) ((xTst (xOp2 fNe (xVw 3) (xVw 4)))))) (sRet (xC (.bool false))) sNil))))))))
  (sRet (xC (.bool true)))))
theorem pure__law_same : PureOk sp_law_same b__law_same 6 := by
  rintro ds Q Qx ⟨d, rfl, hd, q⟩
  simp only [b__law_same, sp_law_same, whileD, sSeq_eq, thenD_cons, sNil, sRet, sRetN, sSet, sSetN, sAsg, sIf, sFor, forD, sDrop, sApp, sExt, sPop, sPop0, sSetIx, sAug, sPar, sMove, sFreeze, sNever, sBreak, sCont, xFr, xVw, xSt, xOw, xTp, xC, xOp1, xOp2, xTup, xLst, xCons, xNil, xCall, xCB, xTst, xTru, xAndT, xOrT, xNotT, xAnd, xOr, xNot, xIf, xChain, xCut, xSome, xNo, xIsi, xLc, xSeq, xRng1, xRng2, xYes, fRng1, fRng2, fSeq, dgN, dgT, dgCons, dgNil, Env.get, Env.put, env0, slOf, wipeR, List.set, List.set_cons_zero, List.set_cons_succ, List.getD_cons_zero, List.getD_cons_succ, List.length_cons, List.length_nil, fBool, fTru, fI20, fI2, fI1, fIsi, fOwL, fInt, fListQ, List.replicate, List.append_nil, List.nil_append, List.cons_append, Bool.false_eq_true, if_false, if_true, reduceIte, Nat.reduceSub, Nat.reduceAdd, true_and, and_true, Nat.zero_add, fLe, fLt, fGe, fGt, fAddI, fSubI, fMulI, fDivI, fModI, fNeg, fIx_t0, fIx_t1, fIx_t2, fIx_t3, xLc2, xZip, fZip, xIndex, fIndex, sRaise, fMulL, fListQ, xIsE, xFld, sTry, sTry0]
  refine ⟨fun m ρ => ∃ xs a b, ρ = ([.fr d, .fr d, .ow (.list (prs xs)), a, b, .un] : Dt.Env) ∧ (∀ x ∈ xs, noD x = true) ∧ m = nodesL xs ∧ nodesL xs ≤ 100000, ⟨_, [d], .un, .un, rfl, by simpa using hd.no, rfl, by simpa [nodesL] using hd.few⟩, ?_⟩
  rintro m ρ ⟨xs, a, b, rfl, hno, rfl, hfew⟩
  simp only [fLen, sSeq_eq, thenD_cons, sNil, sRet, sRetN, sSet, sSetN, sAsg, sIf, sFor, forD, sDrop, sApp, sExt, sPop, sPop0, sSetIx, sAug, sPar, sMove, sFreeze, sNever, sBreak, sCont, xFr, xVw, xSt, xOw, xTp, xC, xOp1, xOp2, xTup, xLst, xCons, xNil, xCall, xCB, xTst, xTru, xAndT, xOrT, xNotT, xAnd, xOr, xNot, xIf, xChain, xCut, xSome, xNo, xIsi, xLc, xSeq, xRng1, xRng2, xYes, fRng1, fRng2, fSeq, dgN, dgT, dgCons, dgNil, Env.get, Env.put, env0, slOf, wipeR, List.set, List.set_cons_zero, List.set_cons_succ, List.getD_cons_zero, List.getD_cons_succ, List.length_cons, List.length_nil, fBool, fTru, fI20, fI2, fI1, fIsi, fOwL, fInt, fListQ, List.replicate, List.append_nil, List.nil_append, List.cons_append, Bool.false_eq_true, if_false, if_true, reduceIte, Nat.reduceSub, Nat.reduceAdd, true_and, and_true, Nat.zero_add, fLe, fLt, fGe, fGt, fAddI, fSubI, fMulI, fDivI, fModI, fNeg, fIx_t0, fIx_t1, fIx_t2, fIx_t3, xLc2, xZip, fZip, xIndex, fIndex, sRaise, fMulL, fListQ, xIsE, xFld, sTry, sTry0, List.length_map]
  by_cases hx : xs = []
  · subst hx
    simp only [List.length_nil, sSeq_eq, thenD_cons, sNil, sRet, sRetN, sSet, sSetN, sAsg, sIf, sFor, forD, sDrop, sApp, sExt, sPop, sPop0, sSetIx, sAug, sPar, sMove, sFreeze, sNever, sBreak, sCont, xFr, xVw, xSt, xOw, xTp, xC, xOp1, xOp2, xTup, xLst, xCons, xNil, xCall, xCB, xTst, xTru, xAndT, xOrT, xNotT, xAnd, xOr, xNot, xIf, xChain, xCut, xSome, xNo, xIsi, xLc, xSeq, xRng1, xRng2, xYes, fRng1, fRng2, fSeq, dgN, dgT, dgCons, dgNil, Env.get, Env.put, env0, slOf, wipeR, List.set, List.set_cons_zero, List.set_cons_succ, List.getD_cons_zero, List.getD_cons_succ, List.length_cons, List.length_nil, fBool, fTru, fI20, fI2, fI1, fIsi, fOwL, fInt, fListQ, List.replicate, List.append_nil, List.nil_append, List.cons_append, Bool.false_eq_true, if_false, if_true, reduceIte, Nat.reduceSub, Nat.reduceAdd, true_and, and_true, Nat.zero_add, fLe, fLt, fGe, fGt, fAddI, fSubI, fMulI, fDivI, fModI, fNeg, fIx_t0, fIx_t1, fIx_t2, fIx_t3, xLc2, xZip, fZip, xIndex, fIndex, sRaise, fMulL, fListQ, xIsE, xFld, sTry, sTry0]
    exact q
  · have h0 : (0 : Int) < ((xs.length : Nat) : Int) := by have := List.length_pos_iff.mpr hx; omega
    simp only [h0, decide_true, sSeq_eq, thenD_cons, sNil, sRet, sRetN, sSet, sSetN, sAsg, sIf, sFor, forD, sDrop, sApp, sExt, sPop, sPop0, sSetIx, sAug, sPar, sMove, sFreeze, sNever, sBreak, sCont, xFr, xVw, xSt, xOw, xTp, xC, xOp1, xOp2, xTup, xLst, xCons, xNil, xCall, xCB, xTst, xTru, xAndT, xOrT, xNotT, xAnd, xOr, xNot, xIf, xChain, xCut, xSome, xNo, xIsi, xLc, xSeq, xRng1, xRng2, xYes, fRng1, fRng2, fSeq, dgN, dgT, dgCons, dgNil, Env.get, Env.put, env0, slOf, wipeR, List.set, List.set_cons_zero, List.set_cons_succ, List.getD_cons_zero, List.getD_cons_succ, List.length_cons, List.length_nil, fBool, fTru, fI20, fI2, fI1, fIsi, fOwL, fInt, fListQ, List.replicate, List.append_nil, List.nil_append, List.cons_append, Bool.false_eq_true, if_false, if_true, reduceIte, Nat.reduceSub, Nat.reduceAdd, true_and, and_true, Nat.zero_add, fLe, fLt, fGe, fGt, fAddI, fSubI, fMulI, fDivI, fModI, fNeg, fIx_t0, fIx_t1, fIx_t2, fIx_t3, xLc2, xZip, fZip, xIndex, fIndex, sRaise, fMulL, fListQ, xIsE, xFld, sTry, sTry0]
    obtain ⟨ys, y, rfl⟩ : ∃ ys y, xs = ys ++ [y] := ⟨xs.dropLast, xs.getLast hx, (List.dropLast_concat_getLast hx).symm⟩
    rw [show prs (ys ++ [y]) = prs ys ++ [.tuple [y, y]] from by simp [prs]]
    simp only [List.getLast?_concat, List.dropLast_concat, sSeq_eq, thenD_cons, sNil, sRet, sRetN, sSet, sSetN, sAsg, sIf, sFor, forD, sDrop, sApp, sExt, sPop, sPop0, sSetIx, sAug, sPar, sMove, sFreeze, sNever, sBreak, sCont, xFr, xVw, xSt, xOw, xTp, xC, xOp1, xOp2, xTup, xLst, xCons, xNil, xCall, xCB, xTst, xTru, xAndT, xOrT, xNotT, xAnd, xOr, xNot, xIf, xChain, xCut, xSome, xNo, xIsi, xLc, xSeq, xRng1, xRng2, xYes, fRng1, fRng2, fSeq, dgN, dgT, dgCons, dgNil, Env.get, Env.put, env0, slOf, wipeR, List.set, List.set_cons_zero, List.set_cons_succ, List.getD_cons_zero, List.getD_cons_succ, List.length_cons, List.length_nil, fBool, fTru, fI20, fI2, fI1, fIsi, fOwL, fInt, fListQ, List.replicate, List.append_nil, List.nil_append, List.cons_append, Bool.false_eq_true, if_false, if_true, reduceIte, Nat.reduceSub, Nat.reduceAdd, true_and, and_true, Nat.zero_add, fLe, fLt, fGe, fGt, fAddI, fSubI, fMulI, fDivI, fModI, fNeg, fIx_t0, fIx_t1, fIx_t2, fIx_t3, xLc2, xZip, fZip, xIndex, fIndex, sRaise, fMulL, fListQ, xIsE, xFld, sTry, sTry0]
    have hy := hno y (by simp)
    have hys : ∀ x ∈ ys, noD x = true := fun x hx => hno x (List.mem_append_left _ hx)
    rw [nodesL_app] at hfew ⊢
    have hyn := nodes_pos y
    simp only [nodesL, Nat.add_zero] at hfew ⊢
    have stay : ∀ a b, ∃ m', m' < nodesL ys + nodes y ∧ ∃ xs a' b', ([.fr d, .fr d, .ow (.list (prs ys)), a, b, .un] : Dt.Env) = [.fr d, .fr d, .ow (.list (prs xs)), a', b', .un] ∧ (∀ x ∈ xs, noD x = true) ∧ m' = nodesL xs ∧ nodesL xs ≤ 100000 :=
      fun a b => ⟨nodesL ys, by omega, ys, a, b, rfl, hys, rfl, by omega⟩
    have kids : ∀ (cs : List D), nodes y = nodesL cs + 1 → (∀ x ∈ cs, noD x = true) → ∀ a b, (prs ys).length + (prs cs).length ≤ sizeLine ∧ ∃ m', m' < nodesL ys + nodes y ∧ ∃ xs a' b', ([.fr d, .fr d, .ow (.list (prs ys ++ prs cs)), a, b, .un] : Dt.Env) = [.fr d, .fr d, .ow (.list (prs xs)), a', b', .un] ∧ (∀ x ∈ xs, noD x = true) ∧ m' = nodesL xs ∧ nodesL xs ≤ 100000 := by
      intro cs hc hcn a b
      have l1 := len_le_nodesL ys
      have l2 := len_le_nodesL cs
      refine ⟨by rw [sizeLine_eq]; simp only [List.length_map]; omega, nodesL (ys ++ cs), by rw [nodesL_app]; omega, ys ++ cs, a, b, by simp [prs], fun x hx => ?_, rfl, by rw [nodesL_app]; omega⟩
      rcases List.mem_append.mp hx with z | z
      · exact hys x z
      · exact hcn x z
    have rg : ∀ cs : List D, rngD 0 ((cs.length : Nat) : Int).toNat = (List.range cs.length).map fun k => (.int (k : Int)) := fun cs => by simp [rngD]
    have pr : ∀ cs : List D, ((List.range cs.length).map fun k => (.tuple [cs.getD k .none, cs.getD k .none] : D)) = prs cs := fun cs => by
      refine List.ext_getElem (by simp) fun k h1 h2 => ?_
      have : k < cs.length := by simpa using h1
      simp [List.getD_eq_getElem?_getD, this]
    cases y with
    | dict _ => simp [noD] at hy
    | tuple cs =>
      simp only [isA_tt, isA_lt, fNe_bool, fNe_int, sSeq_eq, thenD_cons, sNil, sRet, sRetN, sSet, sSetN, sAsg, sIf, sFor, forD, sDrop, sApp, sExt, sPop, sPop0, sSetIx, sAug, sPar, sMove, sFreeze, sNever, sBreak, sCont, xFr, xVw, xSt, xOw, xTp, xC, xOp1, xOp2, xTup, xLst, xCons, xNil, xCall, xCB, xTst, xTru, xAndT, xOrT, xNotT, xAnd, xOr, xNot, xIf, xChain, xCut, xSome, xNo, xIsi, xLc, xSeq, xRng1, xRng2, xYes, fRng1, fRng2, fSeq, dgN, dgT, dgCons, dgNil, Env.get, Env.put, env0, slOf, wipeR, List.set, List.set_cons_zero, List.set_cons_succ, List.getD_cons_zero, List.getD_cons_succ, List.length_cons, List.length_nil, fBool, fTru, fI20, fI2, fI1, fIsi, fOwL, fInt, fListQ, List.replicate, List.append_nil, List.nil_append, List.cons_append, Bool.false_eq_true, if_false, if_true, reduceIte, Nat.reduceSub, Nat.reduceAdd, true_and, and_true, Nat.zero_add, fLe, fLt, fGe, fGt, fAddI, fSubI, fMulI, fDivI, fModI, fNeg, fIx_t0, fIx_t1, fIx_t2, fIx_t3, xLc2, xZip, fZip, xIndex, fIndex, sRaise, fMulL, fListQ, xIsE, xFld, sTry, sTry0, beq_self_eq_true, Bool.not_true, fLen]
      have hcl : cs.length ≤ 100000 := by have := len_le_nodesL cs; simp only [nodes] at hfew; omega
      refine ⟨by omega, by omega, ?_⟩
      rw [rg]
      refine lcD_all (fun k : Nat => (.int (k : Int))) (fun k => (.tuple [cs.getD k .none, cs.getD k .none] : D)) _ _ (fun k hk R R0 r1 => ?_) ?_
      · have hk' : k < cs.length := List.mem_range.mp hk
        simp only [sSeq_eq, thenD_cons, sNil, sRet, sRetN, sSet, sSetN, sAsg, sIf, sFor, forD, sDrop, sApp, sExt, sPop, sPop0, sSetIx, sAug, sPar, sMove, sFreeze, sNever, sBreak, sCont, xFr, xVw, xSt, xOw, xTp, xC, xOp1, xOp2, xTup, xLst, xCons, xNil, xCall, xCB, xTst, xTru, xAndT, xOrT, xNotT, xAnd, xOr, xNot, xIf, xChain, xCut, xSome, xNo, xIsi, xLc, xSeq, xRng1, xRng2, xYes, fRng1, fRng2, fSeq, dgN, dgT, dgCons, dgNil, Env.get, Env.put, env0, slOf, wipeR, List.set, List.set_cons_zero, List.set_cons_succ, List.getD_cons_zero, List.getD_cons_succ, List.length_cons, List.length_nil, fBool, fTru, fI20, fI2, fI1, fIsi, fOwL, fInt, fListQ, List.replicate, List.append_nil, List.nil_append, List.cons_append, Bool.false_eq_true, if_false, if_true, reduceIte, Nat.reduceSub, Nat.reduceAdd, true_and, and_true, Nat.zero_add, fLe, fLt, fGe, fGt, fAddI, fSubI, fMulI, fDivI, fModI, fNeg, fIx_t0, fIx_t1, fIx_t2, fIx_t3, xLc2, xZip, fZip, xIndex, fIndex, sRaise, fMulL, fListQ, xIsE, xFld, sTry, sTry0]
        refine fIx_t (d := cs.getD k .none) (by simp [List.getD_eq_getElem?_getD, hk']) ?_
        exact fIx_t (d := cs.getD k .none) (by simp [List.getD_eq_getElem?_getD, hk']) r1
      · rw [pr]
        exact kids cs (by simp [nodes]) (noDL_mem.mp (by simpa [noD] using hy)) _ _
    | list cs =>
      simp only [isA_tl, isA_ll, fNe_bool, fNe_int, sSeq_eq, thenD_cons, sNil, sRet, sRetN, sSet, sSetN, sAsg, sIf, sFor, forD, sDrop, sApp, sExt, sPop, sPop0, sSetIx, sAug, sPar, sMove, sFreeze, sNever, sBreak, sCont, xFr, xVw, xSt, xOw, xTp, xC, xOp1, xOp2, xTup, xLst, xCons, xNil, xCall, xCB, xTst, xTru, xAndT, xOrT, xNotT, xAnd, xOr, xNot, xIf, xChain, xCut, xSome, xNo, xIsi, xLc, xSeq, xRng1, xRng2, xYes, fRng1, fRng2, fSeq, dgN, dgT, dgCons, dgNil, Env.get, Env.put, env0, slOf, wipeR, List.set, List.set_cons_zero, List.set_cons_succ, List.getD_cons_zero, List.getD_cons_succ, List.length_cons, List.length_nil, fBool, fTru, fI20, fI2, fI1, fIsi, fOwL, fInt, fListQ, List.replicate, List.append_nil, List.nil_append, List.cons_append, Bool.false_eq_true, if_false, if_true, reduceIte, Nat.reduceSub, Nat.reduceAdd, true_and, and_true, Nat.zero_add, fLe, fLt, fGe, fGt, fAddI, fSubI, fMulI, fDivI, fModI, fNeg, fIx_t0, fIx_t1, fIx_t2, fIx_t3, xLc2, xZip, fZip, xIndex, fIndex, sRaise, fMulL, fListQ, xIsE, xFld, sTry, sTry0, beq_self_eq_true, Bool.not_true, fLen]
      have hcl : cs.length ≤ 100000 := by have := len_le_nodesL cs; simp only [nodes] at hfew; omega
      refine ⟨by omega, by omega, ?_⟩
      rw [rg]
      refine lcD_all (fun k : Nat => (.int (k : Int))) (fun k => (.tuple [cs.getD k .none, cs.getD k .none] : D)) _ _ (fun k hk R R0 r1 => ?_) ?_
      · have hk' : k < cs.length := List.mem_range.mp hk
        simp only [sSeq_eq, thenD_cons, sNil, sRet, sRetN, sSet, sSetN, sAsg, sIf, sFor, forD, sDrop, sApp, sExt, sPop, sPop0, sSetIx, sAug, sPar, sMove, sFreeze, sNever, sBreak, sCont, xFr, xVw, xSt, xOw, xTp, xC, xOp1, xOp2, xTup, xLst, xCons, xNil, xCall, xCB, xTst, xTru, xAndT, xOrT, xNotT, xAnd, xOr, xNot, xIf, xChain, xCut, xSome, xNo, xIsi, xLc, xSeq, xRng1, xRng2, xYes, fRng1, fRng2, fSeq, dgN, dgT, dgCons, dgNil, Env.get, Env.put, env0, slOf, wipeR, List.set, List.set_cons_zero, List.set_cons_succ, List.getD_cons_zero, List.getD_cons_succ, List.length_cons, List.length_nil, fBool, fTru, fI20, fI2, fI1, fIsi, fOwL, fInt, fListQ, List.replicate, List.append_nil, List.nil_append, List.cons_append, Bool.false_eq_true, if_false, if_true, reduceIte, Nat.reduceSub, Nat.reduceAdd, true_and, and_true, Nat.zero_add, fLe, fLt, fGe, fGt, fAddI, fSubI, fMulI, fDivI, fModI, fNeg, fIx_t0, fIx_t1, fIx_t2, fIx_t3, xLc2, xZip, fZip, xIndex, fIndex, sRaise, fMulL, fListQ, xIsE, xFld, sTry, sTry0]
        refine fIx_l (d := cs.getD k .none) (by simp [List.getD_eq_getElem?_getD, hk']) ?_
        exact fIx_l (d := cs.getD k .none) (by simp [List.getD_eq_getElem?_getD, hk']) r1
      · rw [pr]
        exact kids cs (by simp [nodes]) (noDL_mem.mp (by simpa [noD] using hy)) _ _
    | none =>
      simp [isA, isTn, tyOf, fNe_bool, fNe_int, fIsN, fNotN, isNon, sSeq_eq, thenD_cons, sNil, sRet, sRetN, sSet, sSetN, sAsg, sIf, sFor, forD, sDrop, sApp, sExt, sPop, sPop0, sSetIx, sAug, sPar, sMove, sFreeze, sNever, sBreak, sCont, xFr, xVw, xSt, xOw, xTp, xC, xOp1, xOp2, xTup, xLst, xCons, xNil, xCall, xCB, xTst, xTru, xAndT, xOrT, xNotT, xAnd, xOr, xNot, xIf, xChain, xCut, xSome, xNo, xIsi, xLc, xSeq, xRng1, xRng2, xYes, fRng1, fRng2, fSeq, dgN, dgT, dgCons, dgNil, Env.get, Env.put, env0, slOf, wipeR, List.set, List.set_cons_zero, List.set_cons_succ, List.getD_cons_zero, List.getD_cons_succ, List.length_cons, List.length_nil, fBool, fTru, fI20, fI2, fI1, fIsi, fOwL, fInt, fListQ, List.replicate, List.append_nil, List.nil_append, List.cons_append, Bool.false_eq_true, if_false, if_true, reduceIte, Nat.reduceSub, Nat.reduceAdd, true_and, and_true, Nat.zero_add, fLe, fLt, fGe, fGt, fAddI, fSubI, fMulI, fDivI, fModI, fNeg, fIx_t0, fIx_t1, fIx_t2, fIx_t3, xLc2, xZip, fZip, xIndex, fIndex, sRaise, fMulL, fListQ, xIsE, xFld, sTry, sTry0]
      exact ⟨nodesL ys, by omega, ys, rfl, hys, rfl, by omega⟩
    | bool z =>
      simp [isA, isTn, tyOf, fNe_bool, fNe_int, fIsN, fNotN, isNon, sSeq_eq, thenD_cons, sNil, sRet, sRetN, sSet, sSetN, sAsg, sIf, sFor, forD, sDrop, sApp, sExt, sPop, sPop0, sSetIx, sAug, sPar, sMove, sFreeze, sNever, sBreak, sCont, xFr, xVw, xSt, xOw, xTp, xC, xOp1, xOp2, xTup, xLst, xCons, xNil, xCall, xCB, xTst, xTru, xAndT, xOrT, xNotT, xAnd, xOr, xNot, xIf, xChain, xCut, xSome, xNo, xIsi, xLc, xSeq, xRng1, xRng2, xYes, fRng1, fRng2, fSeq, dgN, dgT, dgCons, dgNil, Env.get, Env.put, env0, slOf, wipeR, List.set, List.set_cons_zero, List.set_cons_succ, List.getD_cons_zero, List.getD_cons_succ, List.length_cons, List.length_nil, fBool, fTru, fI20, fI2, fI1, fIsi, fOwL, fInt, fListQ, List.replicate, List.append_nil, List.nil_append, List.cons_append, Bool.false_eq_true, if_false, if_true, reduceIte, Nat.reduceSub, Nat.reduceAdd, true_and, and_true, Nat.zero_add, fLe, fLt, fGe, fGt, fAddI, fSubI, fMulI, fDivI, fModI, fNeg, fIx_t0, fIx_t1, fIx_t2, fIx_t3, xLc2, xZip, fZip, xIndex, fIndex, sRaise, fMulL, fListQ, xIsE, xFld, sTry, sTry0]
      exact ⟨nodesL ys, by omega, ys, rfl, hys, rfl, by omega⟩
    | int z =>
      simp [isA, isTn, tyOf, fNe_bool, fNe_int, fIsN, fNotN, isNon, sSeq_eq, thenD_cons, sNil, sRet, sRetN, sSet, sSetN, sAsg, sIf, sFor, forD, sDrop, sApp, sExt, sPop, sPop0, sSetIx, sAug, sPar, sMove, sFreeze, sNever, sBreak, sCont, xFr, xVw, xSt, xOw, xTp, xC, xOp1, xOp2, xTup, xLst, xCons, xNil, xCall, xCB, xTst, xTru, xAndT, xOrT, xNotT, xAnd, xOr, xNot, xIf, xChain, xCut, xSome, xNo, xIsi, xLc, xSeq, xRng1, xRng2, xYes, fRng1, fRng2, fSeq, dgN, dgT, dgCons, dgNil, Env.get, Env.put, env0, slOf, wipeR, List.set, List.set_cons_zero, List.set_cons_succ, List.getD_cons_zero, List.getD_cons_succ, List.length_cons, List.length_nil, fBool, fTru, fI20, fI2, fI1, fIsi, fOwL, fInt, fListQ, List.replicate, List.append_nil, List.nil_append, List.cons_append, Bool.false_eq_true, if_false, if_true, reduceIte, Nat.reduceSub, Nat.reduceAdd, true_and, and_true, Nat.zero_add, fLe, fLt, fGe, fGt, fAddI, fSubI, fMulI, fDivI, fModI, fNeg, fIx_t0, fIx_t1, fIx_t2, fIx_t3, xLc2, xZip, fZip, xIndex, fIndex, sRaise, fMulL, fListQ, xIsE, xFld, sTry, sTry0]
      exact ⟨nodesL ys, by omega, ys, rfl, hys, rfl, by omega⟩
    | str z =>
      simp [isA, isTn, tyOf, fNe_bool, fNe_int, fIsN, fNotN, isNon, fNe_str (show PyData.canLay0 (.str z) = true from by simpa [noD] using hy), sSeq_eq, thenD_cons, sNil, sRet, sRetN, sSet, sSetN, sAsg, sIf, sFor, forD, sDrop, sApp, sExt, sPop, sPop0, sSetIx, sAug, sPar, sMove, sFreeze, sNever, sBreak, sCont, xFr, xVw, xSt, xOw, xTp, xC, xOp1, xOp2, xTup, xLst, xCons, xNil, xCall, xCB, xTst, xTru, xAndT, xOrT, xNotT, xAnd, xOr, xNot, xIf, xChain, xCut, xSome, xNo, xIsi, xLc, xSeq, xRng1, xRng2, xYes, fRng1, fRng2, fSeq, dgN, dgT, dgCons, dgNil, Env.get, Env.put, env0, slOf, wipeR, List.set, List.set_cons_zero, List.set_cons_succ, List.getD_cons_zero, List.getD_cons_succ, List.length_cons, List.length_nil, fBool, fTru, fI20, fI2, fI1, fIsi, fOwL, fInt, fListQ, List.replicate, List.append_nil, List.nil_append, List.cons_append, Bool.false_eq_true, if_false, if_true, reduceIte, Nat.reduceSub, Nat.reduceAdd, true_and, and_true, Nat.zero_add, fLe, fLt, fGe, fGt, fAddI, fSubI, fMulI, fDivI, fModI, fNeg, fIx_t0, fIx_t1, fIx_t2, fIx_t3, xLc2, xZip, fZip, xIndex, fIndex, sRaise, fMulL, fListQ, xIsE, xFld, sTry, sTry0]
      exact ⟨nodesL ys, by omega, ys, rfl, hys, rfl, by omega⟩
section
variable {P : Program} {w : World} {K : PySem.W.Frag} {mg : Str → Option Value} {base : Heap} {T : Tape}
abbrev s__law_same : Stmt := top 25
theorem sc__law_same : FnScope ["told", "due", "left", "one", "other", "at"] ["told", "due"] (defScope s__law_same) := ⟨rfl, rfl, rfl, by decide +kernel, rfl, by decide +kernel, by decide +kernel⟩
theorem ok__law_same (D : DefD K mg "_law_same" s__law_same ["told", "due"]) (bn : Bn mg) : FnD P w K mg base T "_law_same" 1 sp_law_same := by
  refine fnD (N := ["told", "due", "left", "one", "other", "at"]) (B := b__law_same) D sc__law_same rfl (.inl rfl) (fun f cdv A outer s H E hr => ?_) pure__law_same
  have nd := sc__law_same.nd
  have tk : Takes (cxOf (L2.CX P w) P w K mg base ["told", "due", "left", "one", "other", "at"] "_law_same" (defScope s__law_same) f cdv A outer s H E) (fun c d _ H => E c d H) := takes_of rfl rfl rfl rfl
  exact (pssx_cons (psx_setN 2 nd rfl (by first | exact Or.inl rfl | exact Or.inr rfl) (px_lst (pax_cons (k := .fr) (px_tup (pax_cons (k := .fr) (px_fr 0 (pv 0)) (pax_cons (k := .fr) (px_fr 1 (pv 1)) pax_nil))) pax_nil)))
  (pssx_cons (psx_while (passes_of rfl) (ptx_cmp op_gt (PX.frVw (px_b call_len rc_len (by rfl) bn.len PySem.boot_len (pax_cons (k := .vw) (px_vw 2 (pv 2)) pax_nil))) (PX.frVw px_int) r2_gt (nomark _)) (pssx_cons (psx_popTo 2 (pgx_t rfl (pgsx_cons (pgx_n 3 (pg_name nd rfl (by first | exact Or.inl rfl | exact Or.inr rfl))) (pgsx_cons (pgx_n 4 (pg_name nd rfl (by first | exact Or.inl rfl | exact Or.inr rfl))) pgsx_nil)) 2) (fun h => ps_asg (pe_bm0 PySem.F.plainAttrs_list PySem.F.slot_list_pop PySem.F.type_list_pop mt_pop (pv 2)) h))
  (pssx_cons (psx_if (PWx.pt (pw_o (ptx_cmp (op_neD (hu64 hr)) (PX.frVw (px_isi (t := "tuple") (by decide) (by rfl) bn.isinstance (by rfl) bn.tuple PyProof.Rows.boot_tuple (by decide) (by decide) (px_vw 3 (pv 3)))) (PX.frVw (px_isi (t := "tuple") (by decide) (by rfl) bn.isinstance (by rfl) bn.tuple PyProof.Rows.boot_tuple (by decide) (by decide) (px_vw 4 (pv 4)))) r2_ne (nomark _)) (pw_1o (ptx_cmp (op_neD (hu64 hr)) (PX.frVw (px_isi (t := "list") (by decide) (by rfl) bn.isinstance (by rfl) bn.list PyProof.Rows.boot_list (by decide) (by decide) (px_vw 3 (pv 3)))) (PX.frVw (px_isi (t := "list") (by decide) (by rfl) bn.isinstance (by rfl) bn.list PyProof.Rows.boot_list (by decide) (by decide) (px_vw 4 (pv 4)))) r2_ne (nomark _))))) (pssx_one (psx_ret px_bl (.inl rfl))) pssx_nil)
  (pssx_one (psx_if (PWx.pt (pw_o (ptx_tru (PX.frVw (px_isi (t := "tuple") (by decide) (by rfl) bn.isinstance (by rfl) bn.tuple PyProof.Rows.boot_tuple (by decide) (by decide) (px_vw 4 (pv 4))))) (pw_1o (ptx_tru (PX.frVw (px_isi (t := "list") (by decide) (by rfl) bn.isinstance (by rfl) bn.list PyProof.Rows.boot_list (by decide) (by decide) (px_vw 4 (pv 4)))))))) (pssx_cons (psx_if (ptx_cmp (op_neD (hu64 hr)) (PX.frVw (px_b call_len rc_len (by rfl) bn.len PySem.boot_len (pax_cons (k := .vw) (px_vw 3 (pv 3)) pax_nil))) (PX.frVw (px_b call_len rc_len (by rfl) bn.len PySem.boot_len (pax_cons (k := .vw) (px_vw 4 (pv 4)) pax_nil))) r2_ne (nomark _)) (pssx_one (psx_ret px_bl (.inl rfl))) pssx_nil)
  (pssx_one (psx_ext 2 (px_lc (own := [("at", 5)]) rfl nd (pix_range1 (m := false) (by rfl) bn.range (pax_cons (k := .vw) (PX.frVw (px_b call_len rc_len (by rfl) bn.len PySem.boot_len (pax_cons (k := .vw) (px_vw 4 (pv 4)) pax_nil))) pax_nil)) (blkOk_by (by first | (change blkC ["told", "due", "left", "one", "other", "at"] (defScope s__law_same) _ _ = true; decide +kernel) | rfl)) (fun _ _ _ _ _ => (pgx_n 5 (pg_name nd rfl (by first | exact Or.inl rfl | exact Or.inr rfl)))) (fun _ _ _ _ _ => ptsx_nil) (fun _ _ _ _ _ => (px_tup (pax_cons (k := .fr) (px_ix (px_vw 3 (pv 3)) (px_vw 5 (pv 5))) (pax_cons (k := .fr) (px_ix (px_vw 4 (pv 4)) (px_vw 5 (pv 5))) pax_nil))))) (fun h => ps_expr (pe_bm PySem.F.plainAttrs_list PySem.F.slot_list_extend PySem.F.type_list_extend mt_extend (pv 2) (pa_cons h pa_nil)))))) (pssx_one (psx_if (ptx_cmp op_isN (px_vw 4 (pv 4)) (PX.frVw px_non) r2_isN (nomark _)) (pssx_one (psx_if (ptx_cmp op_notN (px_vw 3 (pv 3)) (PX.frVw px_non) r2_notN (nomark _)) (pssx_one (psx_ret px_bl (.inl rfl))) pssx_nil)) (pssx_one (psx_if (ptx_tru (PX.frVw (px_isi (t := "bool") (by decide) (by rfl) bn.isinstance (by rfl) bn.bool PyProof.Rows.boot_bool (by decide) (by decide) (px_vw 4 (pv 4))))) (pssx_one (psx_if (PWx.pt (pw_o (ptx_not (ptx_tru (PX.frVw (px_isi (t := "bool") (by decide) (by rfl) bn.isinstance (by rfl) bn.bool PyProof.Rows.boot_bool (by decide) (by decide) (px_vw 3 (pv 3)))))) (pw_1o (ptx_cmp (op_neD (hu64 hr)) (px_vw 3 (pv 3)) (px_vw 4 (pv 4)) r2_ne (nomark _))))) (pssx_one (psx_ret px_bl (.inl rfl))) pssx_nil)) (pssx_one (psx_if (ptx_tru (PX.frVw (px_isi (t := "int") (by decide) (by rfl) bn.isinstance (by rfl) bn.int PyProof.Rows.boot_int (by decide) (by decide) (px_vw 4 (pv 4))))) (pssx_one (psx_if (PWx.pt (pw_o (ptx_not (ptx_tru (PX.frVw (px_isi (t := "int") (by decide) (by rfl) bn.isinstance (by rfl) bn.int PyProof.Rows.boot_int (by decide) (by decide) (px_vw 3 (pv 3)))))) (pw_o (ptx_tru (PX.frVw (px_isi (t := "bool") (by decide) (by rfl) bn.isinstance (by rfl) bn.bool PyProof.Rows.boot_bool (by decide) (by decide) (px_vw 3 (pv 3))))) (pw_1o (ptx_cmp (op_neD (hu64 hr)) (px_vw 3 (pv 3)) (px_vw 4 (pv 4)) r2_ne (nomark _)))))) (pssx_one (psx_ret px_bl (.inl rfl))) pssx_nil)) (pssx_one (psx_if (PWx.pt (pw_o (ptx_not (ptx_tru (PX.frVw (px_isi (t := "str") (by decide) (by rfl) bn.isinstance (by rfl) bn.str PyProof.Rows.boot_str (by decide) (by decide) (px_vw 3 (pv 3)))))) (pw_1o (ptx_cmp (op_neD (hu64 hr)) (px_vw 3 (pv 3)) (px_vw 4 (pv 4)) r2_ne (nomark _))))) (pssx_one (psx_ret px_bl (.inl rfl))) pssx_nil)))))))))))))
  (pssx_one (psx_ret px_bl (.inl rfl)))))
end
end K07

set_option maxRecDepth 100000
set_option maxHeartbeats 4000000
namespace K07
open PySem PySem.Spec PyProof.Rows L2 Dt
def places : List Str := ["sign", "length", "more", "fields", "low", "above", "ladders", "one", "other", "at least", "bars", "then", "record", "where", "odd", "thing", "demands", "field", "beyond", "answer", "highest", "great", "least", "most", "wide"]
def sp_dip : FSp := nd [.tp, .fr, .fr] .fr (fun (a : Int × Str) => [.none, .int a.1, .str a.2]) (fun a => a.1 ≤ 1000000 ∧ a.2 ∈ places) fun a d => ∃ k : Nat, d = .int (k : Int) ∧ ((k : Int) < a.1 ∨ k = 0)
theorem dip {m : Int} {p : Str} {Q : D → Prop} {Qx : Exn → Prop} (h : 1 ≤ m) (h2 : m ≤ 1000000) (q : ∀ k : Nat, (k : Int) < m → Q (.int (k : Int))) (hp : p ∈ places := by decide +kernel) : sp_dip.f [.none, .int m, .str p] Q Qx :=
  ⟨(m, p), rfl, ⟨h2, hp⟩, by
    rintro d ⟨k, e, hk⟩
    subst e
    rcases hk with hk | hk
    · exact q k hk
    · subst hk
      exact q 0 (by show (0 : Int) < m; omega)⟩
/-- a text as it may stand in data -/
structure SOk (x : Str) (n : Nat) : Prop where
  lay : PyData.canLay0 (.str x) = true
  len : x.length ≤ n
theorem sOk_of (s : String) : PyData.canLay0 (.str (Str.ofString s)) = true := by
  simp only [PyData.canLay0, PyData.strOk, Str.ofString_eq_toList]
  simp only [List.all_toArray, List.all_map, List.all_eq_true, Function.comp, decide_eq_true_eq]
  intro c _
  have := c.valid
  have h := c.toNat
  simp only [Char.toNat]
  rcases this with z | z
  · have : c.val.toNat < 0xd800 := z
    omega
  · exact z.2
theorem sOk_app {x y : Str} {n m : Nat} (a : SOk x n) (b : SOk y m) : SOk (x ++ y) (n + m) := by
  have e : (x ++ y).cps = x.cps ++ y.cps := rfl
  refine ⟨?_, ?_⟩
  · have h1 := a.lay
    have h2 := b.lay
    simp only [PyData.canLay0, PyData.strOk] at h1 h2 ⊢
    rw [e, Array.all_append, h1, h2]; rfl
  · have h1 := a.len
    have h2 := b.len
    show (x ++ y).cps.size ≤ n + m
    rw [e, Array.size_append]
    exact Nat.add_le_add h1 h2
theorem ix_str {z : Str} {k : Nat} {Q : D → Prop} (hz : z.length ≤ sizeLine) (hk : k < z.cps.toList.length) (hv : PyData.canLay0 (.str z) = true) (q : ∀ y, SOk y 1 → Q (.str y)) : fIx (.str z) (.int (k : Int)) Q := by
  have h : z.cps.toList[k]? = some (z.cps.toList[k]) := List.getElem?_eq_getElem hk
  simp only [fIx, Dt.atI_nat h]
  refine ⟨hz, q _ ⟨?_, Nat.le_refl 1⟩⟩
  simp only [PyData.canLay0, PyData.strOk] at hv ⊢
  have := Array.all_eq_true_iff_forall_mem.mp hv _ (Array.mem_toList_iff.mp (List.getElem_mem hk))
  simpa using this
def sp_law_names : FSp := nd [.tp, .fr] .nw (fun (m : Nat) => [.none, .int m]) (fun m => m ≤ 8) fun m d => ∃ ns : List Str, ns.length = m ∧ d = .list (ns.map .str) ∧ ∀ x ∈ ns, SOk x 40
theorem str8 : ∀ k < 8, (Str.ofString (toString ((k : Nat) : Int))).length ≤ 4 := by decide +kernel
theorem p8 : ("pqxyzhkm" : Str).cps.toList.length = 8 := by decide +kernel
theorem p5 : ("p0q7x" : Str).cps.toList.length = 5 := by decide +kernel
/-- _law_names: 0 crock, 1 many, 2 found, 3 at, 4 name, 5 more -/
noncomputable def b__law_names : DS :=
  (sSeq (sSetN 2 ((xLst xNil)))
  (sSeq (sFor (xRng1 (xCons (xVw 1) xNil)) (dgN 3) (sSeq (sSet 4 ((xOp2 fAddS ((xOp2 fIx (xC (.str "pqxyzhkm")) ((xCall sp_dip (xCons (xTp 0) (xCons (xC (.int 8)) (xCons (xC (.str "sign")) xNil))))))) ((xCB fStrOf (xCons (xVw 3) xNil))))))
  (sSeq (sFor (xRng1 (xCons ((xOp2 fIx ((xTup (xCons (xC (.int 0)) (xCons (xC (.int 0)) (xCons (xC (.int 1)) (xCons (xC (.int 6)) xNil)))))) ((xCall sp_dip (xCons (xTp 0) (xCons (xC (.int 4)) (xCons (xC (.str "length")) xNil))))))) xNil)) (dgN 5) (sSet 4 ((xOp2 fAddS (xVw 4) ((xOp2 fIx (xC (.str "p0q7x")) ((xCall sp_dip (xCons (xTp 0) (xCons (xC (.int 5)) (xCons (xC (.str "more")) xNil)))))))))))
  (sApp 2 (xFr 4)))))
  (sRet (xOw 2))))
theorem pure__law_names : PureOk sp_law_names b__law_names 6 := by
  rintro ds Q Qx ⟨m, rfl, hm, q⟩
  simp only [b__law_names, sp_law_names, nd, sSeq_eq, thenD_cons, sNil, sRet, sRetN, sSet, sSetN, sAsg, sIf, sFor, forD, sDrop, sApp, sExt, sPop, sPop0, sSetIx, sAug, sPar, sMove, sFreeze, sNever, sBreak, sCont, xFr, xVw, xSt, xOw, xTp, xC, xOp1, xOp2, xTup, xLst, xCons, xNil, xCall, xCB, xTst, xTru, xAndT, xOrT, xNotT, xAnd, xOr, xNot, xIf, xChain, xCut, xSome, xNo, xIsi, xLc, xSeq, xRng1, xRng2, xYes, fRng1, fRng2, fSeq, dgN, dgT, dgCons, dgNil, Env.get, Env.put, env0, slOf, wipeR, List.set, List.set_cons_zero, List.set_cons_succ, List.getD_cons_zero, List.getD_cons_succ, List.length_cons, List.length_nil, fBool, fTru, fI20, fI2, fI1, fIsi, fOwL, fInt, fListQ, List.replicate, List.append_nil, List.nil_append, List.cons_append, Bool.false_eq_true, if_false, if_true, reduceIte, Nat.reduceSub, Nat.reduceAdd, true_and, and_true, Nat.zero_add, fLe, fLt, fGe, fGt, fAddI, fSubI, fMulI, fDivI, fModI, fNeg, fIx_t0, fIx_t1, fIx_t2, fIx_t3, xLc2, xZip, fZip, xIndex, fIndex, sRaise, fMulL, fListQ, xIsE, xFld, sTry, sTry0]
  refine ⟨by omega, by omega, ?_⟩
  have er : rngD 0 (m : Int).toNat = (List.range m).map fun k : Nat => (.int (k : Int)) := by simp [rngD]
  rw [er]
  refine forD_pre (fun k : Nat => (.int (k : Int))) (fun pre ρ => ∃ ns a b c, ρ = ([.tp, .fr (.int (m : Int)), .ow (.list (ns.map .str)), a, b, c] : Dt.Env) ∧ ns.length = pre.length ∧ ∀ x ∈ ns, SOk x 40) _ (List.range m) (List.range m) [] _ rfl ⟨[], .un, .un, .un, rfl, rfl, by simp⟩ ?_ ?_
  · rintro pre k post ρ hall ⟨ns, a, b, c, rfl, hl, hok⟩ N hN
    have hk : k < m := List.mem_range.mp (by rw [hall]; simp)
    have hpl : pre.length < 8 := by have := congrArg List.length hall; simp at this; omega
    simp only [sSeq_eq, thenD_cons, sNil, sRet, sRetN, sSet, sSetN, sAsg, sIf, sFor, forD, sDrop, sApp, sExt, sPop, sPop0, sSetIx, sAug, sPar, sMove, sFreeze, sNever, sBreak, sCont, xFr, xVw, xSt, xOw, xTp, xC, xOp1, xOp2, xTup, xLst, xCons, xNil, xCall, xCB, xTst, xTru, xAndT, xOrT, xNotT, xAnd, xOr, xNot, xIf, xChain, xCut, xSome, xNo, xIsi, xLc, xSeq, xRng1, xRng2, xYes, fRng1, fRng2, fSeq, dgN, dgT, dgCons, dgNil, Env.get, Env.put, env0, slOf, wipeR, List.set, List.set_cons_zero, List.set_cons_succ, List.getD_cons_zero, List.getD_cons_succ, List.length_cons, List.length_nil, fBool, fTru, fI20, fI2, fI1, fIsi, fOwL, fInt, fListQ, List.replicate, List.append_nil, List.nil_append, List.cons_append, Bool.false_eq_true, if_false, if_true, reduceIte, Nat.reduceSub, Nat.reduceAdd, true_and, and_true, Nat.zero_add, fLe, fLt, fGe, fGt, fAddI, fSubI, fMulI, fDivI, fModI, fNeg, fIx_t0, fIx_t1, fIx_t2, fIx_t3, xLc2, xZip, fZip, xIndex, fIndex, sRaise, fMulL, fListQ, xIsE, xFld, sTry, sTry0]
    refine dip (by decide) (by decide) fun j hj => ?_
    refine ix_str (z := "pqxyzhkm") (by decide +kernel) (by rw [p8]; omega) (by decide +kernel) fun y hy => ?_
    simp only [sSeq_eq, thenD_cons, sNil, sRet, sRetN, sSet, sSetN, sAsg, sIf, sFor, forD, sDrop, sApp, sExt, sPop, sPop0, sSetIx, sAug, sPar, sMove, sFreeze, sNever, sBreak, sCont, xFr, xVw, xSt, xOw, xTp, xC, xOp1, xOp2, xTup, xLst, xCons, xNil, xCall, xCB, xTst, xTru, xAndT, xOrT, xNotT, xAnd, xOr, xNot, xIf, xChain, xCut, xSome, xNo, xIsi, xLc, xSeq, xRng1, xRng2, xYes, fRng1, fRng2, fSeq, dgN, dgT, dgCons, dgNil, Env.get, Env.put, env0, slOf, wipeR, List.set, List.set_cons_zero, List.set_cons_succ, List.getD_cons_zero, List.getD_cons_succ, List.length_cons, List.length_nil, fBool, fTru, fI20, fI2, fI1, fIsi, fOwL, fInt, fListQ, List.replicate, List.append_nil, List.nil_append, List.cons_append, Bool.false_eq_true, if_false, if_true, reduceIte, Nat.reduceSub, Nat.reduceAdd, true_and, and_true, Nat.zero_add, fLe, fLt, fGe, fGt, fAddI, fSubI, fMulI, fDivI, fModI, fNeg, fIx_t0, fIx_t1, fIx_t2, fIx_t3, xLc2, xZip, fZip, xIndex, fIndex, sRaise, fMulL, fListQ, xIsE, xFld, sTry, sTry0, fStrOf]
    have hs := str8 k (by omega)
    have hy1 := hy.len
    have hlog : ((k : Int)).natAbs.log2 ≤ (k : Int).natAbs := Nat.log2_le_self _
    refine ⟨by omega, ?_⟩
    simp only [fAddS, sSeq_eq, thenD_cons, sNil, sRet, sRetN, sSet, sSetN, sAsg, sIf, sFor, forD, sDrop, sApp, sExt, sPop, sPop0, sSetIx, sAug, sPar, sMove, sFreeze, sNever, sBreak, sCont, xFr, xVw, xSt, xOw, xTp, xC, xOp1, xOp2, xTup, xLst, xCons, xNil, xCall, xCB, xTst, xTru, xAndT, xOrT, xNotT, xAnd, xOr, xNot, xIf, xChain, xCut, xSome, xNo, xIsi, xLc, xSeq, xRng1, xRng2, xYes, fRng1, fRng2, fSeq, dgN, dgT, dgCons, dgNil, Env.get, Env.put, env0, slOf, wipeR, List.set, List.set_cons_zero, List.set_cons_succ, List.getD_cons_zero, List.getD_cons_succ, List.length_cons, List.length_nil, fBool, fTru, fI20, fI2, fI1, fIsi, fOwL, fInt, fListQ, List.replicate, List.append_nil, List.nil_append, List.cons_append, Bool.false_eq_true, if_false, if_true, reduceIte, Nat.reduceSub, Nat.reduceAdd, true_and, and_true, Nat.zero_add, fLe, fLt, fGe, fGt, fAddI, fSubI, fMulI, fDivI, fModI, fNeg, fIx_t0, fIx_t1, fIx_t2, fIx_t3, xLc2, xZip, fZip, xIndex, fIndex, sRaise, fMulL, fListQ, xIsE, xFld, sTry, sTry0]
    refine ⟨by rw [sizeLine_eq]; omega, ?_⟩
    have hx : SOk (y ++ Str.ofString (toString (k : Int))) (1 + 4) := sOk_app hy ⟨sOk_of _, hs⟩
    generalize y ++ Str.ofString (toString (k : Int)) = x at hx
    refine dip (by decide) (by decide) fun j2 hj2 => ?_
    have h4 : ∃ z : Nat, ([.int 0, .int 0, .int 1, .int 6] : List D)[j2]? = some (.int (z : Int)) ∧ z ≤ 6 := by
      have : j2 < 4 := by omega
      match j2, this with
      | 0, _ => exact ⟨0, rfl, by decide⟩
      | 1, _ => exact ⟨0, rfl, by decide⟩
      | 2, _ => exact ⟨1, rfl, by decide⟩
      | 3, _ => exact ⟨6, rfl, by decide⟩
    obtain ⟨z, hz, hz6⟩ := h4
    refine fIx_t hz ?_
    simp only [sSeq_eq, thenD_cons, sNil, sRet, sRetN, sSet, sSetN, sAsg, sIf, sFor, forD, sDrop, sApp, sExt, sPop, sPop0, sSetIx, sAug, sPar, sMove, sFreeze, sNever, sBreak, sCont, xFr, xVw, xSt, xOw, xTp, xC, xOp1, xOp2, xTup, xLst, xCons, xNil, xCall, xCB, xTst, xTru, xAndT, xOrT, xNotT, xAnd, xOr, xNot, xIf, xChain, xCut, xSome, xNo, xIsi, xLc, xSeq, xRng1, xRng2, xYes, fRng1, fRng2, fSeq, dgN, dgT, dgCons, dgNil, Env.get, Env.put, env0, slOf, wipeR, List.set, List.set_cons_zero, List.set_cons_succ, List.getD_cons_zero, List.getD_cons_succ, List.length_cons, List.length_nil, fBool, fTru, fI20, fI2, fI1, fIsi, fOwL, fInt, fListQ, List.replicate, List.append_nil, List.nil_append, List.cons_append, Bool.false_eq_true, if_false, if_true, reduceIte, Nat.reduceSub, Nat.reduceAdd, true_and, and_true, Nat.zero_add, fLe, fLt, fGe, fGt, fAddI, fSubI, fMulI, fDivI, fModI, fNeg, fIx_t0, fIx_t1, fIx_t2, fIx_t3, xLc2, xZip, fZip, xIndex, fIndex, sRaise, fMulL, fListQ, xIsE, xFld, sTry, sTry0]
    refine ⟨by omega, by omega, ?_⟩
    have er2 : rngD 0 (z : Int).toNat = (List.range z).map fun k : Nat => (.int (k : Int)) := by simp [rngD]
    rw [er2]
    refine forD_pre (fun k : Nat => (.int (k : Int))) (fun pre ρ => ∃ x c, ρ = ([.tp, .fr (.int (m : Int)), .ow (.list (ns.map .str)), .fr (.int (k : Int)), .fr (.str x), c] : Dt.Env) ∧ SOk x (5 + pre.length)) _ (List.range z) (List.range z) [] _ rfl ⟨x, c, rfl, hx⟩ ?_ ?_
    · rintro pre2 k2 post2 ρ hall2 ⟨x, c, rfl, hx⟩ N2 hN2
      have hpl2 : pre2.length < 7 := by have := congrArg List.length hall2; simp at this; omega
      simp only [sSeq_eq, thenD_cons, sNil, sRet, sRetN, sSet, sSetN, sAsg, sIf, sFor, forD, sDrop, sApp, sExt, sPop, sPop0, sSetIx, sAug, sPar, sMove, sFreeze, sNever, sBreak, sCont, xFr, xVw, xSt, xOw, xTp, xC, xOp1, xOp2, xTup, xLst, xCons, xNil, xCall, xCB, xTst, xTru, xAndT, xOrT, xNotT, xAnd, xOr, xNot, xIf, xChain, xCut, xSome, xNo, xIsi, xLc, xSeq, xRng1, xRng2, xYes, fRng1, fRng2, fSeq, dgN, dgT, dgCons, dgNil, Env.get, Env.put, env0, slOf, wipeR, List.set, List.set_cons_zero, List.set_cons_succ, List.getD_cons_zero, List.getD_cons_succ, List.length_cons, List.length_nil, fBool, fTru, fI20, fI2, fI1, fIsi, fOwL, fInt, fListQ, List.replicate, List.append_nil, List.nil_append, List.cons_append, Bool.false_eq_true, if_false, if_true, reduceIte, Nat.reduceSub, Nat.reduceAdd, true_and, and_true, Nat.zero_add, fLe, fLt, fGe, fGt, fAddI, fSubI, fMulI, fDivI, fModI, fNeg, fIx_t0, fIx_t1, fIx_t2, fIx_t3, xLc2, xZip, fZip, xIndex, fIndex, sRaise, fMulL, fListQ, xIsE, xFld, sTry, sTry0]
      refine dip (by decide) (by decide) fun j3 hj3 => ?_
      refine ix_str (z := "p0q7x") (by decide +kernel) (by rw [p5]; omega) (by decide +kernel) fun y hy => ?_
      have := hx.len
      have := hy.len
      simp only [fAddS, sSeq_eq, thenD_cons, sNil, sRet, sRetN, sSet, sSetN, sAsg, sIf, sFor, forD, sDrop, sApp, sExt, sPop, sPop0, sSetIx, sAug, sPar, sMove, sFreeze, sNever, sBreak, sCont, xFr, xVw, xSt, xOw, xTp, xC, xOp1, xOp2, xTup, xLst, xCons, xNil, xCall, xCB, xTst, xTru, xAndT, xOrT, xNotT, xAnd, xOr, xNot, xIf, xChain, xCut, xSome, xNo, xIsi, xLc, xSeq, xRng1, xRng2, xYes, fRng1, fRng2, fSeq, dgN, dgT, dgCons, dgNil, Env.get, Env.put, env0, slOf, wipeR, List.set, List.set_cons_zero, List.set_cons_succ, List.getD_cons_zero, List.getD_cons_succ, List.length_cons, List.length_nil, fBool, fTru, fI20, fI2, fI1, fIsi, fOwL, fInt, fListQ, List.replicate, List.append_nil, List.nil_append, List.cons_append, Bool.false_eq_true, if_false, if_true, reduceIte, Nat.reduceSub, Nat.reduceAdd, true_and, and_true, Nat.zero_add, fLe, fLt, fGe, fGt, fAddI, fSubI, fMulI, fDivI, fModI, fNeg, fIx_t0, fIx_t1, fIx_t2, fIx_t3, xLc2, xZip, fZip, xIndex, fIndex, sRaise, fMulL, fListQ, xIsE, xFld, sTry, sTry0]
      refine ⟨by rw [sizeLine_eq]; omega, hN2 _ ⟨_, _, rfl, ?_⟩⟩
      have := sOk_app hx hy
      exact ⟨this.lay, by have := this.len; simp; omega⟩
    · rintro ρ ⟨x, c, rfl, hx⟩
      simp only [sSeq_eq, thenD_cons, sNil, sRet, sRetN, sSet, sSetN, sAsg, sIf, sFor, forD, sDrop, sApp, sExt, sPop, sPop0, sSetIx, sAug, sPar, sMove, sFreeze, sNever, sBreak, sCont, xFr, xVw, xSt, xOw, xTp, xC, xOp1, xOp2, xTup, xLst, xCons, xNil, xCall, xCB, xTst, xTru, xAndT, xOrT, xNotT, xAnd, xOr, xNot, xIf, xChain, xCut, xSome, xNo, xIsi, xLc, xSeq, xRng1, xRng2, xYes, fRng1, fRng2, fSeq, dgN, dgT, dgCons, dgNil, Env.get, Env.put, env0, slOf, wipeR, List.set, List.set_cons_zero, List.set_cons_succ, List.getD_cons_zero, List.getD_cons_succ, List.length_cons, List.length_nil, fBool, fTru, fI20, fI2, fI1, fIsi, fOwL, fInt, fListQ, List.replicate, List.append_nil, List.nil_append, List.cons_append, Bool.false_eq_true, if_false, if_true, reduceIte, Nat.reduceSub, Nat.reduceAdd, true_and, and_true, Nat.zero_add, fLe, fLt, fGe, fGt, fAddI, fSubI, fMulI, fDivI, fModI, fNeg, fIx_t0, fIx_t1, fIx_t2, fIx_t3, xLc2, xZip, fZip, xIndex, fIndex, sRaise, fMulL, fListQ, xIsE, xFld, sTry, sTry0, List.length_map]
      refine ⟨by rw [sizeLine_eq]; omega, hN _ ⟨ns ++ [x], .fr (.int (k : Int)), .fr (.str x), c, by rw [List.map_append]; rfl, by simp [hl], fun y hy => ?_⟩⟩
      rcases List.mem_append.mp hy with z1 | z1
      · exact hok y z1
      · rw [List.mem_singleton.mp z1]
        exact ⟨hx.lay, by have := hx.len; simp at this; omega⟩
  · rintro ρ ⟨ns, a, b, c, rfl, hl, hok⟩
    simp only [sSeq_eq, thenD_cons, sNil, sRet, sRetN, sSet, sSetN, sAsg, sIf, sFor, forD, sDrop, sApp, sExt, sPop, sPop0, sSetIx, sAug, sPar, sMove, sFreeze, sNever, sBreak, sCont, xFr, xVw, xSt, xOw, xTp, xC, xOp1, xOp2, xTup, xLst, xCons, xNil, xCall, xCB, xTst, xTru, xAndT, xOrT, xNotT, xAnd, xOr, xNot, xIf, xChain, xCut, xSome, xNo, xIsi, xLc, xSeq, xRng1, xRng2, xYes, fRng1, fRng2, fSeq, dgN, dgT, dgCons, dgNil, Env.get, Env.put, env0, slOf, wipeR, List.set, List.set_cons_zero, List.set_cons_succ, List.getD_cons_zero, List.getD_cons_succ, List.length_cons, List.length_nil, fBool, fTru, fI20, fI2, fI1, fIsi, fOwL, fInt, fListQ, List.replicate, List.append_nil, List.nil_append, List.cons_append, Bool.false_eq_true, if_false, if_true, reduceIte, Nat.reduceSub, Nat.reduceAdd, true_and, and_true, Nat.zero_add, fLe, fLt, fGe, fGt, fAddI, fSubI, fMulI, fDivI, fModI, fNeg, fIx_t0, fIx_t1, fIx_t2, fIx_t3, xLc2, xZip, fZip, xIndex, fIndex, sRaise, fMulL, fListQ, xIsE, xFld, sTry, sTry0]
    exact q _ ⟨ns, by simpa using hl, rfl, hok⟩
section
variable {P : Program} {w : World} {K : PySem.W.Frag} {mg : Str → Option Value} {base : Heap} {T : Tape}
abbrev s__law_names : Stmt := top 26
theorem sc__law_names : FnScope ["crock", "many", "found", "at", "name", "more"] ["crock", "many"] (defScope s__law_names) := ⟨rfl, rfl, rfl, by decide +kernel, rfl, by decide +kernel, by decide +kernel⟩
theorem ok__law_names (D : DefD K mg "_law_names" s__law_names ["crock", "many"]) (bn : Bn mg) (h__law_dip : FnD P w K mg base T "_law_dip" 1 sp_dip) : FnD P w K mg base T "_law_names" 2 sp_law_names := by
  refine fnD (N := ["crock", "many", "found", "at", "name", "more"]) (B := b__law_names) D sc__law_names rfl (.inr rfl) (fun f cdv A outer s H E hr => ?_) pure__law_names
  have nd := sc__law_names.nd
  have tk : Takes (cxOf (L2.CX P w) P w K mg base ["crock", "many", "found", "at", "name", "more"] "_law_names" (defScope s__law_names) f cdv A outer s H E) (fun c d _ H => E c d H) := takes_of rfl rfl rfl rfl
  exact (pssx_cons (psx_setN 2 nd rfl (by first | exact Or.inl rfl | exact Or.inr rfl) (px_lst pax_nil))
  (pssx_cons (psx_for (passes_of rfl) rfl (pix_range1 (m := true) (by rfl) bn.range (pax_cons (k := .vw) (px_vw 1 (pv 1)) pax_nil)) (pgx_n 3 (pg_name nd rfl (by first | exact Or.inl rfl | exact Or.inr rfl))) (pssx_cons (psx_set 4 nd rfl (by first | exact Or.inl rfl | exact Or.inr rfl) (px_addS (PX.frVw (px_ix (PX.frVw px_str) (PX.frVw (px_callF h__law_dip tk (hr.mono (by decide)) (by rfl) (pax_cons (k := .tp) (px_tp 0 (pv 0)) (pax_cons (k := .fr) px_int (pax_cons (k := .fr) px_str pax_nil))))))) (PX.frVw (px_ty call_str_int rc_str (by rfl) bn.str PyProof.Rows.boot_str (pax_cons (k := .vw) (px_vw 3 (pv 3)) pax_nil)))))
  (pssx_cons (psx_for (passes_of rfl) rfl (pix_range1 (m := true) (by rfl) bn.range (pax_cons (k := .vw) (PX.frVw (px_ix (PX.frVw (px_tup (pax_cons (k := .fr) px_int (pax_cons (k := .fr) px_int (pax_cons (k := .fr) px_int (pax_cons (k := .fr) px_int pax_nil)))))) (PX.frVw (px_callF h__law_dip tk (hr.mono (by decide)) (by rfl) (pax_cons (k := .tp) (px_tp 0 (pv 0)) (pax_cons (k := .fr) px_int (pax_cons (k := .fr) px_str pax_nil))))))) pax_nil)) (pgx_n 5 (pg_name nd rfl (by first | exact Or.inl rfl | exact Or.inr rfl))) (pssx_one (psx_set 4 nd rfl (by first | exact Or.inl rfl | exact Or.inr rfl) (px_addS (px_vw 4 (pv 4)) (PX.frVw (px_ix (PX.frVw px_str) (PX.frVw (px_callF h__law_dip tk (hr.mono (by decide)) (by rfl) (pax_cons (k := .tp) (px_tp 0 (pv 0)) (pax_cons (k := .fr) px_int (pax_cons (k := .fr) px_str pax_nil)))))))))))
  (pssx_one (psx_app 2 (px_fr 4 (pv 4)) (fun h => ps_expr (pe_bm PySem.F.plainAttrs_list PySem.F.slot_list_append PySem.F.type_list_append mt_append (pv 2) (pa_cons h pa_nil))))))))
  (pssx_one (psx_ret (px_ow 2 (pv 2)) (.inr rfl)))))
end
end K07

set_option maxRecDepth 100000
set_option maxHeartbeats 4000000
namespace K07
open PySem PySem.Spec PyProof.Rows L2 Dt
theorem eqv_eF (f : Fld) : PyData.eqv (eF f) (eF f) = true := by simp [eF, PyData.eqv, PyData.eqvAll]
theorem first_at {α : Type} (enc : α → D) (hr : ∀ a, PyData.eqv (enc a) (enc a) = true) : ∀ (xs : List α) (x : α), x ∈ xs → ∃ (j : Nat) (z : D), j < xs.length ∧ (xs.map enc)[j]? = some z ∧ PyData.eqv z (enc x) = true ∧ ∀ (m : Nat) (z' : D), m < j → (xs.map enc)[m]? = some z' → PyData.eqv z' (enc x) = false
  | [], x, h => by simp at h
  | y :: ys, x, h => by
    cases he : PyData.eqv (enc y) (enc x) with
    | true => exact ⟨0, enc y, by simp, rfl, he, fun m z' hm => absurd hm (by omega)⟩
    | false =>
      have hx : x ∈ ys := by
        rcases List.mem_cons.mp h with e | h
        · subst e; rw [hr] at he; cases he
        · exact h
      obtain ⟨j, z, h1, h2, h3, h4⟩ := first_at enc hr ys x hx
      refine ⟨j + 1, z, by simpa using h1, by simpa using h2, h3, fun m z' hm e => ?_⟩
      cases m with
      | zero => simp at e; subst e; exact he
      | succ m => exact h4 m z' (by omega) (by simpa using e)
theorem shaped_F {f : Fld} (h : PyData.canLay0 (.str f.1) = true) : SeqAt.shaped (eF f) = true ∧ PyData.canLay0 (eF f) = true ∧ PyData.depth (eF f) ≤ 3 := by
  have h2 : PyData.canLay0 (eF f) = true := by simp [eF, PyData.canLay0, PyData.canLayAll0, h] at h ⊢; exact h
  have h3 : PyData.depth (eF f) ≤ 3 := by simp [eF, PyData.depth, PyData.depthAll]
  refine ⟨?_, h2, h3⟩
  simp [SeqAt.shaped, h2]; omega
theorem shaped_Fs {fs : List Fld} (h : ∀ f ∈ fs, PyData.canLay0 (.str f.1) = true) : SeqAt.shaped (.list (fs.map eF)) = true := by
  have h1 : PyData.canLayAll0 (fs.map eF) = true ∧ PyData.depthAll (fs.map eF) ≤ 3 := by
    induction fs with
    | nil => exact ⟨rfl, by simp [PyData.depthAll]⟩
    | cons a fs ih =>
      obtain ⟨_, a1, a2⟩ := shaped_F (h a (by simp))
      obtain ⟨i1, i2⟩ := ih fun f hf => h f (List.mem_cons_of_mem _ hf)
      refine ⟨by simp [PyData.canLayAll0, a1, i1], ?_⟩
      simp only [List.map_cons, PyData.depthAll]; omega
  simp [SeqAt.shaped, PyData.canLay0, h1.1, PyData.depth]; omega
theorem getF {fs : List Fld} {k : Nat} (h : k < fs.length) : ∃ f ∈ fs, (fs.map eF)[k]? = some (eF f) := ⟨fs[k], List.getElem_mem h, by simp [h]⟩
def FldOk (f : Fld) : Prop := (f.2.1 ≤ f.2.2 ∧ f.2.2 ≤ f.2.1 + 3 ∧ -100 ≤ f.2.1 ∧ f.2.1 ≤ 100) ∧ SOk f.1 40
structure SchOk (s : Sc) : Prop where
  ok : s.Ok
  nm : ∀ f ∈ s.fs, SOk f.1 40
def sp_law_schema : FSp := nd [.tp, .fr, .fr, .fr] .fr (fun (a : Nat × Nat × Nat) => [.none, .int a.1, .int a.2.1, .int a.2.2]) (fun a => (1 ≤ a.1 ∧ a.1 ≤ 3) ∧ a.2.1 ≤ 3 ∧ a.2.2 ≤ 100) fun a d => ∃ s, d = eS s ∧ SchOk s
theorem fEq_int {a b : Int} {Q : D → Prop} : fEq (.int a) (.int b) Q = Q (.bool (a == b)) := rfl
theorem fInt_b {b : Bool} {Q : D → Prop} : fIntOf [.bool b] Q = Q (.int (if b then 1 else 0)) := rfl
/-- _law_schema: 0 crock, 1 most_fields, 2 most_above, 3 most_ladders, 4 names, 5 fields, 6 name, 7 ladders, 8 lap, 9 low, 10 one, 11 other, 12 least, 13 most -/
noncomputable def b__law_schema : DS :=
  (sSeq (sSetN 4 ((xCall sp_law_names (xCons (xTp 0) (xCons ((xOp2 fAddI (xC (.int 1)) ((xCall sp_dip (xCons (xTp 0) (xCons (xFr 1) (xCons (xC (.str "fields")) xNil))))))) xNil)))))
  (sSeq (sSetN 5 ((xLst xNil)))
  (sSeq (sFreeze 4 (sFor (xSeq (xSt 4)) (dgN 6) (sSeq (sSet 9 ((xOp2 fSubI ((xCall sp_dip (xCons (xTp 0) (xCons (xC (.int 5)) (xCons (xC (.str "low")) xNil))))) (xC (.int 2)))))
  (sApp 5 ((xTup (xCons (xFr 6) (xCons (xFr 9) (xCons ((xOp2 fAddI (xVw 9) ((xCall sp_dip (xCons (xTp 0) (xCons ((xOp2 fAddI (xVw 2) (xC (.int 1)))) (xCons (xC (.str "above")) xNil))))))) xNil)))))))))
  (sSeq (sSetN 7 ((xLst xNil)))
  (sSeq (sFor (xRng1 (xCons ((xCall sp_dip (xCons (xTp 0) (xCons ((xOp2 fAddI (xVw 3) (xC (.int 1)))) (xCons (xC (.str "ladders")) xNil))))) xNil)) (dgN 8) (sSeq (sSet 10 ((xOp2 fIx (xVw 5) ((xCall sp_dip (xCons (xTp 0) (xCons ((xCB fLen (xCons (xVw 5) xNil))) (xCons (xC (.str "one")) xNil))))))))
  (sSeq (sSet 11 ((xOp2 fIx (xVw 5) ((xCall sp_dip (xCons (xTp 0) (xCons ((xCB fLen (xCons (xVw 5) xNil))) (xCons (xC (.str "other")) xNil))))))))
  (sSeq (sSet 12 ((xOp2 fAddI ((xOp2 fIx (xVw 10) (xC (.int 1)))) ((xCall sp_dip (xCons (xTp 0) (xCons ((xOp2 fAddI ((xOp2 fSubI ((xOp2 fIx (xVw 10) (xC (.int 2)))) ((xOp2 fIx (xVw 10) (xC (.int 1)))))) (xC (.int 1)))) (xCons (xC (.str "at least")) xNil))))))))
  (sSeq (sSet 13 ((xOp2 fAddI ((xOp2 fAddI ((xOp2 fIx (xVw 11) (xC (.int 1)))) (xC (.int 1)))) ((xCall sp_dip (xCons (xTp 0) (xCons ((xOp2 fAddI ((xOp2 fSubI ((xOp2 fIx (xVw 11) (xC (.int 2)))) ((xOp2 fIx (xVw 11) (xC (.int 1)))))) ((xCB fIntOf (xCons ((xOr ((xOp2 fEq ((xCall sp_dip (xCons (xTp 0) (xCons (xC (.int 4)) (xCons (xC (.str "bars")) xNil))))) (xC (.int 0)))) ((xOp2 fEq ((xOp2 fIx (xVw 11) (xC (.int 1)))) ((xOp2 fIx (xVw 11) (xC (.int 2)))))))) xNil))))) (xCons (xC (.str "then")) xNil))))))))
  (sApp 7 ((xTup (xCons ((xTup (xCons ((xIndex (xVw 5) (xVw 10))) (xCons (xFr 12) xNil)))) (xCons ((xTup (xCons ((xIndex (xVw 5) (xVw 11))) (xCons (xFr 13) xNil)))) xNil))))))))))
  (sRet ((xTup (xCons ((xCB fTuple (xCons (xVw 5) xNil))) (xCons ((xCB fTuple (xCons (xVw 7) xNil))) xNil))))))))))
theorem pure__law_schema : PureOk sp_law_schema b__law_schema 14 := by
  rintro ds Q Qx ⟨⟨mf, ma, ml⟩, rfl, ⟨⟨g1, g2⟩, g3, g4⟩, q⟩
  simp only at g1 g2 g3 g4 q
  simp only [b__law_schema, sp_law_schema, nd, sSeq_eq, thenD_cons, sNil, sRet, sRetN, sSet, sSetN, sAsg, sIf, sFor, forD, sDrop, sApp, sExt, sPop, sPop0, sSetIx, sAug, sPar, sMove, sFreeze, sNever, sBreak, sCont, xFr, xVw, xSt, xOw, xTp, xC, xOp1, xOp2, xTup, xLst, xCons, xNil, xCall, xCB, xTst, xTru, xAndT, xOrT, xNotT, xAnd, xOr, xNot, xIf, xChain, xCut, xSome, xNo, xIsi, xLc, xSeq, xRng1, xRng2, xYes, fRng1, fRng2, fSeq, dgN, dgT, dgCons, dgNil, Env.get, Env.put, env0, slOf, wipeR, List.set, List.set_cons_zero, List.set_cons_succ, List.getD_cons_zero, List.getD_cons_succ, List.length_cons, List.length_nil, fBool, fTru, fI20, fI2, fI1, fIsi, fOwL, fInt, fListQ, List.replicate, List.append_nil, List.nil_append, List.cons_append, Bool.false_eq_true, if_false, if_true, reduceIte, Nat.reduceSub, Nat.reduceAdd, true_and, and_true, Nat.zero_add, fLe, fLt, fGe, fGt, fAddI, fSubI, fMulI, fDivI, fModI, fNeg, fIx_t0, fIx_t1, fIx_t2, fIx_t3, xLc2, xZip, fZip, xIndex, fIndex, sRaise, fMulL, fListQ, xIsE, xFld, sTry, sTry0]
  refine dip (by omega) (by omega) fun j hj => ?_
  simp only [sSeq_eq, thenD_cons, sNil, sRet, sRetN, sSet, sSetN, sAsg, sIf, sFor, forD, sDrop, sApp, sExt, sPop, sPop0, sSetIx, sAug, sPar, sMove, sFreeze, sNever, sBreak, sCont, xFr, xVw, xSt, xOw, xTp, xC, xOp1, xOp2, xTup, xLst, xCons, xNil, xCall, xCB, xTst, xTru, xAndT, xOrT, xNotT, xAnd, xOr, xNot, xIf, xChain, xCut, xSome, xNo, xIsi, xLc, xSeq, xRng1, xRng2, xYes, fRng1, fRng2, fSeq, dgN, dgT, dgCons, dgNil, Env.get, Env.put, env0, slOf, wipeR, List.set, List.set_cons_zero, List.set_cons_succ, List.getD_cons_zero, List.getD_cons_succ, List.length_cons, List.length_nil, fBool, fTru, fI20, fI2, fI1, fIsi, fOwL, fInt, fListQ, List.replicate, List.append_nil, List.nil_append, List.cons_append, Bool.false_eq_true, if_false, if_true, reduceIte, Nat.reduceSub, Nat.reduceAdd, true_and, and_true, Nat.zero_add, fLe, fLt, fGe, fGt, fAddI, fSubI, fMulI, fDivI, fModI, fNeg, fIx_t0, fIx_t1, fIx_t2, fIx_t3, xLc2, xZip, fZip, xIndex, fIndex, sRaise, fMulL, fListQ, xIsE, xFld, sTry, sTry0]
  refine ⟨j + 1, by simp; omega, by show j + 1 ≤ 8; omega, ?_⟩
  rintro d ⟨ns, hn, rfl, hok⟩
  simp only [sSeq_eq, thenD_cons, sNil, sRet, sRetN, sSet, sSetN, sAsg, sIf, sFor, forD, sDrop, sApp, sExt, sPop, sPop0, sSetIx, sAug, sPar, sMove, sFreeze, sNever, sBreak, sCont, xFr, xVw, xSt, xOw, xTp, xC, xOp1, xOp2, xTup, xLst, xCons, xNil, xCall, xCB, xTst, xTru, xAndT, xOrT, xNotT, xAnd, xOr, xNot, xIf, xChain, xCut, xSome, xNo, xIsi, xLc, xSeq, xRng1, xRng2, xYes, fRng1, fRng2, fSeq, dgN, dgT, dgCons, dgNil, Env.get, Env.put, env0, slOf, wipeR, List.set, List.set_cons_zero, List.set_cons_succ, List.getD_cons_zero, List.getD_cons_succ, List.length_cons, List.length_nil, fBool, fTru, fI20, fI2, fI1, fIsi, fOwL, fInt, fListQ, List.replicate, List.append_nil, List.nil_append, List.cons_append, Bool.false_eq_true, if_false, if_true, reduceIte, Nat.reduceSub, Nat.reduceAdd, true_and, and_true, Nat.zero_add, fLe, fLt, fGe, fGt, fAddI, fSubI, fMulI, fDivI, fModI, fNeg, fIx_t0, fIx_t1, fIx_t2, fIx_t3, xLc2, xZip, fZip, xIndex, fIndex, sRaise, fMulL, fListQ, xIsE, xFld, sTry, sTry0]
  refine forD_pre (fun x : Str => (.str x)) (fun pre ρ => ∃ fs a b, ρ = ([.tp, .fr (.int (mf : Int)), .fr (.int (ma : Int)), .fr (.int (ml : Int)), .fr (.list (ns.map .str)), .ow (.list (fs.map eF)), a, .un, .un, b, .un, .un, .un, .un] : Dt.Env) ∧ fs.length = pre.length ∧ ∀ f ∈ fs, FldOk f) _ ns ns [] _ rfl ⟨[], .un, .un, rfl, rfl, by simp⟩ ?_ ?_
  · rintro pre x post ρ hall ⟨fs, a, b, rfl, hl, hf⟩ N hN
    have hx : SOk x 40 := hok x (by rw [hall]; simp)
    have hpl : pre.length < 4 := by have := congrArg List.length hall; simp at this; omega
    try simp only [sSeq_eq, thenD_cons, sNil, sRet, sRetN, sSet, sSetN, sAsg, sIf, sFor, forD, sDrop, sApp, sExt, sPop, sPop0, sSetIx, sAug, sPar, sMove, sFreeze, sNever, sBreak, sCont, xFr, xVw, xSt, xOw, xTp, xC, xOp1, xOp2, xTup, xLst, xCons, xNil, xCall, xCB, xTst, xTru, xAndT, xOrT, xNotT, xAnd, xOr, xNot, xIf, xChain, xCut, xSome, xNo, xIsi, xLc, xSeq, xRng1, xRng2, xYes, fRng1, fRng2, fSeq, dgN, dgT, dgCons, dgNil, Env.get, Env.put, env0, slOf, wipeR, List.set, List.set_cons_zero, List.set_cons_succ, List.getD_cons_zero, List.getD_cons_succ, List.length_cons, List.length_nil, fBool, fTru, fI20, fI2, fI1, fIsi, fOwL, fInt, fListQ, List.replicate, List.append_nil, List.nil_append, List.cons_append, Bool.false_eq_true, if_false, if_true, reduceIte, Nat.reduceSub, Nat.reduceAdd, true_and, and_true, Nat.zero_add, fLe, fLt, fGe, fGt, fAddI, fSubI, fMulI, fDivI, fModI, fNeg, fIx_t0, fIx_t1, fIx_t2, fIx_t3, xLc2, xZip, fZip, xIndex, fIndex, sRaise, fMulL, fListQ, xIsE, xFld, sTry, sTry0]
    refine dip (by decide) (by decide) fun k hk => ?_
    try simp only [sSeq_eq, thenD_cons, sNil, sRet, sRetN, sSet, sSetN, sAsg, sIf, sFor, forD, sDrop, sApp, sExt, sPop, sPop0, sSetIx, sAug, sPar, sMove, sFreeze, sNever, sBreak, sCont, xFr, xVw, xSt, xOw, xTp, xC, xOp1, xOp2, xTup, xLst, xCons, xNil, xCall, xCB, xTst, xTru, xAndT, xOrT, xNotT, xAnd, xOr, xNot, xIf, xChain, xCut, xSome, xNo, xIsi, xLc, xSeq, xRng1, xRng2, xYes, fRng1, fRng2, fSeq, dgN, dgT, dgCons, dgNil, Env.get, Env.put, env0, slOf, wipeR, List.set, List.set_cons_zero, List.set_cons_succ, List.getD_cons_zero, List.getD_cons_succ, List.length_cons, List.length_nil, fBool, fTru, fI20, fI2, fI1, fIsi, fOwL, fInt, fListQ, List.replicate, List.append_nil, List.nil_append, List.cons_append, Bool.false_eq_true, if_false, if_true, reduceIte, Nat.reduceSub, Nat.reduceAdd, true_and, and_true, Nat.zero_add, fLe, fLt, fGe, fGt, fAddI, fSubI, fMulI, fDivI, fModI, fNeg, fIx_t0, fIx_t1, fIx_t2, fIx_t3, xLc2, xZip, fZip, xIndex, fIndex, sRaise, fMulL, fListQ, xIsE, xFld, sTry, sTry0]
    refine dip (by omega) (by omega) fun k2 hk2 => ?_
    try simp only [sSeq_eq, thenD_cons, sNil, sRet, sRetN, sSet, sSetN, sAsg, sIf, sFor, forD, sDrop, sApp, sExt, sPop, sPop0, sSetIx, sAug, sPar, sMove, sFreeze, sNever, sBreak, sCont, xFr, xVw, xSt, xOw, xTp, xC, xOp1, xOp2, xTup, xLst, xCons, xNil, xCall, xCB, xTst, xTru, xAndT, xOrT, xNotT, xAnd, xOr, xNot, xIf, xChain, xCut, xSome, xNo, xIsi, xLc, xSeq, xRng1, xRng2, xYes, fRng1, fRng2, fSeq, dgN, dgT, dgCons, dgNil, Env.get, Env.put, env0, slOf, wipeR, List.set, List.set_cons_zero, List.set_cons_succ, List.getD_cons_zero, List.getD_cons_succ, List.length_cons, List.length_nil, fBool, fTru, fI20, fI2, fI1, fIsi, fOwL, fInt, fListQ, List.replicate, List.append_nil, List.nil_append, List.cons_append, Bool.false_eq_true, if_false, if_true, reduceIte, Nat.reduceSub, Nat.reduceAdd, true_and, and_true, Nat.zero_add, fLe, fLt, fGe, fGt, fAddI, fSubI, fMulI, fDivI, fModI, fNeg, fIx_t0, fIx_t1, fIx_t2, fIx_t3, xLc2, xZip, fZip, xIndex, fIndex, sRaise, fMulL, fListQ, xIsE, xFld, sTry, sTry0, List.length_map]
    refine ⟨by rw [sizeLine_eq]; omega, hN _ ⟨fs ++ [(x, (k : Int) - 2, (k : Int) - 2 + k2)], .fr (.str x), .fr (.int ((k : Int) - 2)), by rw [List.map_append]; rfl, by simp [hl], fun f hf' => ?_⟩⟩
    rcases List.mem_append.mp hf' with z | z
    · exact hf f z
    · rw [List.mem_singleton.mp z]
      exact ⟨⟨by simp; omega, by simp; omega, by simp; omega, by simp; omega⟩, hx⟩
  · rintro ρ ⟨fs, a, b, rfl, hl, hf⟩
    have hfl : 1 ≤ fs.length ∧ fs.length ≤ 3 := by rw [hl]; omega
    try simp only [sSeq_eq, thenD_cons, sNil, sRet, sRetN, sSet, sSetN, sAsg, sIf, sFor, forD, sDrop, sApp, sExt, sPop, sPop0, sSetIx, sAug, sPar, sMove, sFreeze, sNever, sBreak, sCont, xFr, xVw, xSt, xOw, xTp, xC, xOp1, xOp2, xTup, xLst, xCons, xNil, xCall, xCB, xTst, xTru, xAndT, xOrT, xNotT, xAnd, xOr, xNot, xIf, xChain, xCut, xSome, xNo, xIsi, xLc, xSeq, xRng1, xRng2, xYes, fRng1, fRng2, fSeq, dgN, dgT, dgCons, dgNil, Env.get, Env.put, env0, slOf, wipeR, List.set, List.set_cons_zero, List.set_cons_succ, List.getD_cons_zero, List.getD_cons_succ, List.length_cons, List.length_nil, fBool, fTru, fI20, fI2, fI1, fIsi, fOwL, fInt, fListQ, List.replicate, List.append_nil, List.nil_append, List.cons_append, Bool.false_eq_true, if_false, if_true, reduceIte, Nat.reduceSub, Nat.reduceAdd, true_and, and_true, Nat.zero_add, fLe, fLt, fGe, fGt, fAddI, fSubI, fMulI, fDivI, fModI, fNeg, fIx_t0, fIx_t1, fIx_t2, fIx_t3, xLc2, xZip, fZip, xIndex, fIndex, sRaise, fMulL, fListQ, xIsE, xFld, sTry, sTry0]
    refine dip (by omega) (by omega) fun k hk => ?_
    try simp only [sSeq_eq, thenD_cons, sNil, sRet, sRetN, sSet, sSetN, sAsg, sIf, sFor, forD, sDrop, sApp, sExt, sPop, sPop0, sSetIx, sAug, sPar, sMove, sFreeze, sNever, sBreak, sCont, xFr, xVw, xSt, xOw, xTp, xC, xOp1, xOp2, xTup, xLst, xCons, xNil, xCall, xCB, xTst, xTru, xAndT, xOrT, xNotT, xAnd, xOr, xNot, xIf, xChain, xCut, xSome, xNo, xIsi, xLc, xSeq, xRng1, xRng2, xYes, fRng1, fRng2, fSeq, dgN, dgT, dgCons, dgNil, Env.get, Env.put, env0, slOf, wipeR, List.set, List.set_cons_zero, List.set_cons_succ, List.getD_cons_zero, List.getD_cons_succ, List.length_cons, List.length_nil, fBool, fTru, fI20, fI2, fI1, fIsi, fOwL, fInt, fListQ, List.replicate, List.append_nil, List.nil_append, List.cons_append, Bool.false_eq_true, if_false, if_true, reduceIte, Nat.reduceSub, Nat.reduceAdd, true_and, and_true, Nat.zero_add, fLe, fLt, fGe, fGt, fAddI, fSubI, fMulI, fDivI, fModI, fNeg, fIx_t0, fIx_t1, fIx_t2, fIx_t3, xLc2, xZip, fZip, xIndex, fIndex, sRaise, fMulL, fListQ, xIsE, xFld, sTry, sTry0]
    refine ⟨by omega, by omega, ?_⟩
    have er2 : rngD 0 (k : Int).toNat = (List.range k).map fun k : Nat => (.int (k : Int)) := by simp [rngD]
    rw [er2]
    refine forD_pre (fun k : Nat => (.int (k : Int))) (fun pre ρ => ∃ ls c e f g h, ρ = ([.tp, .fr (.int (mf : Int)), .fr (.int (ma : Int)), .fr (.int (ml : Int)), .fr (.list (ns.map .str)), .ow (.list (fs.map eF)), a, .ow (.list (ls.map eL)), c, b, e, f, g, h] : Dt.Env) ∧ ls.length = pre.length ∧ ∀ l ∈ ls, l.1.1 < fs.length ∧ l.2.1 < fs.length) _ (List.range k) (List.range k) [] _ rfl ⟨[], .un, .un, .un, .un, .un, rfl, rfl, by simp⟩ ?_ ?_
    · rintro pre k0 post ρ hall ⟨ls, c, e, f, g, h, rfl, hll, hli⟩ N hN
      have hpl : pre.length < 101 := by have := congrArg List.length hall; simp at this; omega
      try simp only [sSeq_eq, thenD_cons, sNil, sRet, sRetN, sSet, sSetN, sAsg, sIf, sFor, forD, sDrop, sApp, sExt, sPop, sPop0, sSetIx, sAug, sPar, sMove, sFreeze, sNever, sBreak, sCont, xFr, xVw, xSt, xOw, xTp, xC, xOp1, xOp2, xTup, xLst, xCons, xNil, xCall, xCB, xTst, xTru, xAndT, xOrT, xNotT, xAnd, xOr, xNot, xIf, xChain, xCut, xSome, xNo, xIsi, xLc, xSeq, xRng1, xRng2, xYes, fRng1, fRng2, fSeq, dgN, dgT, dgCons, dgNil, Env.get, Env.put, env0, slOf, wipeR, List.set, List.set_cons_zero, List.set_cons_succ, List.getD_cons_zero, List.getD_cons_succ, List.length_cons, List.length_nil, fBool, fTru, fI20, fI2, fI1, fIsi, fOwL, fInt, fListQ, List.replicate, List.append_nil, List.nil_append, List.cons_append, Bool.false_eq_true, if_false, if_true, reduceIte, Nat.reduceSub, Nat.reduceAdd, true_and, and_true, Nat.zero_add, fLe, fLt, fGe, fGt, fAddI, fSubI, fMulI, fDivI, fModI, fNeg, fIx_t0, fIx_t1, fIx_t2, fIx_t3, xLc2, xZip, fZip, xIndex, fIndex, sRaise, fMulL, fListQ, xIsE, xFld, sTry, sTry0, fLen, List.length_map]
      refine dip (by omega) (by omega) fun k1 hk1 => ?_
      obtain ⟨one, ho, eo⟩ := getF (fs := fs) (k := k1) (by omega)
      refine fIx_l eo ?_
      try simp only [sSeq_eq, thenD_cons, sNil, sRet, sRetN, sSet, sSetN, sAsg, sIf, sFor, forD, sDrop, sApp, sExt, sPop, sPop0, sSetIx, sAug, sPar, sMove, sFreeze, sNever, sBreak, sCont, xFr, xVw, xSt, xOw, xTp, xC, xOp1, xOp2, xTup, xLst, xCons, xNil, xCall, xCB, xTst, xTru, xAndT, xOrT, xNotT, xAnd, xOr, xNot, xIf, xChain, xCut, xSome, xNo, xIsi, xLc, xSeq, xRng1, xRng2, xYes, fRng1, fRng2, fSeq, dgN, dgT, dgCons, dgNil, Env.get, Env.put, env0, slOf, wipeR, List.set, List.set_cons_zero, List.set_cons_succ, List.getD_cons_zero, List.getD_cons_succ, List.length_cons, List.length_nil, fBool, fTru, fI20, fI2, fI1, fIsi, fOwL, fInt, fListQ, List.replicate, List.append_nil, List.nil_append, List.cons_append, Bool.false_eq_true, if_false, if_true, reduceIte, Nat.reduceSub, Nat.reduceAdd, true_and, and_true, Nat.zero_add, fLe, fLt, fGe, fGt, fAddI, fSubI, fMulI, fDivI, fModI, fNeg, fIx_t0, fIx_t1, fIx_t2, fIx_t3, xLc2, xZip, fZip, xIndex, fIndex, sRaise, fMulL, fListQ, xIsE, xFld, sTry, sTry0, fLen, List.length_map]
      refine dip (by omega) (by omega) fun k2 hk2 => ?_
      obtain ⟨oth, ho2, eo2⟩ := getF (fs := fs) (k := k2) (by omega)
      refine fIx_l eo2 ?_
      obtain ⟨⟨o1, o2, o3, o4⟩, o5⟩ := hf one ho
      obtain ⟨⟨t1, t2, t3, t4⟩, t5⟩ := hf oth ho2
      try simp only [eF, sSeq_eq, thenD_cons, sNil, sRet, sRetN, sSet, sSetN, sAsg, sIf, sFor, forD, sDrop, sApp, sExt, sPop, sPop0, sSetIx, sAug, sPar, sMove, sFreeze, sNever, sBreak, sCont, xFr, xVw, xSt, xOw, xTp, xC, xOp1, xOp2, xTup, xLst, xCons, xNil, xCall, xCB, xTst, xTru, xAndT, xOrT, xNotT, xAnd, xOr, xNot, xIf, xChain, xCut, xSome, xNo, xIsi, xLc, xSeq, xRng1, xRng2, xYes, fRng1, fRng2, fSeq, dgN, dgT, dgCons, dgNil, Env.get, Env.put, env0, slOf, wipeR, List.set, List.set_cons_zero, List.set_cons_succ, List.getD_cons_zero, List.getD_cons_succ, List.length_cons, List.length_nil, fBool, fTru, fI20, fI2, fI1, fIsi, fOwL, fInt, fListQ, List.replicate, List.append_nil, List.nil_append, List.cons_append, Bool.false_eq_true, if_false, if_true, reduceIte, Nat.reduceSub, Nat.reduceAdd, true_and, and_true, Nat.zero_add, fLe, fLt, fGe, fGt, fAddI, fSubI, fMulI, fDivI, fModI, fNeg, fIx_t0, fIx_t1, fIx_t2, fIx_t3, xLc2, xZip, fZip, xIndex, fIndex, sRaise, fMulL, fListQ, xIsE, xFld, sTry, sTry0]
      refine dip (by omega) (by omega) fun k3 hk3 => ?_
      refine dip (by decide) (by decide) fun k4 hk4 => ?_
      have so := shaped_Fs (fs := fs) fun f hf' => (hf f hf').2.lay
      have s1 := (shaped_F o5.lay).1
      have s2 := (shaped_F t5.lay).1
      obtain ⟨j1, z1, b1, b2, b3, b4⟩ := first_at eF eqv_eF fs one ho
      obtain ⟨j2, z2, c1, c2, c3, c4⟩ := first_at eF eqv_eF fs oth ho2
      simp only [eF] at so s1 s2 b2 b3 b4 c2 c3 c4 ⊢
      rw [fEq_int]
      cases hk40 : ((k4 : Int) == 0) with
      | true =>
        simp only [fInt_b, sSeq_eq, thenD_cons, sNil, sRet, sRetN, sSet, sSetN, sAsg, sIf, sFor, forD, sDrop, sApp, sExt, sPop, sPop0, sSetIx, sAug, sPar, sMove, sFreeze, sNever, sBreak, sCont, xFr, xVw, xSt, xOw, xTp, xC, xOp1, xOp2, xTup, xLst, xCons, xNil, xCall, xCB, xTst, xTru, xAndT, xOrT, xNotT, xAnd, xOr, xNot, xIf, xChain, xCut, xSome, xNo, xIsi, xLc, xSeq, xRng1, xRng2, xYes, fRng1, fRng2, fSeq, dgN, dgT, dgCons, dgNil, Env.get, Env.put, env0, slOf, wipeR, List.set, List.set_cons_zero, List.set_cons_succ, List.getD_cons_zero, List.getD_cons_succ, List.length_cons, List.length_nil, fBool, fTru, fI20, fI2, fI1, fIsi, fOwL, fInt, fListQ, List.replicate, List.append_nil, List.nil_append, List.cons_append, Bool.false_eq_true, if_false, if_true, reduceIte, Nat.reduceSub, Nat.reduceAdd, true_and, and_true, Nat.zero_add, fLe, fLt, fGe, fGt, fAddI, fSubI, fMulI, fDivI, fModI, fNeg, fIx_t0, fIx_t1, fIx_t2, fIx_t3, xLc2, xZip, fZip, xIndex, fIndex, sRaise, fMulL, fListQ, xIsE, xFld, sTry, sTry0]
        refine dip (by omega) (by omega) fun k5 _ => ?_
        simp only [sSeq_eq, thenD_cons, sNil, sRet, sRetN, sSet, sSetN, sAsg, sIf, sFor, forD, sDrop, sApp, sExt, sPop, sPop0, sSetIx, sAug, sPar, sMove, sFreeze, sNever, sBreak, sCont, xFr, xVw, xSt, xOw, xTp, xC, xOp1, xOp2, xTup, xLst, xCons, xNil, xCall, xCB, xTst, xTru, xAndT, xOrT, xNotT, xAnd, xOr, xNot, xIf, xChain, xCut, xSome, xNo, xIsi, xLc, xSeq, xRng1, xRng2, xYes, fRng1, fRng2, fSeq, dgN, dgT, dgCons, dgNil, Env.get, Env.put, env0, slOf, wipeR, List.set, List.set_cons_zero, List.set_cons_succ, List.getD_cons_zero, List.getD_cons_succ, List.length_cons, List.length_nil, fBool, fTru, fI20, fI2, fI1, fIsi, fOwL, fInt, fListQ, List.replicate, List.append_nil, List.nil_append, List.cons_append, Bool.false_eq_true, if_false, if_true, reduceIte, Nat.reduceSub, Nat.reduceAdd, true_and, and_true, Nat.zero_add, fLe, fLt, fGe, fGt, fAddI, fSubI, fMulI, fDivI, fModI, fNeg, fIx_t0, fIx_t1, fIx_t2, fIx_t3, xLc2, xZip, fZip, xIndex, fIndex, sRaise, fMulL, fListQ, xIsE, xFld, sTry, sTry0]
        refine ⟨so, s1, j1, z1, b2, b3, b4, so, s2, j2, z2, c2, c3, c4, by rw [sizeLine_eq]; omega, hN _ ⟨ls ++ [((j1, one.2.1 + k3), (j2, oth.2.1 + 1 + k5))], _, _, _, _, _, by rw [List.map_append]; rfl, by simp [hll], fun l hl' => ?_⟩⟩
        rcases List.mem_append.mp hl' with z | z
        · exact hli l z
        · rw [List.mem_singleton.mp z]; exact ⟨b1, c1⟩
      | false =>
        simp only [fEq_int, fInt_b, sSeq_eq, thenD_cons, sNil, sRet, sRetN, sSet, sSetN, sAsg, sIf, sFor, forD, sDrop, sApp, sExt, sPop, sPop0, sSetIx, sAug, sPar, sMove, sFreeze, sNever, sBreak, sCont, xFr, xVw, xSt, xOw, xTp, xC, xOp1, xOp2, xTup, xLst, xCons, xNil, xCall, xCB, xTst, xTru, xAndT, xOrT, xNotT, xAnd, xOr, xNot, xIf, xChain, xCut, xSome, xNo, xIsi, xLc, xSeq, xRng1, xRng2, xYes, fRng1, fRng2, fSeq, dgN, dgT, dgCons, dgNil, Env.get, Env.put, env0, slOf, wipeR, List.set, List.set_cons_zero, List.set_cons_succ, List.getD_cons_zero, List.getD_cons_succ, List.length_cons, List.length_nil, fBool, fTru, fI20, fI2, fI1, fIsi, fOwL, fInt, fListQ, List.replicate, List.append_nil, List.nil_append, List.cons_append, Bool.false_eq_true, if_false, if_true, reduceIte, Nat.reduceSub, Nat.reduceAdd, true_and, and_true, Nat.zero_add, fLe, fLt, fGe, fGt, fAddI, fSubI, fMulI, fDivI, fModI, fNeg, fIx_t0, fIx_t1, fIx_t2, fIx_t3, xLc2, xZip, fZip, xIndex, fIndex, sRaise, fMulL, fListQ, xIsE, xFld, sTry, sTry0]
        refine dip (by split <;> rename_i hq <;> simp at hq <;> omega) (by split <;> omega) fun k5 _ => ?_
        simp only [sSeq_eq, thenD_cons, sNil, sRet, sRetN, sSet, sSetN, sAsg, sIf, sFor, forD, sDrop, sApp, sExt, sPop, sPop0, sSetIx, sAug, sPar, sMove, sFreeze, sNever, sBreak, sCont, xFr, xVw, xSt, xOw, xTp, xC, xOp1, xOp2, xTup, xLst, xCons, xNil, xCall, xCB, xTst, xTru, xAndT, xOrT, xNotT, xAnd, xOr, xNot, xIf, xChain, xCut, xSome, xNo, xIsi, xLc, xSeq, xRng1, xRng2, xYes, fRng1, fRng2, fSeq, dgN, dgT, dgCons, dgNil, Env.get, Env.put, env0, slOf, wipeR, List.set, List.set_cons_zero, List.set_cons_succ, List.getD_cons_zero, List.getD_cons_succ, List.length_cons, List.length_nil, fBool, fTru, fI20, fI2, fI1, fIsi, fOwL, fInt, fListQ, List.replicate, List.append_nil, List.nil_append, List.cons_append, Bool.false_eq_true, if_false, if_true, reduceIte, Nat.reduceSub, Nat.reduceAdd, true_and, and_true, Nat.zero_add, fLe, fLt, fGe, fGt, fAddI, fSubI, fMulI, fDivI, fModI, fNeg, fIx_t0, fIx_t1, fIx_t2, fIx_t3, xLc2, xZip, fZip, xIndex, fIndex, sRaise, fMulL, fListQ, xIsE, xFld, sTry, sTry0]
        refine ⟨so, s1, j1, z1, b2, b3, b4, so, s2, j2, z2, c2, c3, c4, by rw [sizeLine_eq]; omega, hN _ ⟨ls ++ [((j1, one.2.1 + k3), (j2, oth.2.1 + 1 + k5))], _, _, _, _, _, by rw [List.map_append]; rfl, by simp [hll], fun l hl' => ?_⟩⟩
        rcases List.mem_append.mp hl' with z | z
        · exact hli l z
        · rw [List.mem_singleton.mp z]; exact ⟨b1, c1⟩
    · rintro ρ ⟨ls, c, e, f, g, h, rfl, hll, hli⟩
      try simp only [sSeq_eq, thenD_cons, sNil, sRet, sRetN, sSet, sSetN, sAsg, sIf, sFor, forD, sDrop, sApp, sExt, sPop, sPop0, sSetIx, sAug, sPar, sMove, sFreeze, sNever, sBreak, sCont, xFr, xVw, xSt, xOw, xTp, xC, xOp1, xOp2, xTup, xLst, xCons, xNil, xCall, xCB, xTst, xTru, xAndT, xOrT, xNotT, xAnd, xOr, xNot, xIf, xChain, xCut, xSome, xNo, xIsi, xLc, xSeq, xRng1, xRng2, xYes, fRng1, fRng2, fSeq, dgN, dgT, dgCons, dgNil, Env.get, Env.put, env0, slOf, wipeR, List.set, List.set_cons_zero, List.set_cons_succ, List.getD_cons_zero, List.getD_cons_succ, List.length_cons, List.length_nil, fBool, fTru, fI20, fI2, fI1, fIsi, fOwL, fInt, fListQ, List.replicate, List.append_nil, List.nil_append, List.cons_append, Bool.false_eq_true, if_false, if_true, reduceIte, Nat.reduceSub, Nat.reduceAdd, true_and, and_true, Nat.zero_add, fLe, fLt, fGe, fGt, fAddI, fSubI, fMulI, fDivI, fModI, fNeg, fIx_t0, fIx_t1, fIx_t2, fIx_t3, xLc2, xZip, fZip, xIndex, fIndex, sRaise, fMulL, fListQ, xIsE, xFld, sTry, sTry0, fTuple]
      refine q _ ⟨⟨fs, ls⟩, rfl, ⟨⟨by show fs.length ≤ 4; omega, hfl.1, fun f hf' => (hf f hf').1, hli, ?_⟩, fun f hf' => (hf f hf').2⟩⟩
      show ls.length ≤ 1000
      rw [hll, List.length_range]; omega
section
variable {P : Program} {w : World} {K : PySem.W.Frag} {mg : Str → Option Value} {base : Heap} {T : Tape}
abbrev s__law_schema : Stmt := top 27
theorem sc__law_schema : FnScope ["crock", "most_fields", "most_above", "most_ladders", "names", "fields", "name", "ladders", "lap", "low", "one", "other", "least", "most"] ["crock", "most_fields", "most_above", "most_ladders"] (defScope s__law_schema) := ⟨rfl, rfl, rfl, by decide +kernel, rfl, by decide +kernel, by decide +kernel⟩
theorem ok__law_schema (D : DefD K mg "_law_schema" s__law_schema ["crock", "most_fields", "most_above", "most_ladders"]) (bn : Bn mg) (h__law_names : FnD P w K mg base T "_law_names" 2 sp_law_names) (h__law_dip : FnD P w K mg base T "_law_dip" 1 sp_dip) : FnD P w K mg base T "_law_schema" 3 sp_law_schema := by
  refine fnD (N := ["crock", "most_fields", "most_above", "most_ladders", "names", "fields", "name", "ladders", "lap", "low", "one", "other", "least", "most"]) (B := b__law_schema) D sc__law_schema rfl (.inl rfl) (fun f cdv A outer s H E hr => ?_) pure__law_schema
  have nd := sc__law_schema.nd
  have tk : Takes (cxOf (L2.CX P w) P w K mg base ["crock", "most_fields", "most_above", "most_ladders", "names", "fields", "name", "ladders", "lap", "low", "one", "other", "least", "most"] "_law_schema" (defScope s__law_schema) f cdv A outer s H E) (fun c d _ H => E c d H) := takes_of rfl rfl rfl rfl
  exact (pssx_cons (psx_setN 4 nd rfl (by first | exact Or.inl rfl | exact Or.inr rfl) (px_callN h__law_names tk (hr.mono (by decide)) (by rfl) (pax_cons (k := .tp) (px_tp 0 (pv 0)) (pax_cons (k := .fr) (px_addI (PX.frVw px_int) (PX.frVw (px_callF h__law_dip tk (hr.mono (by decide)) (by rfl) (pax_cons (k := .tp) (px_tp 0 (pv 0)) (pax_cons (k := .fr) (px_fr 1 (pv 1)) (pax_cons (k := .fr) px_str pax_nil)))))) pax_nil))))
  (pssx_cons (psx_setN 5 nd rfl (by first | exact Or.inl rfl | exact Or.inr rfl) (px_lst pax_nil))
  (pssx_cons (psx_freeze 4 (psx_for (passes_of rfl) rfl (pix_seq (m := true) (px_st 4 (pv 4))) (pgx_n 6 (pg_name nd rfl (by first | exact Or.inl rfl | exact Or.inr rfl))) (pssx_cons (psx_set 9 nd rfl (by first | exact Or.inl rfl | exact Or.inr rfl) (px_subI (PX.frVw (px_callF h__law_dip tk (hr.mono (by decide)) (by rfl) (pax_cons (k := .tp) (px_tp 0 (pv 0)) (pax_cons (k := .fr) px_int (pax_cons (k := .fr) px_str pax_nil))))) (PX.frVw px_int)))
  (pssx_one (psx_app 5 (px_tup (pax_cons (k := .fr) (px_fr 6 (pv 6)) (pax_cons (k := .fr) (px_fr 9 (pv 9)) (pax_cons (k := .fr) (px_addI (px_vw 9 (pv 9)) (PX.frVw (px_callF h__law_dip tk (hr.mono (by decide)) (by rfl) (pax_cons (k := .tp) (px_tp 0 (pv 0)) (pax_cons (k := .fr) (px_addI (px_vw 2 (pv 2)) (PX.frVw px_int)) (pax_cons (k := .fr) px_str pax_nil)))))) pax_nil)))) (fun h => ps_expr (pe_bm PySem.F.plainAttrs_list PySem.F.slot_list_append PySem.F.type_list_append mt_append (pv 5) (pa_cons h pa_nil))))))))
  (pssx_cons (psx_setN 7 nd rfl (by first | exact Or.inl rfl | exact Or.inr rfl) (px_lst pax_nil))
  (pssx_cons (psx_for (passes_of rfl) rfl (pix_range1 (m := true) (by rfl) bn.range (pax_cons (k := .vw) (PX.frVw (px_callF h__law_dip tk (hr.mono (by decide)) (by rfl) (pax_cons (k := .tp) (px_tp 0 (pv 0)) (pax_cons (k := .fr) (px_addI (px_vw 3 (pv 3)) (PX.frVw px_int)) (pax_cons (k := .fr) px_str pax_nil))))) pax_nil)) (pgx_n 8 (pg_name nd rfl (by first | exact Or.inl rfl | exact Or.inr rfl))) (pssx_cons (psx_set 10 nd rfl (by first | exact Or.inl rfl | exact Or.inr rfl) (px_ix (px_vw 5 (pv 5)) (PX.frVw (px_callF h__law_dip tk (hr.mono (by decide)) (by rfl) (pax_cons (k := .tp) (px_tp 0 (pv 0)) (pax_cons (k := .fr) (px_b call_len rc_len (by rfl) bn.len PySem.boot_len (pax_cons (k := .vw) (px_vw 5 (pv 5)) pax_nil)) (pax_cons (k := .fr) px_str pax_nil)))))))
  (pssx_cons (psx_set 11 nd rfl (by first | exact Or.inl rfl | exact Or.inr rfl) (px_ix (px_vw 5 (pv 5)) (PX.frVw (px_callF h__law_dip tk (hr.mono (by decide)) (by rfl) (pax_cons (k := .tp) (px_tp 0 (pv 0)) (pax_cons (k := .fr) (px_b call_len rc_len (by rfl) bn.len PySem.boot_len (pax_cons (k := .vw) (px_vw 5 (pv 5)) pax_nil)) (pax_cons (k := .fr) px_str pax_nil)))))))
  (pssx_cons (psx_set 12 nd rfl (by first | exact Or.inl rfl | exact Or.inr rfl) (px_addI (PX.frVw (px_ix (px_vw 10 (pv 10)) (PX.frVw px_int))) (PX.frVw (px_callF h__law_dip tk (hr.mono (by decide)) (by rfl) (pax_cons (k := .tp) (px_tp 0 (pv 0)) (pax_cons (k := .fr) (px_addI (PX.frVw (px_subI (PX.frVw (px_ix (px_vw 10 (pv 10)) (PX.frVw px_int))) (PX.frVw (px_ix (px_vw 10 (pv 10)) (PX.frVw px_int))))) (PX.frVw px_int)) (pax_cons (k := .fr) px_str pax_nil)))))))
  (pssx_cons (psx_set 13 nd rfl (by first | exact Or.inl rfl | exact Or.inr rfl) (px_addI (PX.frVw (px_addI (PX.frVw (px_ix (px_vw 11 (pv 11)) (PX.frVw px_int))) (PX.frVw px_int))) (PX.frVw (px_callF h__law_dip tk (hr.mono (by decide)) (by rfl) (pax_cons (k := .tp) (px_tp 0 (pv 0)) (pax_cons (k := .fr) (px_addI (PX.frVw (px_subI (PX.frVw (px_ix (px_vw 11 (pv 11)) (PX.frVw px_int))) (PX.frVw (px_ix (px_vw 11 (pv 11)) (PX.frVw px_int))))) (PX.frVw (px_ty call_int1 rc_int (by rfl) bn.int PyProof.Rows.boot_int (pax_cons (k := .vw) (PX.frVw (px_or (PX.frVw (px_cmp (op_eqD (hu64 hr)) (PX.frVw (px_callF h__law_dip tk (hr.mono (by decide)) (by rfl) (pax_cons (k := .tp) (px_tp 0 (pv 0)) (pax_cons (k := .fr) px_int (pax_cons (k := .fr) px_str pax_nil))))) (PX.frVw px_int) r2_eq (nomark _))) (px_one (px_cmp (op_eqD (hu64 hr)) (PX.frVw (px_ix (px_vw 11 (pv 11)) (PX.frVw px_int))) (PX.frVw (px_ix (px_vw 11 (pv 11)) (PX.frVw px_int))) r2_eq (nomark _))))) pax_nil)))) (pax_cons (k := .fr) px_str pax_nil)))))))
  (pssx_one (psx_app 7 (px_tup (pax_cons (k := .fr) (px_tup (pax_cons (k := .fr) (px_index (px_vw 5 (pv 5)) (px_vw 10 (pv 10)) (fun h1 h2 => pe_bm PySem.F.plainAttrs_list PySem.F.slot_list_index PySem.F.type_list_index (mt_indexD (hu65 hr)) h1 (pa_cons h2 pa_nil))) (pax_cons (k := .fr) (px_fr 12 (pv 12)) pax_nil))) (pax_cons (k := .fr) (px_tup (pax_cons (k := .fr) (px_index (px_vw 5 (pv 5)) (px_vw 11 (pv 11)) (fun h1 h2 => pe_bm PySem.F.plainAttrs_list PySem.F.slot_list_index PySem.F.type_list_index (mt_indexD (hu65 hr)) h1 (pa_cons h2 pa_nil))) (pax_cons (k := .fr) (px_fr 13 (pv 13)) pax_nil))) pax_nil))) (fun h => ps_expr (pe_bm PySem.F.plainAttrs_list PySem.F.slot_list_append PySem.F.type_list_append mt_append (pv 7) (pa_cons h pa_nil))))))))))
  (pssx_one (psx_ret (px_tup (pax_cons (k := .fr) (px_ty call_tuple_of rc_tuple (by rfl) bn.tuple PyProof.Rows.boot_tuple (pax_cons (k := .vw) (px_vw 5 (pv 5)) pax_nil)) (pax_cons (k := .fr) (px_ty call_tuple_of rc_tuple (by rfl) bn.tuple PyProof.Rows.boot_tuple (pax_cons (k := .vw) (px_vw 7 (pv 7)) pax_nil)) pax_nil))) (.inl rfl))))))))
end
end K07

set_option maxRecDepth 100000
set_option maxHeartbeats 4000000
namespace K07
open PySem PySem.Spec PyProof.Rows L2 Dt
def sp_law_thing : FSp := nd [.tp, .fr, .fr] .fr (fun (s : Sc) => [.none, eS s, .list ((recs s).map eV)]) Sc.Ok fun s d => flat1 d
def sp_law_asked : FSp := det1 [.tp, .fr] .fr (fun (s : Sc) => [.none, eS s]) SchOk fun _ => .bool true
def sp_law_great : FSp := det1 [.tp] .fr (fun (_ : Unit) => [.none]) (fun _ => True) fun _ => .bool true
theorem cutA_mem {α : Type} {xs : List α} {lo hi : Option Int} {x : α} (h : x ∈ cutA xs lo hi) : x ∈ xs := List.mem_of_mem_drop (List.mem_of_mem_take h)
theorem cutA_len {α : Type} (xs : List α) (lo hi : Option Int) : (cutA xs lo hi).length ≤ xs.length := by
  unfold cutA
  rw [List.length_take, List.length_drop]; omega
theorem getN {l : List D} {p : D → Prop} (h : ∀ x ∈ l, p x) {k : Nat} (hk : k < l.length) : ∃ x, l[k]? = some x ∧ p x := ⟨l[k], List.getElem?_eq_getElem hk, h _ (List.getElem_mem hk)⟩
theorem notD_int (v : List Int) : ∀ x ∈ v.map PyData.int, notDict x := fun x hx => by
  obtain ⟨i, _, rfl⟩ := List.mem_map.mp hx; trivial
theorem vB {s : Sc} (h : s.Ok) {v : List Int} (hi : In v s.fs) : v.length = s.fs.length ∧ ∀ k, k < s.fs.length → (at0 v k).natAbs ≤ 200 := by
  obtain ⟨h1, h2⟩ := in_iff.mp hi
  refine ⟨h1, fun k hk => ?_⟩
  obtain ⟨h3, h4⟩ := h2 k hk
  have e1 : at0 (lows s.fs) k = (s.fs[k]).2.1 := by simp [at0, lows, hk]
  have e2 : at0 (highs s.fs) k = (s.fs[k]).2.2 := by simp [at0, highs, hk]
  obtain ⟨a1, a2, a3, a4⟩ := h.lo _ (List.getElem_mem hk)
  rw [e1] at h3
  rw [e2] at h4
  omega
theorem low_in {fs : List Fld} (h : ∀ f ∈ fs, f.2.1 ≤ f.2.2) : In (lows fs) fs := by
  induction fs with
  | nil => trivial
  | cons f fs ih => exact ⟨⟨Int.le_refl _, h f (by simp)⟩, ih fun g hg => h g (List.mem_cons_of_mem _ hg)⟩
noncomputable def b__law_thing_6 : DS :=
  (sRet ((xOp2 fIx (xVw 8) ((xCall sp_dip (xCons (xTp 0) (xCons ((xCB fLen (xCons (xVw 8) xNil))) (xCons (xC (.str "thing")) xNil))))))))

noncomputable def b__law_thing_5 : DS :=
  (sSeq (sSetN 8 ((xOp2 fAddL ((xOp2 fMulL ((xLst (xCons ((xOp2 fAddT ((xOp2 fAddT ((xCut fCutT (xVw 4) xNo (xSome (xVw 5)))) ((xTup (xCons (xFr 7) xNil))))) ((xCut fCutT (xVw 4) (xSome ((xOp2 fAddI (xVw 5) (xC (.int 1))))) xNo)))) xNil))) (xC (.int 8)))) ((xLst (xCons ((xCB fList (xCons (xVw 4) xNil))) (xCons ((xOp2 fAddT (xVw 4) ((xTup (xCons ((xOp2 fIx (xVw 4) (xVw 5))) xNil))))) (xCons ((xCut fCutT (xVw 4) (xSome (xC (.int 1))) xNo)) (xCons ((xTup xNil)) (xCons (xC .none) (xCons ((xTup (xCons (xFr 4) xNil))) (xCons (xC (.int 7)) (xCons (xC (.str "record")) (xCons (xFr 4) xNil))))))))))))))
  b__law_thing_6)

noncomputable def b__law_thing_4 : DS :=
  (sSeq (sSet 7 ((xOp2 fIx (xVw 6) ((xCall sp_dip (xCons (xTp 0) (xCons (xC (.int 11)) (xCons (xC (.str "odd")) xNil))))))))
  b__law_thing_5)

noncomputable def b__law_thing_2 : DS :=
  (sSeq (sSet 5 ((xCall sp_dip (xCons (xTp 0) (xCons ((xCB fLen (xCons (xVw 3) xNil))) (xCons (xC (.str "where")) xNil))))))
  (sSeq (sSet 6 ((xTup (xCons ((xOp2 fAddI ((xOp2 fIx (xVw 4) (xVw 5))) (xC (.int 1)))) (xCons ((xOp2 fSubI ((xOp2 fIx (xVw 4) (xVw 5))) (xC (.int 1)))) (xCons ((xOp2 fAddI ((xOp2 fIx ((xOp2 fIx (xVw 3) (xVw 5))) (xC (.int 2)))) (xC (.int 1)))) (xCons ((xOp2 fSubI ((xOp2 fIx ((xOp2 fIx (xVw 3) (xVw 5))) (xC (.int 1)))) (xC (.int 1)))) (xCons (xC (.bool true)) (xCons (xC (.bool false)) (xCons (xC .none) (xCons ((xCB fStrOf (xCons ((xOp2 fIx (xVw 4) (xVw 5))) xNil))) (xCons ((xTup (xCons ((xOp2 fIx (xVw 4) (xVw 5))) xNil))) (xCons ((xOp2 fIx ((xOp2 fIx (xVw 3) (xVw 5))) (xC (.int 1)))) (xCons ((xOp2 fIx ((xOp2 fIx (xVw 3) (xVw 5))) (xC (.int 2)))) xNil))))))))))))))
  b__law_thing_4))

/-- _law_thing: 0 crock, 1 schema, 2 records, 3 fields, 4 start, 5 at, 6 odd, 7 other, 8 things, 9 name, 10 low, 11 high -/
noncomputable def b__law_thing : DS :=
  (sSeq (sSet 3 ((xOp2 fIx (xVw 1) (xC (.int 0)))))
  (sSeq (sSet 4 ((xIf ((xTst (xOp2 fGt ((xCB fLen (xCons (xVw 2) xNil))) (xC (.int 0))))) ((xOp2 fIx (xVw 2) ((xCall sp_dip (xCons (xTp 0) (xCons ((xCB fLen (xCons (xVw 2) xNil))) (xCons (xC (.str "record")) xNil))))))) ((xCB fTuple (xCons ((xLc (xSeq (xVw 3)) (dgT 3 (dgCons (dgN 9) (dgCons (dgN 10) (dgCons (dgN 11) dgNil)))) (xYes) (xFr 10) [9, 10, 11])) xNil))))))
  b__law_thing_2))
section
variable {Q : D → Prop} {Qx : Exn → Prop} {nx bk ct : Dt.Env → Prop} {a b c e : Sl} {v : List Int} {k : Nat} {x : D}
theorem th6 {things : List D} (q : ∀ d, flat1 d → Q d) (hlen : things.length = 17) (hall : ∀ y ∈ things, flat1 y) : b__law_thing_6 [.tp, a, b, c, .fr (eV v), .fr (.int (k : Int)), e, .fr x, .ow (.list things), .un, .un, .un] ⟨nx, Q, bk, ct, fun _ => Qx⟩ := by
  simp only [b__law_thing_6, fLen, sSeq_eq, thenD_cons, sNil, sRet, sRetN, sSet, sSetN, sAsg, sIf, sFor, forD, sDrop, sApp, sExt, sPop, sPop0, sSetIx, sAug, sPar, sMove, sFreeze, sNever, sBreak, sCont, xFr, xVw, xSt, xOw, xTp, xC, xOp1, xOp2, xTup, xLst, xCons, xNil, xCall, xCB, xTst, xTru, xAndT, xOrT, xNotT, xAnd, xOr, xNot, xIf, xChain, xCut, xSome, xNo, xIsi, xLc, xSeq, xRng1, xRng2, xYes, fRng1, fRng2, fSeq, dgN, dgT, dgCons, dgNil, Env.get, Env.put, env0, slOf, wipeR, List.set, List.set_cons_zero, List.set_cons_succ, List.getD_cons_zero, List.getD_cons_succ, List.length_cons, List.length_nil, fBool, fTru, fI20, fI2, fI1, fIsi, fOwL, fInt, fListQ, List.replicate, List.append_nil, List.nil_append, List.cons_append, Bool.false_eq_true, if_false, if_true, reduceIte, Nat.reduceSub, Nat.reduceAdd, true_and, and_true, Nat.zero_add, fLe, fLt, fGe, fGt, fAddI, fSubI, fMulI, fDivI, fModI, fNeg, fIx_t0, fIx_t1, fIx_t2, fIx_t3, xLc2, xZip, fZip, xIndex, fIndex, sRaise, fMulL, fListQ, xIsE, xFld, sTry, sTry0]
  rw [hlen]
  refine dip (by decide) (by decide) fun k3 hk3 => ?_
  obtain ⟨y, hy, ny⟩ := getN hall (k := k3) (by rw [hlen]; omega)
  exact fIx_l hy (q y ny)
theorem rep8 (y : D) : (List.replicate (Int.toNat 8) [y]).flatten = [y, y, y, y, y, y, y, y] := rfl
theorem things_ok {t y1 y2 y3 y4 y5 y6 y7 y8 y9 : D} (h : flat1 t) (h1 : flat1 y1) (h2 : flat1 y2) (h3 : flat1 y3) (h4 : flat1 y4) (h5 : flat1 y5) (h6 : flat1 y6) (h7 : flat1 y7) (h8 : flat1 y8) (h9 : flat1 y9) :
    ∀ y ∈ ([t, t, t, t, t, t, t, t] ++ [y1, y2, y3, y4, y5, y6, y7, y8, y9] : List D), flat1 y := by
  intro y hy
  simp only [List.cons_append, List.nil_append, List.mem_cons, List.not_mem_nil, or_false] at hy
  rcases hy with e | e | e | e | e | e | e | e | e | e | e | e | e | e | e | e | e <;> subst e <;> assumption
theorem th7 (nx0 : notDict x) (hvl : v.length ≤ 4) (hk : k < v.length) (hnx : ∀ things : List D, things.length = 17 → (∀ y ∈ things, flat1 y) → nx [.tp, a, b, c, .fr (eV v), .fr (.int (k : Int)), e, .fr x, .ow (.list things), .un, .un, .un]) :
    (sSetN 8 ((xOp2 fAddL ((xOp2 fMulL ((xLst (xCons ((xOp2 fAddT ((xOp2 fAddT ((xCut fCutT (xVw 4) xNo (xSome (xVw 5)))) ((xTup (xCons (xFr 7) xNil))))) ((xCut fCutT (xVw 4) (xSome ((xOp2 fAddI (xVw 5) (xC (.int 1))))) xNo)))) xNil))) (xC (.int 8)))) ((xLst (xCons ((xCB fList (xCons (xVw 4) xNil))) (xCons ((xOp2 fAddT (xVw 4) ((xTup (xCons ((xOp2 fIx (xVw 4) (xVw 5))) xNil))))) (xCons ((xCut fCutT (xVw 4) (xSome (xC (.int 1))) xNo)) (xCons ((xTup xNil)) (xCons (xC .none) (xCons ((xTup (xCons (xFr 4) xNil))) (xCons (xC (.int 7)) (xCons (xC (.str "record")) (xCons (xFr 4) xNil)))))))))))))) [.tp, a, b, c, .fr (eV v), .fr (.int (k : Int)), e, .fr x, .un, .un, .un, .un] ⟨nx, Q, bk, ct, fun _ => Qx⟩ := by
  simp only [sSeq_eq, thenD_cons, sNil, sRet, sRetN, sSet, sSetN, sAsg, sIf, sFor, forD, sDrop, sApp, sExt, sPop, sPop0, sSetIx, sAug, sPar, sMove, sFreeze, sNever, sBreak, sCont, xFr, xVw, xSt, xOw, xTp, xC, xOp1, xOp2, xTup, xLst, xCons, xNil, xCall, xCB, xTst, xTru, xAndT, xOrT, xNotT, xAnd, xOr, xNot, xIf, xChain, xCut, xSome, xNo, xIsi, xLc, xSeq, xRng1, xRng2, xYes, fRng1, fRng2, fSeq, dgN, dgT, dgCons, dgNil, Env.get, Env.put, env0, slOf, wipeR, List.set, List.set_cons_zero, List.set_cons_succ, List.getD_cons_zero, List.getD_cons_succ, List.length_cons, List.length_nil, fBool, fTru, fI20, fI2, fI1, fIsi, fOwL, fInt, fListQ, List.replicate, List.append_nil, List.nil_append, List.cons_append, Bool.false_eq_true, if_false, if_true, reduceIte, Nat.reduceSub, Nat.reduceAdd, true_and, and_true, Nat.zero_add, fLe, fLt, fGe, fGt, fAddI, fSubI, fMulI, fDivI, fModI, fNeg, fIx_t0, fIx_t1, fIx_t2, fIx_t3, xLc2, xZip, fZip, xIndex, fIndex, sRaise, fMulL, fListQ, xIsE, xFld, sTry, sTry0]
  simp only [eV, fCutT, fAddT, fList, fAddL]
  have c1 := cutA_len (v.map PyData.int) none (some (k : Int))
  have c2 := cutA_len (v.map PyData.int) (some ((k : Int) + 1)) none
  rw [List.length_map] at c1 c2
  have hv : ∀ y ∈ v.map PyData.int, notDict y := notD_int v
  refine ⟨by rw [sizeLine_eq]; simp only [List.length_singleton]; omega, by rw [sizeLine_eq, List.length_append, List.length_singleton]; omega, by decide, by decide, by rw [sizeLine_eq]; decide, ?_⟩
  refine ix_int hk ?_
  rw [rep8]
  refine ⟨by rw [sizeLine_eq, List.length_map, List.length_singleton]; omega, by rw [sizeLine_eq]; simp only [List.length_cons, List.length_nil]; decide, ?_⟩
  refine hnx _ (by rfl) (things_ok (fun y hy => ?_) trivial (fun y hy => ?_) (fun y hy => hv y (cutA_mem hy)) (fun y hy => by simp at hy) trivial (fun y hy => by rw [List.mem_singleton.mp hy]; trivial) trivial trivial hv)
  · rcases List.mem_append.mp hy with hy | hy
    · rcases List.mem_append.mp hy with hy | hy
      · exact hv y (cutA_mem hy)
      · rw [List.mem_singleton.mp hy]; exact nx0
    · exact hv y (cutA_mem hy)
  · rcases List.mem_append.mp hy with hy | hy
    · exact hv y hy
    · rw [List.mem_singleton.mp hy]; trivial
theorem th5 (q : ∀ d, flat1 d → Q d) (hvl : v.length ≤ 4) (hk : k < v.length) (nx0 : notDict x) : b__law_thing_5 [.tp, a, b, c, .fr (eV v), .fr (.int (k : Int)), e, .fr x, .un, .un, .un, .un] ⟨nx, Q, bk, ct, fun _ => Qx⟩ := by
  unfold b__law_thing_5
  rw [sSeq_eq]
  exact th7 nx0 hvl hk fun things h1 h2 => ⟨th6 q h1 h2⟩
theorem th4 {od : List D} (q : ∀ d, flat1 d → Q d) (hvl : v.length ≤ 4) (hk : k < v.length) (ho : od.length = 11) (hod : ∀ y ∈ od, notDict y) : b__law_thing_4 [.tp, a, b, c, .fr (eV v), .fr (.int (k : Int)), .fr (.tuple od), .un, .un, .un, .un, .un] ⟨nx, Q, bk, ct, fun _ => Qx⟩ := by
  simp only [b__law_thing_4, sSeq_eq, thenD_cons, sNil, sRet, sRetN, sSet, sSetN, sAsg, sIf, sFor, forD, sDrop, sApp, sExt, sPop, sPop0, sSetIx, sAug, sPar, sMove, sFreeze, sNever, sBreak, sCont, xFr, xVw, xSt, xOw, xTp, xC, xOp1, xOp2, xTup, xLst, xCons, xNil, xCall, xCB, xTst, xTru, xAndT, xOrT, xNotT, xAnd, xOr, xNot, xIf, xChain, xCut, xSome, xNo, xIsi, xLc, xSeq, xRng1, xRng2, xYes, fRng1, fRng2, fSeq, dgN, dgT, dgCons, dgNil, Env.get, Env.put, env0, slOf, wipeR, List.set, List.set_cons_zero, List.set_cons_succ, List.getD_cons_zero, List.getD_cons_succ, List.length_cons, List.length_nil, fBool, fTru, fI20, fI2, fI1, fIsi, fOwL, fInt, fListQ, List.replicate, List.append_nil, List.nil_append, List.cons_append, Bool.false_eq_true, if_false, if_true, reduceIte, Nat.reduceSub, Nat.reduceAdd, true_and, and_true, Nat.zero_add, fLe, fLt, fGe, fGt, fAddI, fSubI, fMulI, fDivI, fModI, fNeg, fIx_t0, fIx_t1, fIx_t2, fIx_t3, xLc2, xZip, fZip, xIndex, fIndex, sRaise, fMulL, fListQ, xIsE, xFld, sTry, sTry0]
  refine dip (by decide) (by decide) fun k2 hk2 => ?_
  obtain ⟨x, hx, nx⟩ := getN hod (k := k2) (by omega)
  exact fIx_t hx (th5 q hvl hk nx)
theorem th2 {s : Sc} {rs : D} (h : s.Ok) (q : ∀ d, flat1 d → Q d) (hm : In v s.fs) : b__law_thing_2 [.tp, a, .fr rs, .fr (.tuple (s.fs.map eF)), .fr (eV v), .un, .un, .un, .un, .un, .un, .un] ⟨nx, Q, bk, ct, fun _ => Qx⟩ := by
  obtain ⟨hvl, hvb⟩ := vB h hm
  have hn : 0 < s.fs.length ∧ s.fs.length ≤ 4 := ⟨h.pf, h.nf⟩
  simp only [b__law_thing_2, fLen, sSeq_eq, thenD_cons, sNil, sRet, sRetN, sSet, sSetN, sAsg, sIf, sFor, forD, sDrop, sApp, sExt, sPop, sPop0, sSetIx, sAug, sPar, sMove, sFreeze, sNever, sBreak, sCont, xFr, xVw, xSt, xOw, xTp, xC, xOp1, xOp2, xTup, xLst, xCons, xNil, xCall, xCB, xTst, xTru, xAndT, xOrT, xNotT, xAnd, xOr, xNot, xIf, xChain, xCut, xSome, xNo, xIsi, xLc, xSeq, xRng1, xRng2, xYes, fRng1, fRng2, fSeq, dgN, dgT, dgCons, dgNil, Env.get, Env.put, env0, slOf, wipeR, List.set, List.set_cons_zero, List.set_cons_succ, List.getD_cons_zero, List.getD_cons_succ, List.length_cons, List.length_nil, fBool, fTru, fI20, fI2, fI1, fIsi, fOwL, fInt, fListQ, List.replicate, List.append_nil, List.nil_append, List.cons_append, Bool.false_eq_true, if_false, if_true, reduceIte, Nat.reduceSub, Nat.reduceAdd, true_and, and_true, Nat.zero_add, fLe, fLt, fGe, fGt, fAddI, fSubI, fMulI, fDivI, fModI, fNeg, fIx_t0, fIx_t1, fIx_t2, fIx_t3, xLc2, xZip, fZip, xIndex, fIndex, sRaise, fMulL, fListQ, xIsE, xFld, sTry, sTry0, List.length_map]
  refine dip (by omega) (by omega) fun k hk => ?_
  have hkv : k < v.length := by omega
  have hks : k < s.fs.length := by omega
  obtain ⟨f, hf, ef⟩ := getF (fs := s.fs) (k := k) hks
  refine ix_int hkv ?_
  refine ix_int hkv ?_
  refine fIx_t ef ?_
  simp only [eF, sSeq_eq, thenD_cons, sNil, sRet, sRetN, sSet, sSetN, sAsg, sIf, sFor, forD, sDrop, sApp, sExt, sPop, sPop0, sSetIx, sAug, sPar, sMove, sFreeze, sNever, sBreak, sCont, xFr, xVw, xSt, xOw, xTp, xC, xOp1, xOp2, xTup, xLst, xCons, xNil, xCall, xCB, xTst, xTru, xAndT, xOrT, xNotT, xAnd, xOr, xNot, xIf, xChain, xCut, xSome, xNo, xIsi, xLc, xSeq, xRng1, xRng2, xYes, fRng1, fRng2, fSeq, dgN, dgT, dgCons, dgNil, Env.get, Env.put, env0, slOf, wipeR, List.set, List.set_cons_zero, List.set_cons_succ, List.getD_cons_zero, List.getD_cons_succ, List.length_cons, List.length_nil, fBool, fTru, fI20, fI2, fI1, fIsi, fOwL, fInt, fListQ, List.replicate, List.append_nil, List.nil_append, List.cons_append, Bool.false_eq_true, if_false, if_true, reduceIte, Nat.reduceSub, Nat.reduceAdd, true_and, and_true, Nat.zero_add, fLe, fLt, fGe, fGt, fAddI, fSubI, fMulI, fDivI, fModI, fNeg, fIx_t0, fIx_t1, fIx_t2, fIx_t3, xLc2, xZip, fZip, xIndex, fIndex, sRaise, fMulL, fListQ, xIsE, xFld, sTry, sTry0]
  refine fIx_t ef ?_
  simp only [eF, sSeq_eq, thenD_cons, sNil, sRet, sRetN, sSet, sSetN, sAsg, sIf, sFor, forD, sDrop, sApp, sExt, sPop, sPop0, sSetIx, sAug, sPar, sMove, sFreeze, sNever, sBreak, sCont, xFr, xVw, xSt, xOw, xTp, xC, xOp1, xOp2, xTup, xLst, xCons, xNil, xCall, xCB, xTst, xTru, xAndT, xOrT, xNotT, xAnd, xOr, xNot, xIf, xChain, xCut, xSome, xNo, xIsi, xLc, xSeq, xRng1, xRng2, xYes, fRng1, fRng2, fSeq, dgN, dgT, dgCons, dgNil, Env.get, Env.put, env0, slOf, wipeR, List.set, List.set_cons_zero, List.set_cons_succ, List.getD_cons_zero, List.getD_cons_succ, List.length_cons, List.length_nil, fBool, fTru, fI20, fI2, fI1, fIsi, fOwL, fInt, fListQ, List.replicate, List.append_nil, List.nil_append, List.cons_append, Bool.false_eq_true, if_false, if_true, reduceIte, Nat.reduceSub, Nat.reduceAdd, true_and, and_true, Nat.zero_add, fLe, fLt, fGe, fGt, fAddI, fSubI, fMulI, fDivI, fModI, fNeg, fIx_t0, fIx_t1, fIx_t2, fIx_t3, xLc2, xZip, fZip, xIndex, fIndex, sRaise, fMulL, fListQ, xIsE, xFld, sTry, sTry0]
  refine ix_int hkv ?_
  have h9 := hvb k hks
  have h8 := Nat.log2_le_self (at0 v k).natAbs
  refine ⟨by omega, ?_⟩
  refine ix_int hkv ?_
  refine fIx_t ef ?_
  simp only [eF, sSeq_eq, thenD_cons, sNil, sRet, sRetN, sSet, sSetN, sAsg, sIf, sFor, forD, sDrop, sApp, sExt, sPop, sPop0, sSetIx, sAug, sPar, sMove, sFreeze, sNever, sBreak, sCont, xFr, xVw, xSt, xOw, xTp, xC, xOp1, xOp2, xTup, xLst, xCons, xNil, xCall, xCB, xTst, xTru, xAndT, xOrT, xNotT, xAnd, xOr, xNot, xIf, xChain, xCut, xSome, xNo, xIsi, xLc, xSeq, xRng1, xRng2, xYes, fRng1, fRng2, fSeq, dgN, dgT, dgCons, dgNil, Env.get, Env.put, env0, slOf, wipeR, List.set, List.set_cons_zero, List.set_cons_succ, List.getD_cons_zero, List.getD_cons_succ, List.length_cons, List.length_nil, fBool, fTru, fI20, fI2, fI1, fIsi, fOwL, fInt, fListQ, List.replicate, List.append_nil, List.nil_append, List.cons_append, Bool.false_eq_true, if_false, if_true, reduceIte, Nat.reduceSub, Nat.reduceAdd, true_and, and_true, Nat.zero_add, fLe, fLt, fGe, fGt, fAddI, fSubI, fMulI, fDivI, fModI, fNeg, fIx_t0, fIx_t1, fIx_t2, fIx_t3, xLc2, xZip, fZip, xIndex, fIndex, sRaise, fMulL, fListQ, xIsE, xFld, sTry, sTry0]
  refine fIx_t ef ?_
  simp only [eF, sSeq_eq, thenD_cons, sNil, sRet, sRetN, sSet, sSetN, sAsg, sIf, sFor, forD, sDrop, sApp, sExt, sPop, sPop0, sSetIx, sAug, sPar, sMove, sFreeze, sNever, sBreak, sCont, xFr, xVw, xSt, xOw, xTp, xC, xOp1, xOp2, xTup, xLst, xCons, xNil, xCall, xCB, xTst, xTru, xAndT, xOrT, xNotT, xAnd, xOr, xNot, xIf, xChain, xCut, xSome, xNo, xIsi, xLc, xSeq, xRng1, xRng2, xYes, fRng1, fRng2, fSeq, dgN, dgT, dgCons, dgNil, Env.get, Env.put, env0, slOf, wipeR, List.set, List.set_cons_zero, List.set_cons_succ, List.getD_cons_zero, List.getD_cons_succ, List.length_cons, List.length_nil, fBool, fTru, fI20, fI2, fI1, fIsi, fOwL, fInt, fListQ, List.replicate, List.append_nil, List.nil_append, List.cons_append, Bool.false_eq_true, if_false, if_true, reduceIte, Nat.reduceSub, Nat.reduceAdd, true_and, and_true, Nat.zero_add, fLe, fLt, fGe, fGt, fAddI, fSubI, fMulI, fDivI, fModI, fNeg, fIx_t0, fIx_t1, fIx_t2, fIx_t3, xLc2, xZip, fZip, xIndex, fIndex, sRaise, fMulL, fListQ, xIsE, xFld, sTry, sTry0]
  refine th4 q (by omega) hkv rfl ?_
  intro y hy
  simp only [List.mem_cons, List.not_mem_nil, or_false] at hy
  rcases hy with e | e | e | e | e | e | e | e | e | e | e <;> subst e <;> trivial
end
theorem pure__law_thing : PureOk sp_law_thing b__law_thing 12 := by
  rintro ds Q Qx ⟨s, rfl, h, q⟩
  simp only [b__law_thing, sp_law_thing, nd, sSeq_eq, thenD_cons, sNil, sRet, sRetN, sSet, sSetN, sAsg, sIf, sFor, forD, sDrop, sApp, sExt, sPop, sPop0, sSetIx, sAug, sPar, sMove, sFreeze, sNever, sBreak, sCont, xFr, xVw, xSt, xOw, xTp, xC, xOp1, xOp2, xTup, xLst, xCons, xNil, xCall, xCB, xTst, xTru, xAndT, xOrT, xNotT, xAnd, xOr, xNot, xIf, xChain, xCut, xSome, xNo, xIsi, xLc, xSeq, xRng1, xRng2, xYes, fRng1, fRng2, fSeq, dgN, dgT, dgCons, dgNil, Env.get, Env.put, env0, slOf, wipeR, List.set, List.set_cons_zero, List.set_cons_succ, List.getD_cons_zero, List.getD_cons_succ, List.length_cons, List.length_nil, fBool, fTru, fI20, fI2, fI1, fIsi, fOwL, fInt, fListQ, List.replicate, List.append_nil, List.nil_append, List.cons_append, Bool.false_eq_true, if_false, if_true, reduceIte, Nat.reduceSub, Nat.reduceAdd, true_and, and_true, Nat.zero_add, fLe, fLt, fGe, fGt, fAddI, fSubI, fMulI, fDivI, fModI, fNeg, fIx_t0, fIx_t1, fIx_t2, fIx_t3, xLc2, xZip, fZip, xIndex, fIndex, sRaise, fMulL, fListQ, xIsE, xFld, sTry, sTry0]
  simp only [eS, sSeq_eq, thenD_cons, sNil, sRet, sRetN, sSet, sSetN, sAsg, sIf, sFor, forD, sDrop, sApp, sExt, sPop, sPop0, sSetIx, sAug, sPar, sMove, sFreeze, sNever, sBreak, sCont, xFr, xVw, xSt, xOw, xTp, xC, xOp1, xOp2, xTup, xLst, xCons, xNil, xCall, xCB, xTst, xTru, xAndT, xOrT, xNotT, xAnd, xOr, xNot, xIf, xChain, xCut, xSome, xNo, xIsi, xLc, xSeq, xRng1, xRng2, xYes, fRng1, fRng2, fSeq, dgN, dgT, dgCons, dgNil, Env.get, Env.put, env0, slOf, wipeR, List.set, List.set_cons_zero, List.set_cons_succ, List.getD_cons_zero, List.getD_cons_succ, List.length_cons, List.length_nil, fBool, fTru, fI20, fI2, fI1, fIsi, fOwL, fInt, fListQ, List.replicate, List.append_nil, List.nil_append, List.cons_append, Bool.false_eq_true, if_false, if_true, reduceIte, Nat.reduceSub, Nat.reduceAdd, true_and, and_true, Nat.zero_add, fLe, fLt, fGe, fGt, fAddI, fSubI, fMulI, fDivI, fModI, fNeg, fIx_t0, fIx_t1, fIx_t2, fIx_t3, xLc2, xZip, fZip, xIndex, fIndex, sRaise, fMulL, fListQ, xIsE, xFld, sTry, sTry0]
  simp only [fLen, sSeq_eq, thenD_cons, sNil, sRet, sRetN, sSet, sSetN, sAsg, sIf, sFor, forD, sDrop, sApp, sExt, sPop, sPop0, sSetIx, sAug, sPar, sMove, sFreeze, sNever, sBreak, sCont, xFr, xVw, xSt, xOw, xTp, xC, xOp1, xOp2, xTup, xLst, xCons, xNil, xCall, xCB, xTst, xTru, xAndT, xOrT, xNotT, xAnd, xOr, xNot, xIf, xChain, xCut, xSome, xNo, xIsi, xLc, xSeq, xRng1, xRng2, xYes, fRng1, fRng2, fSeq, dgN, dgT, dgCons, dgNil, Env.get, Env.put, env0, slOf, wipeR, List.set, List.set_cons_zero, List.set_cons_succ, List.getD_cons_zero, List.getD_cons_succ, List.length_cons, List.length_nil, fBool, fTru, fI20, fI2, fI1, fIsi, fOwL, fInt, fListQ, List.replicate, List.append_nil, List.nil_append, List.cons_append, Bool.false_eq_true, if_false, if_true, reduceIte, Nat.reduceSub, Nat.reduceAdd, true_and, and_true, Nat.zero_add, fLe, fLt, fGe, fGt, fAddI, fSubI, fMulI, fDivI, fModI, fNeg, fIx_t0, fIx_t1, fIx_t2, fIx_t3, xLc2, xZip, fZip, xIndex, fIndex, sRaise, fMulL, fListQ, xIsE, xFld, sTry, sTry0, List.length_map]
  have hn : 0 < s.fs.length ∧ s.fs.length ≤ 4 := ⟨h.pf, h.nf⟩
  by_cases hr : (0 : Int) < (((recs s).length : Nat) : Int)
  · simp only [hr, decide_true, sSeq_eq, thenD_cons, sNil, sRet, sRetN, sSet, sSetN, sAsg, sIf, sFor, forD, sDrop, sApp, sExt, sPop, sPop0, sSetIx, sAug, sPar, sMove, sFreeze, sNever, sBreak, sCont, xFr, xVw, xSt, xOw, xTp, xC, xOp1, xOp2, xTup, xLst, xCons, xNil, xCall, xCB, xTst, xTru, xAndT, xOrT, xNotT, xAnd, xOr, xNot, xIf, xChain, xCut, xSome, xNo, xIsi, xLc, xSeq, xRng1, xRng2, xYes, fRng1, fRng2, fSeq, dgN, dgT, dgCons, dgNil, Env.get, Env.put, env0, slOf, wipeR, List.set, List.set_cons_zero, List.set_cons_succ, List.getD_cons_zero, List.getD_cons_succ, List.length_cons, List.length_nil, fBool, fTru, fI20, fI2, fI1, fIsi, fOwL, fInt, fListQ, List.replicate, List.append_nil, List.nil_append, List.cons_append, Bool.false_eq_true, if_false, if_true, reduceIte, Nat.reduceSub, Nat.reduceAdd, true_and, and_true, Nat.zero_add, fLe, fLt, fGe, fGt, fAddI, fSubI, fMulI, fDivI, fModI, fNeg, fIx_t0, fIx_t1, fIx_t2, fIx_t3, xLc2, xZip, fZip, xIndex, fIndex, sRaise, fMulL, fListQ, xIsE, xFld, sTry, sTry0]
    have hB : (recs s).length ≤ 256 := by
      have h1 := rowsB s.fs [[]] 1 (fun f hf => (h.lo f hf).2.1) (by simp)
      have h2 : (recs s).length ≤ (rowsOf s.fs).length := List.length_filter_le _ _
      have h3 : 4 ^ s.fs.length ≤ 4 ^ 4 := Nat.pow_le_pow_right (by decide) hn.2
      have h4 : (rowsOf s.fs).length ≤ 1 * 4 ^ s.fs.length := h1
      omega
    refine dip (by omega) (by omega) fun k0 hk0 => ?_
    have hkl : k0 < (recs s).length := by omega
    have hm := (mem_recs.mp (List.getElem_mem hkl)).1
    refine fIx_l (d := eV (recs s)[k0]) (by simp [hkl]) ?_
    exact th2 h q hm
  · simp only [hr, decide_false, sSeq_eq, thenD_cons, sNil, sRet, sRetN, sSet, sSetN, sAsg, sIf, sFor, forD, sDrop, sApp, sExt, sPop, sPop0, sSetIx, sAug, sPar, sMove, sFreeze, sNever, sBreak, sCont, xFr, xVw, xSt, xOw, xTp, xC, xOp1, xOp2, xTup, xLst, xCons, xNil, xCall, xCB, xTst, xTru, xAndT, xOrT, xNotT, xAnd, xOr, xNot, xIf, xChain, xCut, xSome, xNo, xIsi, xLc, xSeq, xRng1, xRng2, xYes, fRng1, fRng2, fSeq, dgN, dgT, dgCons, dgNil, Env.get, Env.put, env0, slOf, wipeR, List.set, List.set_cons_zero, List.set_cons_succ, List.getD_cons_zero, List.getD_cons_succ, List.length_cons, List.length_nil, fBool, fTru, fI20, fI2, fI1, fIsi, fOwL, fInt, fListQ, List.replicate, List.append_nil, List.nil_append, List.cons_append, Bool.false_eq_true, if_false, if_true, reduceIte, Nat.reduceSub, Nat.reduceAdd, true_and, and_true, Nat.zero_add, fLe, fLt, fGe, fGt, fAddI, fSubI, fMulI, fDivI, fModI, fNeg, fIx_t0, fIx_t1, fIx_t2, fIx_t3, xLc2, xZip, fZip, xIndex, fIndex, sRaise, fMulL, fListQ, xIsE, xFld, sTry, sTry0]
    refine lcD_all eF (fun f => .int f.2.1) s.fs _ (fun x _ R R0 r => ?_) ?_
    · simp only [eF, sSeq_eq, thenD_cons, sNil, sRet, sRetN, sSet, sSetN, sAsg, sIf, sFor, forD, sDrop, sApp, sExt, sPop, sPop0, sSetIx, sAug, sPar, sMove, sFreeze, sNever, sBreak, sCont, xFr, xVw, xSt, xOw, xTp, xC, xOp1, xOp2, xTup, xLst, xCons, xNil, xCall, xCB, xTst, xTru, xAndT, xOrT, xNotT, xAnd, xOr, xNot, xIf, xChain, xCut, xSome, xNo, xIsi, xLc, xSeq, xRng1, xRng2, xYes, fRng1, fRng2, fSeq, dgN, dgT, dgCons, dgNil, Env.get, Env.put, env0, slOf, wipeR, List.set, List.set_cons_zero, List.set_cons_succ, List.getD_cons_zero, List.getD_cons_succ, List.length_cons, List.length_nil, fBool, fTru, fI20, fI2, fI1, fIsi, fOwL, fInt, fListQ, List.replicate, List.append_nil, List.nil_append, List.cons_append, Bool.false_eq_true, if_false, if_true, reduceIte, Nat.reduceSub, Nat.reduceAdd, true_and, and_true, Nat.zero_add, fLe, fLt, fGe, fGt, fAddI, fSubI, fMulI, fDivI, fModI, fNeg, fIx_t0, fIx_t1, fIx_t2, fIx_t3, xLc2, xZip, fZip, xIndex, fIndex, sRaise, fMulL, fListQ, xIsE, xFld, sTry, sTry0]
      exact r
    simp only [fTuple, sSeq_eq, thenD_cons, sNil, sRet, sRetN, sSet, sSetN, sAsg, sIf, sFor, forD, sDrop, sApp, sExt, sPop, sPop0, sSetIx, sAug, sPar, sMove, sFreeze, sNever, sBreak, sCont, xFr, xVw, xSt, xOw, xTp, xC, xOp1, xOp2, xTup, xLst, xCons, xNil, xCall, xCB, xTst, xTru, xAndT, xOrT, xNotT, xAnd, xOr, xNot, xIf, xChain, xCut, xSome, xNo, xIsi, xLc, xSeq, xRng1, xRng2, xYes, fRng1, fRng2, fSeq, dgN, dgT, dgCons, dgNil, Env.get, Env.put, env0, slOf, wipeR, List.set, List.set_cons_zero, List.set_cons_succ, List.getD_cons_zero, List.getD_cons_succ, List.length_cons, List.length_nil, fBool, fTru, fI20, fI2, fI1, fIsi, fOwL, fInt, fListQ, List.replicate, List.append_nil, List.nil_append, List.cons_append, Bool.false_eq_true, if_false, if_true, reduceIte, Nat.reduceSub, Nat.reduceAdd, true_and, and_true, Nat.zero_add, fLe, fLt, fGe, fGt, fAddI, fSubI, fMulI, fDivI, fModI, fNeg, fIx_t0, fIx_t1, fIx_t2, fIx_t3, xLc2, xZip, fZip, xIndex, fIndex, sRaise, fMulL, fListQ, xIsE, xFld, sTry, sTry0]
    have hm := low_in fun f hf => (h.lo f hf).1
    have ev : (.tuple (s.fs.map fun f => .int f.2.1) : D) = eV (lows s.fs) := by simp [eV, lows, Function.comp_def]
    rw [ev]
    exact th2 h q hm
section
variable {P : Program} {w : World} {K : PySem.W.Frag} {mg : Str → Option Value} {base : Heap} {T : Tape}
abbrev s__law_thing : Stmt := top 31
theorem sc__law_thing : FnScope ["crock", "schema", "records", "fields", "start", "at", "odd", "other", "things", "name", "low", "high"] ["crock", "schema", "records"] (defScope s__law_thing) := ⟨rfl, rfl, rfl, by decide +kernel, rfl, by decide +kernel, by decide +kernel⟩
theorem ok__law_thing (D : DefD K mg "_law_thing" s__law_thing ["crock", "schema", "records"]) (bn : Bn mg) (h__law_dip : FnD P w K mg base T "_law_dip" 1 sp_dip) : FnD P w K mg base T "_law_thing" 2 sp_law_thing := by
  refine fnD (N := ["crock", "schema", "records", "fields", "start", "at", "odd", "other", "things", "name", "low", "high"]) (B := b__law_thing) D sc__law_thing rfl (.inl rfl) (fun f cdv A outer s H E hr => ?_) pure__law_thing
  have nd := sc__law_thing.nd
  have tk : Takes (cxOf (L2.CX P w) P w K mg base ["crock", "schema", "records", "fields", "start", "at", "odd", "other", "things", "name", "low", "high"] "_law_thing" (defScope s__law_thing) f cdv A outer s H E) (fun c d _ H => E c d H) := takes_of rfl rfl rfl rfl
  exact (pssx_cons (psx_set 3 nd rfl (by first | exact Or.inl rfl | exact Or.inr rfl) (px_ix (px_vw 1 (pv 1)) (PX.frVw px_int)))
  (pssx_cons (psx_set 4 nd rfl (by first | exact Or.inl rfl | exact Or.inr rfl) (px_ite (ptx_cmp op_gt (PX.frVw (px_b call_len rc_len (by rfl) bn.len PySem.boot_len (pax_cons (k := .vw) (px_vw 2 (pv 2)) pax_nil))) (PX.frVw px_int) r2_gt (nomark _)) (px_ix (px_vw 2 (pv 2)) (PX.frVw (px_callF h__law_dip tk (hr.mono (by decide)) (by rfl) (pax_cons (k := .tp) (px_tp 0 (pv 0)) (pax_cons (k := .fr) (px_b call_len rc_len (by rfl) bn.len PySem.boot_len (pax_cons (k := .vw) (px_vw 2 (pv 2)) pax_nil)) (pax_cons (k := .fr) px_str pax_nil)))))) (px_ty call_tuple_of rc_tuple (by rfl) bn.tuple PyProof.Rows.boot_tuple (pax_cons (k := .vw) (PX.nwVw (px_lc (own := [("name", 9), ("low", 10), ("high", 11)]) rfl nd (pix_seq (m := false) (px_vw 3 (pv 3))) (blkOk_by (by first | (change blkC ["crock", "schema", "records", "fields", "start", "at", "odd", "other", "things", "name", "low", "high"] (defScope s__law_thing) _ _ = true; decide +kernel) | rfl)) (fun _ _ _ _ _ => (pgx_t rfl (pgsx_cons (pgx_n 9 (pg_name nd rfl (by first | exact Or.inl rfl | exact Or.inr rfl))) (pgsx_cons (pgx_n 10 (pg_name nd rfl (by first | exact Or.inl rfl | exact Or.inr rfl))) (pgsx_cons (pgx_n 11 (pg_name nd rfl (by first | exact Or.inl rfl | exact Or.inr rfl))) pgsx_nil))) 3)) (fun _ _ _ _ _ => ptsx_nil) (fun _ _ _ _ _ => (px_fr 10 (pv 10))))) pax_nil))))
  (pssx_cons (psx_set 5 nd rfl (by first | exact Or.inl rfl | exact Or.inr rfl) (px_callF h__law_dip tk (hr.mono (by decide)) (by rfl) (pax_cons (k := .tp) (px_tp 0 (pv 0)) (pax_cons (k := .fr) (px_b call_len rc_len (by rfl) bn.len PySem.boot_len (pax_cons (k := .vw) (px_vw 3 (pv 3)) pax_nil)) (pax_cons (k := .fr) px_str pax_nil)))))
  (pssx_cons (psx_set 6 nd rfl (by first | exact Or.inl rfl | exact Or.inr rfl) (px_tup (pax_cons (k := .fr) (px_addI (PX.frVw (px_ix (px_vw 4 (pv 4)) (px_vw 5 (pv 5)))) (PX.frVw px_int)) (pax_cons (k := .fr) (px_subI (PX.frVw (px_ix (px_vw 4 (pv 4)) (px_vw 5 (pv 5)))) (PX.frVw px_int)) (pax_cons (k := .fr) (px_addI (PX.frVw (px_ix (PX.frVw (px_ix (px_vw 3 (pv 3)) (px_vw 5 (pv 5)))) (PX.frVw px_int))) (PX.frVw px_int)) (pax_cons (k := .fr) (px_subI (PX.frVw (px_ix (PX.frVw (px_ix (px_vw 3 (pv 3)) (px_vw 5 (pv 5)))) (PX.frVw px_int))) (PX.frVw px_int)) (pax_cons (k := .fr) px_bl (pax_cons (k := .fr) px_bl (pax_cons (k := .fr) px_non (pax_cons (k := .fr) (px_ty call_str_int rc_str (by rfl) bn.str PyProof.Rows.boot_str (pax_cons (k := .vw) (PX.frVw (px_ix (px_vw 4 (pv 4)) (px_vw 5 (pv 5)))) pax_nil)) (pax_cons (k := .fr) (px_tup (pax_cons (k := .fr) (px_ix (px_vw 4 (pv 4)) (px_vw 5 (pv 5))) pax_nil)) (pax_cons (k := .fr) (px_ix (PX.frVw (px_ix (px_vw 3 (pv 3)) (px_vw 5 (pv 5)))) (PX.frVw px_int)) (pax_cons (k := .fr) (px_ix (PX.frVw (px_ix (px_vw 3 (pv 3)) (px_vw 5 (pv 5)))) (PX.frVw px_int)) pax_nil)))))))))))))
  (pssx_cons (psx_set 7 nd rfl (by first | exact Or.inl rfl | exact Or.inr rfl) (px_ix (px_vw 6 (pv 6)) (PX.frVw (px_callF h__law_dip tk (hr.mono (by decide)) (by rfl) (pax_cons (k := .tp) (px_tp 0 (pv 0)) (pax_cons (k := .fr) px_int (pax_cons (k := .fr) px_str pax_nil)))))))
  (pssx_cons (psx_setN 8 nd rfl (by first | exact Or.inl rfl | exact Or.inr rfl) (px_addL (PX.nwVw (px_mulL (px_lst (pax_cons (k := .fr) (px_addT (PX.frVw (px_addT (PX.frVw (px_sliceT (px_vw 4 (pv 4)) pox_no (pox_some (px_vw 5 (pv 5))))) (PX.frVw (px_tup (pax_cons (k := .fr) (px_fr 7 (pv 7)) pax_nil))))) (PX.frVw (px_sliceT (px_vw 4 (pv 4)) (pox_some (PX.frVw (px_addI (px_vw 5 (pv 5)) (PX.frVw px_int)))) pox_no))) pax_nil)) (PX.frVw px_int))) (PX.nwVw (px_lst (pax_cons (k := .fr) (PX.nwFr (px_ty call_list_of rc_list (by rfl) bn.list PyProof.Rows.boot_list (pax_cons (k := .vw) (px_vw 4 (pv 4)) pax_nil))) (pax_cons (k := .fr) (px_addT (px_vw 4 (pv 4)) (PX.frVw (px_tup (pax_cons (k := .fr) (px_ix (px_vw 4 (pv 4)) (px_vw 5 (pv 5))) pax_nil)))) (pax_cons (k := .fr) (px_sliceT (px_vw 4 (pv 4)) (pox_some (PX.frVw px_int)) pox_no) (pax_cons (k := .fr) (px_tup pax_nil) (pax_cons (k := .fr) px_non (pax_cons (k := .fr) (px_tup (pax_cons (k := .fr) (px_fr 4 (pv 4)) pax_nil)) (pax_cons (k := .fr) px_int (pax_cons (k := .fr) px_str (pax_cons (k := .fr) (px_fr 4 (pv 4)) pax_nil)))))))))))))
  (pssx_one (psx_ret (px_ix (px_vw 8 (pv 8)) (PX.frVw (px_callF h__law_dip tk (hr.mono (by decide)) (by rfl) (pax_cons (k := .tp) (px_tp 0 (pv 0)) (pax_cons (k := .fr) (px_b call_len rc_len (by rfl) bn.len PySem.boot_len (pax_cons (k := .vw) (px_vw 8 (pv 8)) pax_nil)) (pax_cons (k := .fr) px_str pax_nil)))))) (.inl rfl)))))))))
end
end K07

set_option maxRecDepth 100000
set_option maxHeartbeats 4000000
namespace K07
open PySem PySem.Spec PyProof.Rows L2 Dt
theorem same {d : D} {Q : D → Prop} {Qx : Exn → Prop} (h : Small d) (q : Q (.bool true)) : sp_law_same.f [d, d] Q Qx := ⟨d, rfl, h, q⟩
theorem nodes_eV (v : List Int) : nodes (eV v) = v.length + 1 := by
  have : nodesL (v.map .int) = v.length := by
    induction v with
    | nil => rfl
    | cons a v ih => simp only [List.map_cons, nodesL, nodes, ih, List.length_cons]; omega
  simp only [eV, nodes, this]
theorem noD_eV (v : List Int) : noD (eV v) = true := by
  simp only [eV, noD]
  rw [noDL_mem]
  intro d hd
  obtain ⟨i, _, rfl⟩ := List.mem_map.mp hd
  rfl
theorem small_rows {rs : List (List Int)} (h1 : rs.length ≤ 300) (h2 : ∀ r ∈ rs, r.length ≤ 4) : Small (.tuple (rs.map eV)) := by
  refine ⟨?_, ?_⟩
  · simp only [noD]
    rw [noDL_mem]
    intro d hd
    obtain ⟨i, _, rfl⟩ := List.mem_map.mp hd
    exact noD_eV i
  · have : nodesL (rs.map eV) ≤ rs.length * 5 := by
      clear h1
      induction rs with
      | nil => simp [nodesL]
      | cons r rs ih =>
        have := ih fun r hr => h2 r (List.mem_cons_of_mem _ hr)
        have := h2 r (by simp)
        simp only [List.map_cons, nodesL, nodes_eV, List.length_cons]; omega
    simp only [nodes]; omega
theorem recs_len {s : Sc} (h : s.Ok) : (recs s).length ≤ 256 ∧ ∀ r ∈ recs s, r.length = s.fs.length := by
  have h1 := rowsB s.fs [[]] 1 (fun f hf => (h.lo f hf).2.1) (by simp)
  have h2 : (recs s).length ≤ (rowsOf s.fs).length := List.length_filter_le _ _
  have h3 : 4 ^ s.fs.length ≤ 4 ^ 4 := Nat.pow_le_pow_right (by decide) h.nf
  have h4 : (rowsOf s.fs).length ≤ 1 * 4 ^ s.fs.length := h1
  exact ⟨by omega, fun r hr => (in_iff.mp (mem_recs.mp hr).1).1⟩
theorem small_bool (b : Bool) : Small (.bool b) := ⟨rfl, by simp [nodes]⟩
theorem small_told {a : String} {d : D} (ha : noD (.str a) = true) (h : noD d = true) (h2 : nodes d ≤ 90000) : Small (told a d) := by
  refine ⟨by simp only [told, noD, noDL] at ha ⊢; simp [ha, h], ?_⟩
  simp only [told, nodes, nodesL]; omega
theorem small_due {rs : List (List Int)} {dm : List Dem} (h2 : ∀ r ∈ rs, r.length ≤ 4) : Small (dueF rs dm) := by
  unfold dueF
  split
  · exact small_told (by decide +kernel) (by decide +kernel) (by decide +kernel)
  · rename_i rs' hne
    split
    · exact small_told (by decide +kernel) (by decide +kernel) (by decide +kernel)
    · rename_i g gs e
      refine small_told (by decide +kernel) (noD_eV _) ?_
      have hg : g ∈ rs := (List.mem_filter.mp (show g ∈ rs.filter (fun r => dm.all (kp r)) by rw [e]; simp)).1
      have := h2 g hg
      rw [nodes_eV]; simp; omega
theorem least_due {s : Sc} {dm : List Dem} {t : Bool} {Q : D → Prop} {Qx Qx2 Qx3 : Exn → Prop} (h : s.Ok) (hd : ∀ d ∈ dm, d.1 < s.fs.length) (q : Q (.bool true)) :
    sp_law_least.f [eS s, eDs dm] (fun d1 => sp_law_due.f [.list ((recs s).map eV), dsq t dm] (fun d2 => sp_law_same.f [d1, d2] Q Qx) Qx2) Qx3 := by
  obtain ⟨_, hr⟩ := recs_len h
  have hn := h.nf
  refine ⟨(s, dm), rfl, ⟨h, hd⟩, (recs s, dm, t), rfl, ⟨fun r hr' d hd' => ?_, fun r h1 r' h2 => ?_, fun r h1 => ?_⟩, same (small_due fun r h1 => ?_) q⟩
  · show d.1 < r.length
    rw [hr r hr']; exact hd d hd'
  · rw [hr r h1, hr r' h2]
  · rw [hr r h1]; omega
  · rw [hr r h1]; exact hn
noncomputable def b__law_asked_7 : DS :=
  (sRet (xC (.bool true)))

noncomputable def b__law_asked_6 : DS :=
  (sSeq (sFor (xSeq ((xTup (xCons ((xOp2 fIx ((xOp2 fIx (xVw 4) (xVw 5))) (xC (.int 2)))) (xCons ((xOp2 fAddI ((xOp2 fIx ((xOp2 fIx (xVw 4) (xVw 5))) (xC (.int 2)))) (xC (.int 1)))) xNil))))) (dgN 6) (sIf ((xNotT ((xTru ((xCall sp_law_same (xCons ((xCall sp_law_least (xCons (xFr 1) (xCons ((xTup (xCons ((xTup (xCons (xFr 5) (xCons (xFr 6) xNil)))) xNil))) xNil)))) (xCons ((xCall sp_law_due (xCons (xFr 2) (xCons ((xTup (xCons ((xTup (xCons (xFr 5) (xCons (xFr 6) xNil)))) xNil))) xNil)))) xNil)))))))) (sRet (xC (.bool false))) sNil))
  b__law_asked_7)

noncomputable def b__law_asked_5 : DS :=
  (sSeq (sSet 5 ((xCall sp_dip (xCons (xTp 0) (xCons ((xCB fLen (xCons (xVw 4) xNil))) (xCons (xC (.str "highest")) xNil))))))
  b__law_asked_6)

noncomputable def b__law_asked_4 : DS :=
  (sSeq (sFor (xRng1 (xCons (xC (.int 4)) xNil)) (dgN 3) (sSeq (sSetN 8 ((xLst xNil)))
  (sSeq (sFor (xRng1 (xCons ((xCall sp_dip (xCons (xTp 0) (xCons (xC (.int 4)) (xCons (xC (.str "demands")) xNil))))) xNil)) (dgN 9) (sSeq (sSet 10 ((xCall sp_dip (xCons (xTp 0) (xCons ((xCB fLen (xCons (xVw 4) xNil))) (xCons (xC (.str "field")) xNil))))))
  (sApp 8 ((xTup (xCons (xFr 10) (xCons ((xOp2 fAddI ((xOp2 fIx ((xOp2 fIx (xVw 4) (xVw 10))) (xC (.int 1)))) ((xCall sp_dip (xCons (xTp 0) (xCons ((xOp2 fAddI ((xOp2 fAddI ((xOp2 fSubI ((xOp2 fIx ((xOp2 fIx (xVw 4) (xVw 10))) (xC (.int 2)))) ((xOp2 fIx ((xOp2 fIx (xVw 4) (xVw 10))) (xC (.int 1)))))) (xC (.int 1)))) ((xCB fIntOf (xCons ((xOp2 fEq ((xCall sp_dip (xCons (xTp 0) (xCons (xC (.int 5)) (xCons (xC (.str "beyond")) xNil))))) (xC (.int 0)))) xNil))))) (xCons (xC (.str "answer")) xNil))))))) xNil)))))))
  (sFreeze 8 (sIf ((xNotT ((xTru ((xCall sp_law_same (xCons ((xCall sp_law_least (xCons (xFr 1) (xCons ((xCB fTuple (xCons (xVw 8) xNil))) xNil)))) (xCons ((xCall sp_law_due (xCons (xFr 2) (xCons (xFr 8) xNil)))) xNil)))))))) (sRet (xC (.bool false))) sNil)))))
  b__law_asked_5)

noncomputable def b__law_asked_3 : DS :=
  (sSeq (sSet 4 ((xOp2 fIx (xVw 1) (xC (.int 0)))))
  b__law_asked_4)

noncomputable def b__law_asked_2 : DS :=
  (sSeq (sFor (xRng1 (xCons (xC (.int 5)) xNil)) (dgN 3) (sSeq (sSet 7 ((xCall sp_law_thing (xCons (xTp 0) (xCons (xFr 1) (xCons (xFr 2) xNil))))))
  (sIf ((xNotT ((xTru ((xCall sp_law_same (xCons ((xCall sp_is_record (xCons (xFr 1) (xCons (xFr 7) xNil)))) (xCons ((xCall sp_law_is_record (xCons (xFr 1) (xCons (xFr 2) (xCons (xFr 7) xNil))))) xNil)))))))) (sRet (xC (.bool false))) sNil)))
  b__law_asked_3)

noncomputable def b__law_asked_1 : DS :=
  (sSeq (sIf ((xNotT ((xTru ((xCall sp_law_same (xCons ((xCall sp_all_records (xCons (xFr 1) xNil))) (xCons ((xCB fTuple (xCons (xVw 2) xNil))) xNil)))))))) (sRet (xC (.bool false))) sNil)
  b__law_asked_2)

/-- _law_asked: 0 crock, 1 schema, 2 records, 3 lap, 4 fields, 5 at, 6 answer, 7 thing, 8 demands, 9 more, 10 field -/
noncomputable def b__law_asked : DS :=
  (sSeq (sSet 2 ((xCall sp_law_records (xCons (xFr 1) xNil))))
  b__law_asked_1)
section
variable {Q : D → Prop} {Qx : Exn → Prop} {nx bk ct : Dt.Env → Prop} {s : Sc}
abbrev aenv (s : Sc) (a b c d e f g h : Sl) : Dt.Env := [.tp, .fr (eS s), .fr (.list ((recs s).map eV)), a, b, c, d, e, f, g, h]
theorem as7 {ρ : Dt.Env} (q : Q (.bool true)) : b__law_asked_7 ρ ⟨nx, Q, bk, ct, fun _ => Qx⟩ := q
theorem as6 (h : SchOk s) (q : Q (.bool true)) {k : Nat} (hk : k < s.fs.length) {a d e f g i : Sl} : b__law_asked_6 (aenv s a (.fr (.tuple (s.fs.map eF))) (.fr (.int (k : Int))) d e f g i) ⟨nx, Q, bk, ct, fun _ => Qx⟩ := by
  obtain ⟨fl, hf, ef⟩ := getF (fs := s.fs) (k := k) hk
  unfold b__law_asked_6
  rw [sSeq_eq]
  simp only [aenv, sSeq_eq, thenD_cons, sNil, sRet, sRetN, sSet, sSetN, sAsg, sIf, sFor, forD, sDrop, sApp, sExt, sPop, sPop0, sSetIx, sAug, sPar, sMove, sFreeze, sNever, sBreak, sCont, xFr, xVw, xSt, xOw, xTp, xC, xOp1, xOp2, xTup, xLst, xCons, xNil, xCall, xCB, xTst, xTru, xAndT, xOrT, xNotT, xAnd, xOr, xNot, xIf, xChain, xCut, xSome, xNo, xIsi, xLc, xSeq, xRng1, xRng2, xYes, fRng1, fRng2, fSeq, dgN, dgT, dgCons, dgNil, Env.get, Env.put, env0, slOf, wipeR, List.set, List.set_cons_zero, List.set_cons_succ, List.getD_cons_zero, List.getD_cons_succ, List.length_cons, List.length_nil, fBool, fTru, fI20, fI2, fI1, fIsi, fOwL, fInt, fListQ, List.replicate, List.append_nil, List.nil_append, List.cons_append, Bool.false_eq_true, if_false, if_true, reduceIte, Nat.reduceSub, Nat.reduceAdd, true_and, and_true, Nat.zero_add, fLe, fLt, fGe, fGt, fAddI, fSubI, fMulI, fDivI, fModI, fNeg, fIx_t0, fIx_t1, fIx_t2, fIx_t3, xLc2, xZip, fZip, xIndex, fIndex, sRaise, fMulL, fListQ, xIsE, xFld, sTry, sTry0]
  refine fIx_t ef ?_
  simp only [eF, sSeq_eq, thenD_cons, sNil, sRet, sRetN, sSet, sSetN, sAsg, sIf, sFor, forD, sDrop, sApp, sExt, sPop, sPop0, sSetIx, sAug, sPar, sMove, sFreeze, sNever, sBreak, sCont, xFr, xVw, xSt, xOw, xTp, xC, xOp1, xOp2, xTup, xLst, xCons, xNil, xCall, xCB, xTst, xTru, xAndT, xOrT, xNotT, xAnd, xOr, xNot, xIf, xChain, xCut, xSome, xNo, xIsi, xLc, xSeq, xRng1, xRng2, xYes, fRng1, fRng2, fSeq, dgN, dgT, dgCons, dgNil, Env.get, Env.put, env0, slOf, wipeR, List.set, List.set_cons_zero, List.set_cons_succ, List.getD_cons_zero, List.getD_cons_succ, List.length_cons, List.length_nil, fBool, fTru, fI20, fI2, fI1, fIsi, fOwL, fInt, fListQ, List.replicate, List.append_nil, List.nil_append, List.cons_append, Bool.false_eq_true, if_false, if_true, reduceIte, Nat.reduceSub, Nat.reduceAdd, true_and, and_true, Nat.zero_add, fLe, fLt, fGe, fGt, fAddI, fSubI, fMulI, fDivI, fModI, fNeg, fIx_t0, fIx_t1, fIx_t2, fIx_t3, xLc2, xZip, fZip, xIndex, fIndex, sRaise, fMulL, fListQ, xIsE, xFld, sTry, sTry0]
  refine fIx_t ef ?_
  simp only [eF, sSeq_eq, thenD_cons, sNil, sRet, sRetN, sSet, sSetN, sAsg, sIf, sFor, forD, sDrop, sApp, sExt, sPop, sPop0, sSetIx, sAug, sPar, sMove, sFreeze, sNever, sBreak, sCont, xFr, xVw, xSt, xOw, xTp, xC, xOp1, xOp2, xTup, xLst, xCons, xNil, xCall, xCB, xTst, xTru, xAndT, xOrT, xNotT, xAnd, xOr, xNot, xIf, xChain, xCut, xSome, xNo, xIsi, xLc, xSeq, xRng1, xRng2, xYes, fRng1, fRng2, fSeq, dgN, dgT, dgCons, dgNil, Env.get, Env.put, env0, slOf, wipeR, List.set, List.set_cons_zero, List.set_cons_succ, List.getD_cons_zero, List.getD_cons_succ, List.length_cons, List.length_nil, fBool, fTru, fI20, fI2, fI1, fIsi, fOwL, fInt, fListQ, List.replicate, List.append_nil, List.nil_append, List.cons_append, Bool.false_eq_true, if_false, if_true, reduceIte, Nat.reduceSub, Nat.reduceAdd, true_and, and_true, Nat.zero_add, fLe, fLt, fGe, fGt, fAddI, fSubI, fMulI, fDivI, fModI, fNeg, fIx_t0, fIx_t1, fIx_t2, fIx_t3, xLc2, xZip, fZip, xIndex, fIndex, sRaise, fMulL, fListQ, xIsE, xFld, sTry, sTry0]
  have ho := h.ok
  have go : ∀ z : Int, ∀ R : D → Prop, R (.bool true) → ∀ {Q1 Q2 Q3 : Exn → Prop}, sp_law_least.f [eS s, .tuple [.tuple [.int (k : Int), .int z]]] (fun d1 => sp_law_due.f [.list ((recs s).map eV), .tuple [.tuple [.int (k : Int), .int z]]] (fun d2 => sp_law_same.f [d1, d2] R Q1) Q2) Q3 :=
    fun z R hR => least_due (dm := [(k, z)]) (t := true) ho (by intro d hd; rw [List.mem_singleton.mp hd]; exact hk) hR
  refine go _ _ ?_
  simp only [sSeq_eq, thenD_cons, sNil, sRet, sRetN, sSet, sSetN, sAsg, sIf, sFor, forD, sDrop, sApp, sExt, sPop, sPop0, sSetIx, sAug, sPar, sMove, sFreeze, sNever, sBreak, sCont, xFr, xVw, xSt, xOw, xTp, xC, xOp1, xOp2, xTup, xLst, xCons, xNil, xCall, xCB, xTst, xTru, xAndT, xOrT, xNotT, xAnd, xOr, xNot, xIf, xChain, xCut, xSome, xNo, xIsi, xLc, xSeq, xRng1, xRng2, xYes, fRng1, fRng2, fSeq, dgN, dgT, dgCons, dgNil, Env.get, Env.put, env0, slOf, wipeR, List.set, List.set_cons_zero, List.set_cons_succ, List.getD_cons_zero, List.getD_cons_succ, List.length_cons, List.length_nil, fBool, fTru, fI20, fI2, fI1, fIsi, fOwL, fInt, fListQ, List.replicate, List.append_nil, List.nil_append, List.cons_append, Bool.false_eq_true, if_false, if_true, reduceIte, Nat.reduceSub, Nat.reduceAdd, true_and, and_true, Nat.zero_add, fLe, fLt, fGe, fGt, fAddI, fSubI, fMulI, fDivI, fModI, fNeg, fIx_t0, fIx_t1, fIx_t2, fIx_t3, xLc2, xZip, fZip, xIndex, fIndex, sRaise, fMulL, fListQ, xIsE, xFld, sTry, sTry0]
  refine go _ _ ?_
  simp only [sSeq_eq, thenD_cons, sNil, sRet, sRetN, sSet, sSetN, sAsg, sIf, sFor, forD, sDrop, sApp, sExt, sPop, sPop0, sSetIx, sAug, sPar, sMove, sFreeze, sNever, sBreak, sCont, xFr, xVw, xSt, xOw, xTp, xC, xOp1, xOp2, xTup, xLst, xCons, xNil, xCall, xCB, xTst, xTru, xAndT, xOrT, xNotT, xAnd, xOr, xNot, xIf, xChain, xCut, xSome, xNo, xIsi, xLc, xSeq, xRng1, xRng2, xYes, fRng1, fRng2, fSeq, dgN, dgT, dgCons, dgNil, Env.get, Env.put, env0, slOf, wipeR, List.set, List.set_cons_zero, List.set_cons_succ, List.getD_cons_zero, List.getD_cons_succ, List.length_cons, List.length_nil, fBool, fTru, fI20, fI2, fI1, fIsi, fOwL, fInt, fListQ, List.replicate, List.append_nil, List.nil_append, List.cons_append, Bool.false_eq_true, if_false, if_true, reduceIte, Nat.reduceSub, Nat.reduceAdd, true_and, and_true, Nat.zero_add, fLe, fLt, fGe, fGt, fAddI, fSubI, fMulI, fDivI, fModI, fNeg, fIx_t0, fIx_t1, fIx_t2, fIx_t3, xLc2, xZip, fZip, xIndex, fIndex, sRaise, fMulL, fListQ, xIsE, xFld, sTry, sTry0]
  exact as7 q
theorem as5 (h : SchOk s) (q : Q (.bool true)) {a c d e f g i : Sl} : b__law_asked_5 (aenv s a (.fr (.tuple (s.fs.map eF))) c d e f g i) ⟨nx, Q, bk, ct, fun _ => Qx⟩ := by
  have h1 := h.ok.nf
  have h2 := h.ok.pf
  unfold b__law_asked_5
  rw [sSeq_eq]
  simp only [aenv, fLen, sSeq_eq, thenD_cons, sNil, sRet, sRetN, sSet, sSetN, sAsg, sIf, sFor, forD, sDrop, sApp, sExt, sPop, sPop0, sSetIx, sAug, sPar, sMove, sFreeze, sNever, sBreak, sCont, xFr, xVw, xSt, xOw, xTp, xC, xOp1, xOp2, xTup, xLst, xCons, xNil, xCall, xCB, xTst, xTru, xAndT, xOrT, xNotT, xAnd, xOr, xNot, xIf, xChain, xCut, xSome, xNo, xIsi, xLc, xSeq, xRng1, xRng2, xYes, fRng1, fRng2, fSeq, dgN, dgT, dgCons, dgNil, Env.get, Env.put, env0, slOf, wipeR, List.set, List.set_cons_zero, List.set_cons_succ, List.getD_cons_zero, List.getD_cons_succ, List.length_cons, List.length_nil, fBool, fTru, fI20, fI2, fI1, fIsi, fOwL, fInt, fListQ, List.replicate, List.append_nil, List.nil_append, List.cons_append, Bool.false_eq_true, if_false, if_true, reduceIte, Nat.reduceSub, Nat.reduceAdd, true_and, and_true, Nat.zero_add, fLe, fLt, fGe, fGt, fAddI, fSubI, fMulI, fDivI, fModI, fNeg, fIx_t0, fIx_t1, fIx_t2, fIx_t3, xLc2, xZip, fZip, xIndex, fIndex, sRaise, fMulL, fListQ, xIsE, xFld, sTry, sTry0, List.length_map]
  refine dip (by omega) (by omega) fun k hk => ?_
  exact as6 h q (by omega)
theorem as4 (h : SchOk s) (q : Q (.bool true)) {a c d e f g i : Sl} : b__law_asked_4 (aenv s a (.fr (.tuple (s.fs.map eF))) c d e f g i) ⟨nx, Q, bk, ct, fun _ => Qx⟩ := by
  have ho := h.ok
  have h1 := h.ok.nf
  have h2 := h.ok.pf
  unfold b__law_asked_4
  rw [sSeq_eq]
  simp only [aenv, sSeq_eq, thenD_cons, sNil, sRet, sRetN, sSet, sSetN, sAsg, sIf, sFor, forD, sDrop, sApp, sExt, sPop, sPop0, sSetIx, sAug, sPar, sMove, sFreeze, sNever, sBreak, sCont, xFr, xVw, xSt, xOw, xTp, xC, xOp1, xOp2, xTup, xLst, xCons, xNil, xCall, xCB, xTst, xTru, xAndT, xOrT, xNotT, xAnd, xOr, xNot, xIf, xChain, xCut, xSome, xNo, xIsi, xLc, xSeq, xRng1, xRng2, xYes, fRng1, fRng2, fSeq, dgN, dgT, dgCons, dgNil, Env.get, Env.put, env0, slOf, wipeR, List.set, List.set_cons_zero, List.set_cons_succ, List.getD_cons_zero, List.getD_cons_succ, List.length_cons, List.length_nil, fBool, fTru, fI20, fI2, fI1, fIsi, fOwL, fInt, fListQ, List.replicate, List.append_nil, List.nil_append, List.cons_append, Bool.false_eq_true, if_false, if_true, reduceIte, Nat.reduceSub, Nat.reduceAdd, true_and, and_true, Nat.zero_add, fLe, fLt, fGe, fGt, fAddI, fSubI, fMulI, fDivI, fModI, fNeg, fIx_t0, fIx_t1, fIx_t2, fIx_t3, xLc2, xZip, fZip, xIndex, fIndex, sRaise, fMulL, fListQ, xIsE, xFld, sTry, sTry0]
  refine ⟨by decide, by decide, ?_⟩
  have er : rngD 0 (4 : Int).toNat = (List.range 4).map fun k : Nat => (.int (k : Int)) := rfl
  rw [er]
  refine forD_pre (fun k : Nat => (.int (k : Int))) (fun pre ρ => ∃ a c d e f g i, ρ = aenv s a (.fr (.tuple (s.fs.map eF))) c d e f g i) _ (List.range 4) (List.range 4) [] _ rfl ⟨_, _, _, _, _, _, _, rfl⟩ ?_ ?_
  · rintro pre k post ρ hall ⟨a, c, d, e, f, g, i, rfl⟩ N hN
    simp only [aenv, sSeq_eq, thenD_cons, sNil, sRet, sRetN, sSet, sSetN, sAsg, sIf, sFor, forD, sDrop, sApp, sExt, sPop, sPop0, sSetIx, sAug, sPar, sMove, sFreeze, sNever, sBreak, sCont, xFr, xVw, xSt, xOw, xTp, xC, xOp1, xOp2, xTup, xLst, xCons, xNil, xCall, xCB, xTst, xTru, xAndT, xOrT, xNotT, xAnd, xOr, xNot, xIf, xChain, xCut, xSome, xNo, xIsi, xLc, xSeq, xRng1, xRng2, xYes, fRng1, fRng2, fSeq, dgN, dgT, dgCons, dgNil, Env.get, Env.put, env0, slOf, wipeR, List.set, List.set_cons_zero, List.set_cons_succ, List.getD_cons_zero, List.getD_cons_succ, List.length_cons, List.length_nil, fBool, fTru, fI20, fI2, fI1, fIsi, fOwL, fInt, fListQ, List.replicate, List.append_nil, List.nil_append, List.cons_append, Bool.false_eq_true, if_false, if_true, reduceIte, Nat.reduceSub, Nat.reduceAdd, true_and, and_true, Nat.zero_add, fLe, fLt, fGe, fGt, fAddI, fSubI, fMulI, fDivI, fModI, fNeg, fIx_t0, fIx_t1, fIx_t2, fIx_t3, xLc2, xZip, fZip, xIndex, fIndex, sRaise, fMulL, fListQ, xIsE, xFld, sTry, sTry0]
    refine dip (by decide) (by decide) fun k1 hk1 => ?_
    simp only [sSeq_eq, thenD_cons, sNil, sRet, sRetN, sSet, sSetN, sAsg, sIf, sFor, forD, sDrop, sApp, sExt, sPop, sPop0, sSetIx, sAug, sPar, sMove, sFreeze, sNever, sBreak, sCont, xFr, xVw, xSt, xOw, xTp, xC, xOp1, xOp2, xTup, xLst, xCons, xNil, xCall, xCB, xTst, xTru, xAndT, xOrT, xNotT, xAnd, xOr, xNot, xIf, xChain, xCut, xSome, xNo, xIsi, xLc, xSeq, xRng1, xRng2, xYes, fRng1, fRng2, fSeq, dgN, dgT, dgCons, dgNil, Env.get, Env.put, env0, slOf, wipeR, List.set, List.set_cons_zero, List.set_cons_succ, List.getD_cons_zero, List.getD_cons_succ, List.length_cons, List.length_nil, fBool, fTru, fI20, fI2, fI1, fIsi, fOwL, fInt, fListQ, List.replicate, List.append_nil, List.nil_append, List.cons_append, Bool.false_eq_true, if_false, if_true, reduceIte, Nat.reduceSub, Nat.reduceAdd, true_and, and_true, Nat.zero_add, fLe, fLt, fGe, fGt, fAddI, fSubI, fMulI, fDivI, fModI, fNeg, fIx_t0, fIx_t1, fIx_t2, fIx_t3, xLc2, xZip, fZip, xIndex, fIndex, sRaise, fMulL, fListQ, xIsE, xFld, sTry, sTry0]
    refine ⟨by omega, by omega, ?_⟩
    have er2 : rngD 0 (k1 : Int).toNat = (List.range k1).map fun k : Nat => (.int (k : Int)) := by simp [rngD]
    rw [er2]
    refine forD_pre (fun k : Nat => (.int (k : Int))) (fun pre ρ => ∃ dm g i, ρ = aenv s (.fr (.int (k : Int))) (.fr (.tuple (s.fs.map eF))) c d e (.ow (.list (dm.map eD))) g i ∧ dm.length = pre.length ∧ ∀ d ∈ dm, d.1 < s.fs.length) _ (List.range k1) (List.range k1) [] _ rfl ⟨[], g, i, rfl, rfl, by simp⟩ ?_ ?_
    · rintro pre2 k2 post2 ρ hall2 ⟨dm, g, i, rfl, hdl, hdm⟩ N2 hN2
      have hpl2 : pre2.length < 4 := by have := congrArg List.length hall2; simp at this; omega
      simp only [aenv, fLen, sSeq_eq, thenD_cons, sNil, sRet, sRetN, sSet, sSetN, sAsg, sIf, sFor, forD, sDrop, sApp, sExt, sPop, sPop0, sSetIx, sAug, sPar, sMove, sFreeze, sNever, sBreak, sCont, xFr, xVw, xSt, xOw, xTp, xC, xOp1, xOp2, xTup, xLst, xCons, xNil, xCall, xCB, xTst, xTru, xAndT, xOrT, xNotT, xAnd, xOr, xNot, xIf, xChain, xCut, xSome, xNo, xIsi, xLc, xSeq, xRng1, xRng2, xYes, fRng1, fRng2, fSeq, dgN, dgT, dgCons, dgNil, Env.get, Env.put, env0, slOf, wipeR, List.set, List.set_cons_zero, List.set_cons_succ, List.getD_cons_zero, List.getD_cons_succ, List.length_cons, List.length_nil, fBool, fTru, fI20, fI2, fI1, fIsi, fOwL, fInt, fListQ, List.replicate, List.append_nil, List.nil_append, List.cons_append, Bool.false_eq_true, if_false, if_true, reduceIte, Nat.reduceSub, Nat.reduceAdd, true_and, and_true, Nat.zero_add, fLe, fLt, fGe, fGt, fAddI, fSubI, fMulI, fDivI, fModI, fNeg, fIx_t0, fIx_t1, fIx_t2, fIx_t3, xLc2, xZip, fZip, xIndex, fIndex, sRaise, fMulL, fListQ, xIsE, xFld, sTry, sTry0, List.length_map]
      refine dip (by omega) (by omega) fun k3 hk3 => ?_
      obtain ⟨fl, hf, ef⟩ := getF (fs := s.fs) (k := k3) (by omega)
      obtain ⟨b1, b2, b3, b4⟩ := ho.lo fl hf
      refine fIx_t ef ?_
      simp only [eF, sSeq_eq, thenD_cons, sNil, sRet, sRetN, sSet, sSetN, sAsg, sIf, sFor, forD, sDrop, sApp, sExt, sPop, sPop0, sSetIx, sAug, sPar, sMove, sFreeze, sNever, sBreak, sCont, xFr, xVw, xSt, xOw, xTp, xC, xOp1, xOp2, xTup, xLst, xCons, xNil, xCall, xCB, xTst, xTru, xAndT, xOrT, xNotT, xAnd, xOr, xNot, xIf, xChain, xCut, xSome, xNo, xIsi, xLc, xSeq, xRng1, xRng2, xYes, fRng1, fRng2, fSeq, dgN, dgT, dgCons, dgNil, Env.get, Env.put, env0, slOf, wipeR, List.set, List.set_cons_zero, List.set_cons_succ, List.getD_cons_zero, List.getD_cons_succ, List.length_cons, List.length_nil, fBool, fTru, fI20, fI2, fI1, fIsi, fOwL, fInt, fListQ, List.replicate, List.append_nil, List.nil_append, List.cons_append, Bool.false_eq_true, if_false, if_true, reduceIte, Nat.reduceSub, Nat.reduceAdd, true_and, and_true, Nat.zero_add, fLe, fLt, fGe, fGt, fAddI, fSubI, fMulI, fDivI, fModI, fNeg, fIx_t0, fIx_t1, fIx_t2, fIx_t3, xLc2, xZip, fZip, xIndex, fIndex, sRaise, fMulL, fListQ, xIsE, xFld, sTry, sTry0]
      refine fIx_t ef ?_
      simp only [eF, sSeq_eq, thenD_cons, sNil, sRet, sRetN, sSet, sSetN, sAsg, sIf, sFor, forD, sDrop, sApp, sExt, sPop, sPop0, sSetIx, sAug, sPar, sMove, sFreeze, sNever, sBreak, sCont, xFr, xVw, xSt, xOw, xTp, xC, xOp1, xOp2, xTup, xLst, xCons, xNil, xCall, xCB, xTst, xTru, xAndT, xOrT, xNotT, xAnd, xOr, xNot, xIf, xChain, xCut, xSome, xNo, xIsi, xLc, xSeq, xRng1, xRng2, xYes, fRng1, fRng2, fSeq, dgN, dgT, dgCons, dgNil, Env.get, Env.put, env0, slOf, wipeR, List.set, List.set_cons_zero, List.set_cons_succ, List.getD_cons_zero, List.getD_cons_succ, List.length_cons, List.length_nil, fBool, fTru, fI20, fI2, fI1, fIsi, fOwL, fInt, fListQ, List.replicate, List.append_nil, List.nil_append, List.cons_append, Bool.false_eq_true, if_false, if_true, reduceIte, Nat.reduceSub, Nat.reduceAdd, true_and, and_true, Nat.zero_add, fLe, fLt, fGe, fGt, fAddI, fSubI, fMulI, fDivI, fModI, fNeg, fIx_t0, fIx_t1, fIx_t2, fIx_t3, xLc2, xZip, fZip, xIndex, fIndex, sRaise, fMulL, fListQ, xIsE, xFld, sTry, sTry0]
      refine fIx_t ef ?_
      simp only [eF, sSeq_eq, thenD_cons, sNil, sRet, sRetN, sSet, sSetN, sAsg, sIf, sFor, forD, sDrop, sApp, sExt, sPop, sPop0, sSetIx, sAug, sPar, sMove, sFreeze, sNever, sBreak, sCont, xFr, xVw, xSt, xOw, xTp, xC, xOp1, xOp2, xTup, xLst, xCons, xNil, xCall, xCB, xTst, xTru, xAndT, xOrT, xNotT, xAnd, xOr, xNot, xIf, xChain, xCut, xSome, xNo, xIsi, xLc, xSeq, xRng1, xRng2, xYes, fRng1, fRng2, fSeq, dgN, dgT, dgCons, dgNil, Env.get, Env.put, env0, slOf, wipeR, List.set, List.set_cons_zero, List.set_cons_succ, List.getD_cons_zero, List.getD_cons_succ, List.length_cons, List.length_nil, fBool, fTru, fI20, fI2, fI1, fIsi, fOwL, fInt, fListQ, List.replicate, List.append_nil, List.nil_append, List.cons_append, Bool.false_eq_true, if_false, if_true, reduceIte, Nat.reduceSub, Nat.reduceAdd, true_and, and_true, Nat.zero_add, fLe, fLt, fGe, fGt, fAddI, fSubI, fMulI, fDivI, fModI, fNeg, fIx_t0, fIx_t1, fIx_t2, fIx_t3, xLc2, xZip, fZip, xIndex, fIndex, sRaise, fMulL, fListQ, xIsE, xFld, sTry, sTry0]
      refine dip (by decide) (by decide) fun k4 hk4 => ?_
      rw [fEq_int]
      simp only [fInt_b, sSeq_eq, thenD_cons, sNil, sRet, sRetN, sSet, sSetN, sAsg, sIf, sFor, forD, sDrop, sApp, sExt, sPop, sPop0, sSetIx, sAug, sPar, sMove, sFreeze, sNever, sBreak, sCont, xFr, xVw, xSt, xOw, xTp, xC, xOp1, xOp2, xTup, xLst, xCons, xNil, xCall, xCB, xTst, xTru, xAndT, xOrT, xNotT, xAnd, xOr, xNot, xIf, xChain, xCut, xSome, xNo, xIsi, xLc, xSeq, xRng1, xRng2, xYes, fRng1, fRng2, fSeq, dgN, dgT, dgCons, dgNil, Env.get, Env.put, env0, slOf, wipeR, List.set, List.set_cons_zero, List.set_cons_succ, List.getD_cons_zero, List.getD_cons_succ, List.length_cons, List.length_nil, fBool, fTru, fI20, fI2, fI1, fIsi, fOwL, fInt, fListQ, List.replicate, List.append_nil, List.nil_append, List.cons_append, Bool.false_eq_true, if_false, if_true, reduceIte, Nat.reduceSub, Nat.reduceAdd, true_and, and_true, Nat.zero_add, fLe, fLt, fGe, fGt, fAddI, fSubI, fMulI, fDivI, fModI, fNeg, fIx_t0, fIx_t1, fIx_t2, fIx_t3, xLc2, xZip, fZip, xIndex, fIndex, sRaise, fMulL, fListQ, xIsE, xFld, sTry, sTry0]
      refine dip (by split <;> omega) (by split <;> omega) fun k5 hk5 => ?_
      refine ⟨by rw [sizeLine_eq]; omega, hN2 _ ⟨dm ++ [(k3, fl.2.1 + k5)], .fr (.int (k2 : Int)), .fr (.int (k3 : Int)), by rw [List.map_append]; rfl, by simp [hdl], fun d hd => ?_⟩⟩
      rcases List.mem_append.mp hd with z | z
      · exact hdm d z
      · rw [List.mem_singleton.mp z]; show k3 < s.fs.length; omega
    · rintro ρ ⟨dm, g, i, rfl, hdl, hdm⟩
      simp only [aenv, fTuple, sSeq_eq, thenD_cons, sNil, sRet, sRetN, sSet, sSetN, sAsg, sIf, sFor, forD, sDrop, sApp, sExt, sPop, sPop0, sSetIx, sAug, sPar, sMove, sFreeze, sNever, sBreak, sCont, xFr, xVw, xSt, xOw, xTp, xC, xOp1, xOp2, xTup, xLst, xCons, xNil, xCall, xCB, xTst, xTru, xAndT, xOrT, xNotT, xAnd, xOr, xNot, xIf, xChain, xCut, xSome, xNo, xIsi, xLc, xSeq, xRng1, xRng2, xYes, fRng1, fRng2, fSeq, dgN, dgT, dgCons, dgNil, Env.get, Env.put, env0, slOf, wipeR, List.set, List.set_cons_zero, List.set_cons_succ, List.getD_cons_zero, List.getD_cons_succ, List.length_cons, List.length_nil, fBool, fTru, fI20, fI2, fI1, fIsi, fOwL, fInt, fListQ, List.replicate, List.append_nil, List.nil_append, List.cons_append, Bool.false_eq_true, if_false, if_true, reduceIte, Nat.reduceSub, Nat.reduceAdd, true_and, and_true, Nat.zero_add, fLe, fLt, fGe, fGt, fAddI, fSubI, fMulI, fDivI, fModI, fNeg, fIx_t0, fIx_t1, fIx_t2, fIx_t3, xLc2, xZip, fZip, xIndex, fIndex, sRaise, fMulL, fListQ, xIsE, xFld, sTry, sTry0]
      refine least_due (dm := dm) (t := false) ho hdm ?_
      simp only [sSeq_eq, thenD_cons, sNil, sRet, sRetN, sSet, sSetN, sAsg, sIf, sFor, forD, sDrop, sApp, sExt, sPop, sPop0, sSetIx, sAug, sPar, sMove, sFreeze, sNever, sBreak, sCont, xFr, xVw, xSt, xOw, xTp, xC, xOp1, xOp2, xTup, xLst, xCons, xNil, xCall, xCB, xTst, xTru, xAndT, xOrT, xNotT, xAnd, xOr, xNot, xIf, xChain, xCut, xSome, xNo, xIsi, xLc, xSeq, xRng1, xRng2, xYes, fRng1, fRng2, fSeq, dgN, dgT, dgCons, dgNil, Env.get, Env.put, env0, slOf, wipeR, List.set, List.set_cons_zero, List.set_cons_succ, List.getD_cons_zero, List.getD_cons_succ, List.length_cons, List.length_nil, fBool, fTru, fI20, fI2, fI1, fIsi, fOwL, fInt, fListQ, List.replicate, List.append_nil, List.nil_append, List.cons_append, Bool.false_eq_true, if_false, if_true, reduceIte, Nat.reduceSub, Nat.reduceAdd, true_and, and_true, Nat.zero_add, fLe, fLt, fGe, fGt, fAddI, fSubI, fMulI, fDivI, fModI, fNeg, fIx_t0, fIx_t1, fIx_t2, fIx_t3, xLc2, xZip, fZip, xIndex, fIndex, sRaise, fMulL, fListQ, xIsE, xFld, sTry, sTry0]
      exact hN _ ⟨_, _, _, _, _, _, _, rfl⟩
  · rintro ρ ⟨a, c, d, e, f, g, i, rfl⟩
    exact ⟨as5 h q⟩
theorem as3 (h : SchOk s) (q : Q (.bool true)) {a b c d e f g i : Sl} : b__law_asked_3 (aenv s a b c d e f g i) ⟨nx, Q, bk, ct, fun _ => Qx⟩ := by
  unfold b__law_asked_3
  rw [sSeq_eq]
  simp only [aenv, eS, sSeq_eq, thenD_cons, sNil, sRet, sRetN, sSet, sSetN, sAsg, sIf, sFor, forD, sDrop, sApp, sExt, sPop, sPop0, sSetIx, sAug, sPar, sMove, sFreeze, sNever, sBreak, sCont, xFr, xVw, xSt, xOw, xTp, xC, xOp1, xOp2, xTup, xLst, xCons, xNil, xCall, xCB, xTst, xTru, xAndT, xOrT, xNotT, xAnd, xOr, xNot, xIf, xChain, xCut, xSome, xNo, xIsi, xLc, xSeq, xRng1, xRng2, xYes, fRng1, fRng2, fSeq, dgN, dgT, dgCons, dgNil, Env.get, Env.put, env0, slOf, wipeR, List.set, List.set_cons_zero, List.set_cons_succ, List.getD_cons_zero, List.getD_cons_succ, List.length_cons, List.length_nil, fBool, fTru, fI20, fI2, fI1, fIsi, fOwL, fInt, fListQ, List.replicate, List.append_nil, List.nil_append, List.cons_append, Bool.false_eq_true, if_false, if_true, reduceIte, Nat.reduceSub, Nat.reduceAdd, true_and, and_true, Nat.zero_add, fLe, fLt, fGe, fGt, fAddI, fSubI, fMulI, fDivI, fModI, fNeg, fIx_t0, fIx_t1, fIx_t2, fIx_t3, xLc2, xZip, fZip, xIndex, fIndex, sRaise, fMulL, fListQ, xIsE, xFld, sTry, sTry0]
  exact as4 h q
theorem as2 (h : SchOk s) (q : Q (.bool true)) {a b c d e f g i : Sl} : b__law_asked_2 (aenv s a b c d e f g i) ⟨nx, Q, bk, ct, fun _ => Qx⟩ := by
  have ho := h.ok
  obtain ⟨hl, hr⟩ := recs_len ho
  have hn := ho.nf
  unfold b__law_asked_2
  rw [sSeq_eq]
  simp only [aenv, sSeq_eq, thenD_cons, sNil, sRet, sRetN, sSet, sSetN, sAsg, sIf, sFor, forD, sDrop, sApp, sExt, sPop, sPop0, sSetIx, sAug, sPar, sMove, sFreeze, sNever, sBreak, sCont, xFr, xVw, xSt, xOw, xTp, xC, xOp1, xOp2, xTup, xLst, xCons, xNil, xCall, xCB, xTst, xTru, xAndT, xOrT, xNotT, xAnd, xOr, xNot, xIf, xChain, xCut, xSome, xNo, xIsi, xLc, xSeq, xRng1, xRng2, xYes, fRng1, fRng2, fSeq, dgN, dgT, dgCons, dgNil, Env.get, Env.put, env0, slOf, wipeR, List.set, List.set_cons_zero, List.set_cons_succ, List.getD_cons_zero, List.getD_cons_succ, List.length_cons, List.length_nil, fBool, fTru, fI20, fI2, fI1, fIsi, fOwL, fInt, fListQ, List.replicate, List.append_nil, List.nil_append, List.cons_append, Bool.false_eq_true, if_false, if_true, reduceIte, Nat.reduceSub, Nat.reduceAdd, true_and, and_true, Nat.zero_add, fLe, fLt, fGe, fGt, fAddI, fSubI, fMulI, fDivI, fModI, fNeg, fIx_t0, fIx_t1, fIx_t2, fIx_t3, xLc2, xZip, fZip, xIndex, fIndex, sRaise, fMulL, fListQ, xIsE, xFld, sTry, sTry0]
  refine ⟨by decide, by decide, ?_⟩
  have er : rngD 0 (5 : Int).toNat = (List.range 5).map fun k : Nat => (.int (k : Int)) := rfl
  rw [er]
  refine forD_pre (fun k : Nat => (.int (k : Int))) (fun pre ρ => ∃ a b c d e f g i, ρ = aenv s a b c d e f g i) _ (List.range 5) (List.range 5) [] _ rfl ⟨_, _, _, _, _, _, _, _, rfl⟩ ?_ ?_
  · rintro pre k post ρ hall ⟨a, b, c, d, e, f, g, i, rfl⟩ N hN
    simp only [aenv, sSeq_eq, thenD_cons, sNil, sRet, sRetN, sSet, sSetN, sAsg, sIf, sFor, forD, sDrop, sApp, sExt, sPop, sPop0, sSetIx, sAug, sPar, sMove, sFreeze, sNever, sBreak, sCont, xFr, xVw, xSt, xOw, xTp, xC, xOp1, xOp2, xTup, xLst, xCons, xNil, xCall, xCB, xTst, xTru, xAndT, xOrT, xNotT, xAnd, xOr, xNot, xIf, xChain, xCut, xSome, xNo, xIsi, xLc, xSeq, xRng1, xRng2, xYes, fRng1, fRng2, fSeq, dgN, dgT, dgCons, dgNil, Env.get, Env.put, env0, slOf, wipeR, List.set, List.set_cons_zero, List.set_cons_succ, List.getD_cons_zero, List.getD_cons_succ, List.length_cons, List.length_nil, fBool, fTru, fI20, fI2, fI1, fIsi, fOwL, fInt, fListQ, List.replicate, List.append_nil, List.nil_append, List.cons_append, Bool.false_eq_true, if_false, if_true, reduceIte, Nat.reduceSub, Nat.reduceAdd, true_and, and_true, Nat.zero_add, fLe, fLt, fGe, fGt, fAddI, fSubI, fMulI, fDivI, fModI, fNeg, fIx_t0, fIx_t1, fIx_t2, fIx_t3, xLc2, xZip, fZip, xIndex, fIndex, sRaise, fMulL, fListQ, xIsE, xFld, sTry, sTry0]
    refine ⟨s, rfl, ho, fun th hth => ?_⟩
    simp only [sSeq_eq, thenD_cons, sNil, sRet, sRetN, sSet, sSetN, sAsg, sIf, sFor, forD, sDrop, sApp, sExt, sPop, sPop0, sSetIx, sAug, sPar, sMove, sFreeze, sNever, sBreak, sCont, xFr, xVw, xSt, xOw, xTp, xC, xOp1, xOp2, xTup, xLst, xCons, xNil, xCall, xCB, xTst, xTru, xAndT, xOrT, xNotT, xAnd, xOr, xNot, xIf, xChain, xCut, xSome, xNo, xIsi, xLc, xSeq, xRng1, xRng2, xYes, fRng1, fRng2, fSeq, dgN, dgT, dgCons, dgNil, Env.get, Env.put, env0, slOf, wipeR, List.set, List.set_cons_zero, List.set_cons_succ, List.getD_cons_zero, List.getD_cons_succ, List.length_cons, List.length_nil, fBool, fTru, fI20, fI2, fI1, fIsi, fOwL, fInt, fListQ, List.replicate, List.append_nil, List.nil_append, List.cons_append, Bool.false_eq_true, if_false, if_true, reduceIte, Nat.reduceSub, Nat.reduceAdd, true_and, and_true, Nat.zero_add, fLe, fLt, fGe, fGt, fAddI, fSubI, fMulI, fDivI, fModI, fNeg, fIx_t0, fIx_t1, fIx_t2, fIx_t3, xLc2, xZip, fZip, xIndex, fIndex, sRaise, fMulL, fListQ, xIsE, xFld, sTry, sTry0]
    refine ⟨(s, th), rfl, ⟨ho, hth⟩, ?_⟩
    rintro d1 ⟨b1, rfl, hb1⟩
    refine ⟨(eS s, recs s, th), rfl, ⟨hth, fun v hv => by rw [hr v hv]; omega, by show (recs s).length ≤ 100000; omega⟩, ?_⟩
    rintro d2 ⟨b2, rfl, hb2⟩
    have : b1 = b2 := by
      have := hb1.trans hb2.symm
      cases b1 <;> cases b2 <;> simp at this ⊢
    subst this
    refine same (small_bool _) ?_
    simp only [sSeq_eq, thenD_cons, sNil, sRet, sRetN, sSet, sSetN, sAsg, sIf, sFor, forD, sDrop, sApp, sExt, sPop, sPop0, sSetIx, sAug, sPar, sMove, sFreeze, sNever, sBreak, sCont, xFr, xVw, xSt, xOw, xTp, xC, xOp1, xOp2, xTup, xLst, xCons, xNil, xCall, xCB, xTst, xTru, xAndT, xOrT, xNotT, xAnd, xOr, xNot, xIf, xChain, xCut, xSome, xNo, xIsi, xLc, xSeq, xRng1, xRng2, xYes, fRng1, fRng2, fSeq, dgN, dgT, dgCons, dgNil, Env.get, Env.put, env0, slOf, wipeR, List.set, List.set_cons_zero, List.set_cons_succ, List.getD_cons_zero, List.getD_cons_succ, List.length_cons, List.length_nil, fBool, fTru, fI20, fI2, fI1, fIsi, fOwL, fInt, fListQ, List.replicate, List.append_nil, List.nil_append, List.cons_append, Bool.false_eq_true, if_false, if_true, reduceIte, Nat.reduceSub, Nat.reduceAdd, true_and, and_true, Nat.zero_add, fLe, fLt, fGe, fGt, fAddI, fSubI, fMulI, fDivI, fModI, fNeg, fIx_t0, fIx_t1, fIx_t2, fIx_t3, xLc2, xZip, fZip, xIndex, fIndex, sRaise, fMulL, fListQ, xIsE, xFld, sTry, sTry0]
    exact hN _ ⟨_, _, _, _, _, _, _, _, rfl⟩
  · rintro ρ ⟨a, b, c, d, e, f, g, i, rfl⟩
    exact ⟨as3 h q⟩
theorem as1 (h : SchOk s) (q : Q (.bool true)) {a b c d e f g i : Sl} : b__law_asked_1 (aenv s a b c d e f g i) ⟨nx, Q, bk, ct, fun _ => Qx⟩ := by
  have ho := h.ok
  obtain ⟨hl, hr⟩ := recs_len ho
  have hn := ho.nf
  unfold b__law_asked_1
  rw [sSeq_eq]
  simp only [aenv, fTuple, sSeq_eq, thenD_cons, sNil, sRet, sRetN, sSet, sSetN, sAsg, sIf, sFor, forD, sDrop, sApp, sExt, sPop, sPop0, sSetIx, sAug, sPar, sMove, sFreeze, sNever, sBreak, sCont, xFr, xVw, xSt, xOw, xTp, xC, xOp1, xOp2, xTup, xLst, xCons, xNil, xCall, xCB, xTst, xTru, xAndT, xOrT, xNotT, xAnd, xOr, xNot, xIf, xChain, xCut, xSome, xNo, xIsi, xLc, xSeq, xRng1, xRng2, xYes, fRng1, fRng2, fSeq, dgN, dgT, dgCons, dgNil, Env.get, Env.put, env0, slOf, wipeR, List.set, List.set_cons_zero, List.set_cons_succ, List.getD_cons_zero, List.getD_cons_succ, List.length_cons, List.length_nil, fBool, fTru, fI20, fI2, fI1, fIsi, fOwL, fInt, fListQ, List.replicate, List.append_nil, List.nil_append, List.cons_append, Bool.false_eq_true, if_false, if_true, reduceIte, Nat.reduceSub, Nat.reduceAdd, true_and, and_true, Nat.zero_add, fLe, fLt, fGe, fGt, fAddI, fSubI, fMulI, fDivI, fModI, fNeg, fIx_t0, fIx_t1, fIx_t2, fIx_t3, xLc2, xZip, fZip, xIndex, fIndex, sRaise, fMulL, fListQ, xIsE, xFld, sTry, sTry0]
  refine ⟨s, rfl, ho, ?_⟩
  refine same (small_rows (by omega) fun r h1 => by rw [hr r h1]; exact hn) ?_
  simp only [sSeq_eq, thenD_cons, sNil, sRet, sRetN, sSet, sSetN, sAsg, sIf, sFor, forD, sDrop, sApp, sExt, sPop, sPop0, sSetIx, sAug, sPar, sMove, sFreeze, sNever, sBreak, sCont, xFr, xVw, xSt, xOw, xTp, xC, xOp1, xOp2, xTup, xLst, xCons, xNil, xCall, xCB, xTst, xTru, xAndT, xOrT, xNotT, xAnd, xOr, xNot, xIf, xChain, xCut, xSome, xNo, xIsi, xLc, xSeq, xRng1, xRng2, xYes, fRng1, fRng2, fSeq, dgN, dgT, dgCons, dgNil, Env.get, Env.put, env0, slOf, wipeR, List.set, List.set_cons_zero, List.set_cons_succ, List.getD_cons_zero, List.getD_cons_succ, List.length_cons, List.length_nil, fBool, fTru, fI20, fI2, fI1, fIsi, fOwL, fInt, fListQ, List.replicate, List.append_nil, List.nil_append, List.cons_append, Bool.false_eq_true, if_false, if_true, reduceIte, Nat.reduceSub, Nat.reduceAdd, true_and, and_true, Nat.zero_add, fLe, fLt, fGe, fGt, fAddI, fSubI, fMulI, fDivI, fModI, fNeg, fIx_t0, fIx_t1, fIx_t2, fIx_t3, xLc2, xZip, fZip, xIndex, fIndex, sRaise, fMulL, fListQ, xIsE, xFld, sTry, sTry0]
  exact as2 h q
end
theorem pure__law_asked : PureOk sp_law_asked b__law_asked 11 := by
  rintro ds Q Qx ⟨s, rfl, h, q⟩
  simp only [b__law_asked, sp_law_asked, det1, sSeq_eq, thenD_cons, sNil, sRet, sRetN, sSet, sSetN, sAsg, sIf, sFor, forD, sDrop, sApp, sExt, sPop, sPop0, sSetIx, sAug, sPar, sMove, sFreeze, sNever, sBreak, sCont, xFr, xVw, xSt, xOw, xTp, xC, xOp1, xOp2, xTup, xLst, xCons, xNil, xCall, xCB, xTst, xTru, xAndT, xOrT, xNotT, xAnd, xOr, xNot, xIf, xChain, xCut, xSome, xNo, xIsi, xLc, xSeq, xRng1, xRng2, xYes, fRng1, fRng2, fSeq, dgN, dgT, dgCons, dgNil, Env.get, Env.put, env0, slOf, wipeR, List.set, List.set_cons_zero, List.set_cons_succ, List.getD_cons_zero, List.getD_cons_succ, List.length_cons, List.length_nil, fBool, fTru, fI20, fI2, fI1, fIsi, fOwL, fInt, fListQ, List.replicate, List.append_nil, List.nil_append, List.cons_append, Bool.false_eq_true, if_false, if_true, reduceIte, Nat.reduceSub, Nat.reduceAdd, true_and, and_true, Nat.zero_add, fLe, fLt, fGe, fGt, fAddI, fSubI, fMulI, fDivI, fModI, fNeg, fIx_t0, fIx_t1, fIx_t2, fIx_t3, xLc2, xZip, fZip, xIndex, fIndex, sRaise, fMulL, fListQ, xIsE, xFld, sTry, sTry0]
  refine ⟨s, rfl, h.ok, ?_⟩
  exact as1 h q
section
variable {P : Program} {w : World} {K : PySem.W.Frag} {mg : Str → Option Value} {base : Heap} {T : Tape}
abbrev s__law_asked : Stmt := top 33
theorem sc__law_asked : FnScope ["crock", "schema", "records", "lap", "fields", "at", "answer", "thing", "demands", "more", "field"] ["crock", "schema"] (defScope s__law_asked) := ⟨rfl, rfl, rfl, by decide +kernel, rfl, by decide +kernel, by decide +kernel⟩
theorem ok__law_asked (D : DefD K mg "_law_asked" s__law_asked ["crock", "schema"]) (bn : Bn mg) (h__law_records : FnD P w K mg base T "_law_records" 1 sp_law_records) (h__law_same : FnD P w K mg base T "_law_same" 1 sp_law_same) (h_all_records : FnD P w K mg base T "all_records" 3 sp_all_records) (h__law_thing : FnD P w K mg base T "_law_thing" 2 sp_law_thing) (h_is_record : FnD P w K mg base T "is_record" 4 sp_is_record) (h__law_is_record : FnD P w K mg base T "_law_is_record" 1 sp_law_is_record) (h__law_dip : FnD P w K mg base T "_law_dip" 1 sp_dip) (h__law_least : FnD P w K mg base T "_law_least" 6 sp_law_least) (h__law_due : FnD P w K mg base T "_law_due" 1 sp_law_due) : FnD P w K mg base T "_law_asked" 7 sp_law_asked := by
  refine fnD (N := ["crock", "schema", "records", "lap", "fields", "at", "answer", "thing", "demands", "more", "field"]) (B := b__law_asked) D sc__law_asked rfl (.inl rfl) (fun f cdv A outer s H E hr => ?_) pure__law_asked
  have nd := sc__law_asked.nd
  have tk : Takes (cxOf (L2.CX P w) P w K mg base ["crock", "schema", "records", "lap", "fields", "at", "answer", "thing", "demands", "more", "field"] "_law_asked" (defScope s__law_asked) f cdv A outer s H E) (fun c d _ H => E c d H) := takes_of rfl rfl rfl rfl
  exact (pssx_cons (psx_set 2 nd rfl (by first | exact Or.inl rfl | exact Or.inr rfl) (PX.nwFr (px_callN h__law_records tk (hr.mono (by decide)) (by rfl) (pax_cons (k := .fr) (px_fr 1 (pv 1)) pax_nil))))
  (pssx_cons (psx_if (ptx_not (ptx_tru (PX.frVw (px_callF h__law_same tk (hr.mono (by decide)) (by rfl) (pax_cons (k := .fr) (px_callF h_all_records tk (hr.mono (by decide)) (by rfl) (pax_cons (k := .fr) (px_fr 1 (pv 1)) pax_nil)) (pax_cons (k := .fr) (px_ty call_tuple_of rc_tuple (by rfl) bn.tuple PyProof.Rows.boot_tuple (pax_cons (k := .vw) (px_vw 2 (pv 2)) pax_nil)) pax_nil)))))) (pssx_one (psx_ret px_bl (.inl rfl))) pssx_nil)
  (pssx_cons (psx_for (passes_of rfl) rfl (pix_range1 (m := true) (by rfl) bn.range (pax_cons (k := .vw) (PX.frVw px_int) pax_nil)) (pgx_n 3 (pg_name nd rfl (by first | exact Or.inl rfl | exact Or.inr rfl))) (pssx_cons (psx_set 7 nd rfl (by first | exact Or.inl rfl | exact Or.inr rfl) (px_callF h__law_thing tk (hr.mono (by decide)) (by rfl) (pax_cons (k := .tp) (px_tp 0 (pv 0)) (pax_cons (k := .fr) (px_fr 1 (pv 1)) (pax_cons (k := .fr) (px_fr 2 (pv 2)) pax_nil)))))
  (pssx_one (psx_if (ptx_not (ptx_tru (PX.frVw (px_callF h__law_same tk (hr.mono (by decide)) (by rfl) (pax_cons (k := .fr) (px_callF h_is_record tk (hr.mono (by decide)) (by rfl) (pax_cons (k := .fr) (px_fr 1 (pv 1)) (pax_cons (k := .fr) (px_fr 7 (pv 7)) pax_nil))) (pax_cons (k := .fr) (px_callF h__law_is_record tk (hr.mono (by decide)) (by rfl) (pax_cons (k := .fr) (px_fr 1 (pv 1)) (pax_cons (k := .fr) (px_fr 2 (pv 2)) (pax_cons (k := .fr) (px_fr 7 (pv 7)) pax_nil)))) pax_nil)))))) (pssx_one (psx_ret px_bl (.inl rfl))) pssx_nil))))
  (pssx_cons (psx_set 4 nd rfl (by first | exact Or.inl rfl | exact Or.inr rfl) (px_ix (px_vw 1 (pv 1)) (PX.frVw px_int)))
  (pssx_cons (psx_for (passes_of rfl) rfl (pix_range1 (m := true) (by rfl) bn.range (pax_cons (k := .vw) (PX.frVw px_int) pax_nil)) (pgx_n 3 (pg_name nd rfl (by first | exact Or.inl rfl | exact Or.inr rfl))) (pssx_cons (psx_setN 8 nd rfl (by first | exact Or.inl rfl | exact Or.inr rfl) (px_lst pax_nil))
  (pssx_cons (psx_for (passes_of rfl) rfl (pix_range1 (m := true) (by rfl) bn.range (pax_cons (k := .vw) (PX.frVw (px_callF h__law_dip tk (hr.mono (by decide)) (by rfl) (pax_cons (k := .tp) (px_tp 0 (pv 0)) (pax_cons (k := .fr) px_int (pax_cons (k := .fr) px_str pax_nil))))) pax_nil)) (pgx_n 9 (pg_name nd rfl (by first | exact Or.inl rfl | exact Or.inr rfl))) (pssx_cons (psx_set 10 nd rfl (by first | exact Or.inl rfl | exact Or.inr rfl) (px_callF h__law_dip tk (hr.mono (by decide)) (by rfl) (pax_cons (k := .tp) (px_tp 0 (pv 0)) (pax_cons (k := .fr) (px_b call_len rc_len (by rfl) bn.len PySem.boot_len (pax_cons (k := .vw) (px_vw 4 (pv 4)) pax_nil)) (pax_cons (k := .fr) px_str pax_nil)))))
  (pssx_one (psx_app 8 (px_tup (pax_cons (k := .fr) (px_fr 10 (pv 10)) (pax_cons (k := .fr) (px_addI (PX.frVw (px_ix (PX.frVw (px_ix (px_vw 4 (pv 4)) (px_vw 10 (pv 10)))) (PX.frVw px_int))) (PX.frVw (px_callF h__law_dip tk (hr.mono (by decide)) (by rfl) (pax_cons (k := .tp) (px_tp 0 (pv 0)) (pax_cons (k := .fr) (px_addI (PX.frVw (px_addI (PX.frVw (px_subI (PX.frVw (px_ix (PX.frVw (px_ix (px_vw 4 (pv 4)) (px_vw 10 (pv 10)))) (PX.frVw px_int))) (PX.frVw (px_ix (PX.frVw (px_ix (px_vw 4 (pv 4)) (px_vw 10 (pv 10)))) (PX.frVw px_int))))) (PX.frVw px_int))) (PX.frVw (px_ty call_int1 rc_int (by rfl) bn.int PyProof.Rows.boot_int (pax_cons (k := .vw) (PX.frVw (px_cmp (op_eqD (hu64 hr)) (PX.frVw (px_callF h__law_dip tk (hr.mono (by decide)) (by rfl) (pax_cons (k := .tp) (px_tp 0 (pv 0)) (pax_cons (k := .fr) px_int (pax_cons (k := .fr) px_str pax_nil))))) (PX.frVw px_int) r2_eq (nomark _))) pax_nil)))) (pax_cons (k := .fr) px_str pax_nil)))))) pax_nil))) (fun h => ps_expr (pe_bm PySem.F.plainAttrs_list PySem.F.slot_list_append PySem.F.type_list_append mt_append (pv 8) (pa_cons h pa_nil)))))))
  (pssx_one (psx_freeze 8 (psx_if (ptx_not (ptx_tru (PX.frVw (px_callF h__law_same tk (hr.mono (by decide)) (by rfl) (pax_cons (k := .fr) (px_callF h__law_least tk (hr.mono (by decide)) (by rfl) (pax_cons (k := .fr) (px_fr 1 (pv 1)) (pax_cons (k := .fr) (px_ty call_tuple_of rc_tuple (by rfl) bn.tuple PyProof.Rows.boot_tuple (pax_cons (k := .vw) (px_vw 8 (pv 8)) pax_nil)) pax_nil))) (pax_cons (k := .fr) (px_callF h__law_due tk (hr.mono (by decide)) (by rfl) (pax_cons (k := .fr) (px_fr 2 (pv 2)) (pax_cons (k := .fr) (px_fr 8 (pv 8)) pax_nil))) pax_nil)))))) (pssx_one (psx_ret px_bl (.inl rfl))) pssx_nil))))))
  (pssx_cons (psx_set 5 nd rfl (by first | exact Or.inl rfl | exact Or.inr rfl) (px_callF h__law_dip tk (hr.mono (by decide)) (by rfl) (pax_cons (k := .tp) (px_tp 0 (pv 0)) (pax_cons (k := .fr) (px_b call_len rc_len (by rfl) bn.len PySem.boot_len (pax_cons (k := .vw) (px_vw 4 (pv 4)) pax_nil)) (pax_cons (k := .fr) px_str pax_nil)))))
  (pssx_cons (psx_for (passes_of rfl) rfl (pix_seq (m := true) (PX.frSt (px_tup (pax_cons (k := .fr) (px_ix (PX.frVw (px_ix (px_vw 4 (pv 4)) (px_vw 5 (pv 5)))) (PX.frVw px_int)) (pax_cons (k := .fr) (px_addI (PX.frVw (px_ix (PX.frVw (px_ix (px_vw 4 (pv 4)) (px_vw 5 (pv 5)))) (PX.frVw px_int))) (PX.frVw px_int)) pax_nil))))) (pgx_n 6 (pg_name nd rfl (by first | exact Or.inl rfl | exact Or.inr rfl))) (pssx_one (psx_if (ptx_not (ptx_tru (PX.frVw (px_callF h__law_same tk (hr.mono (by decide)) (by rfl) (pax_cons (k := .fr) (px_callF h__law_least tk (hr.mono (by decide)) (by rfl) (pax_cons (k := .fr) (px_fr 1 (pv 1)) (pax_cons (k := .fr) (px_tup (pax_cons (k := .fr) (px_tup (pax_cons (k := .fr) (px_fr 5 (pv 5)) (pax_cons (k := .fr) (px_fr 6 (pv 6)) pax_nil))) pax_nil)) pax_nil))) (pax_cons (k := .fr) (px_callF h__law_due tk (hr.mono (by decide)) (by rfl) (pax_cons (k := .fr) (px_fr 2 (pv 2)) (pax_cons (k := .fr) (px_tup (pax_cons (k := .fr) (px_tup (pax_cons (k := .fr) (px_fr 5 (pv 5)) (pax_cons (k := .fr) (px_fr 6 (pv 6)) pax_nil))) pax_nil)) pax_nil))) pax_nil)))))) (pssx_one (psx_ret px_bl (.inl rfl))) pssx_nil)))
  (pssx_one (psx_ret px_bl (.inl rfl))))))))))
end
end K07

set_option maxRecDepth 100000
set_option maxHeartbeats 4000000
namespace K07
open PySem PySem.Spec PyProof.Rows L2 Dt
def gF (k : Nat) : Fld := (("g" : Str) ++ Str.ofString (toString ((k : Nat) : Int)), -20 + (k : Int), -17 + (k : Int))
def gFs : List Fld := (List.range 4).map gF
theorem gF_ok {ls : List Lad} (hl : ls.length ≤ 10) (hx : ∀ l ∈ ls, l.1.1 < 4 ∧ l.2.1 < 4) : SchOk ⟨gFs, ls⟩ := by
  have key : ∀ f ∈ gFs, ∃ k < 4, f = gF k := fun f hf => by
    obtain ⟨k, hk, rfl⟩ := List.mem_map.mp hf
    exact ⟨k, List.mem_range.mp hk, rfl⟩
  refine ⟨⟨by simp [gFs], by simp [gFs], fun f hf => ?_, fun l h => by simpa [gFs] using hx l h, by show ls.length ≤ 1000; omega⟩, fun f hf => ?_⟩
  · obtain ⟨k, hk, rfl⟩ := key f hf
    simp only [gF]; omega
  · obtain ⟨k, hk, rfl⟩ := key f hf
    have h1 : SOk ("g" : Str) 1 := ⟨by decide +kernel, by decide +kernel⟩
    have h2 := sOk_app h1 ⟨sOk_of _, str8 k (by omega)⟩
    exact ⟨h2.lay, by have := h2.len; simp only [gF]; omega⟩
noncomputable def b__law_great_3 : DS :=
  (sRet ((xCall sp_law_asked (xCons (xTp 0) (xCons ((xTup (xCons (xFr 1) (xCons ((xCB fTuple (xCons (xVw 2) xNil))) xNil)))) xNil)))))

noncomputable def b__law_great_2 : DS :=
  (sSeq (sFor (xRng1 (xCons ((xCall sp_dip (xCons (xTp 0) (xCons (xC (.int 8)) (xCons (xC (.str "great")) xNil))))) xNil)) (dgN 3) (sSeq (sPar 4 5 (xCons ((xCall sp_dip (xCons (xTp 0) (xCons (xC (.int 4)) (xCons (xC (.str "one")) xNil))))) (xCons ((xCall sp_dip (xCons (xTp 0) (xCons (xC (.int 4)) (xCons (xC (.str "other")) xNil))))) xNil)))
  (sApp 2 ((xTup (xCons ((xTup (xCons (xFr 4) (xCons ((xOp2 fAddI ((xOp2 fAddI ((xOp1 fNeg (xC (.int 20)))) (xVw 4))) ((xCall sp_dip (xCons (xTp 0) (xCons (xC (.int 4)) (xCons (xC (.str "least")) xNil))))))) xNil)))) (xCons ((xTup (xCons (xFr 5) (xCons ((xOp2 fAddI ((xOp2 fAddI ((xOp1 fNeg (xC (.int 19)))) (xVw 5))) ((xCall sp_dip (xCons (xTp 0) (xCons (xC (.int 3)) (xCons (xC (.str "most")) xNil))))))) xNil)))) xNil)))))))
  b__law_great_3)

noncomputable def b__law_great_1 : DS :=
  (sSeq (sSetN 2 ((xLst xNil)))
  b__law_great_2)

/-- _law_great: 0 crock, 1 fields, 2 ladders, 3 lap, 4 one, 5 other, 6 at -/
noncomputable def b__law_great : DS :=
  (sSeq (sSet 1 ((xCB fTuple (xCons ((xLc (xRng1 (xCons (xC (.int 4)) xNil)) (dgN 6) (xYes) ((xTup (xCons ((xOp2 fAddS (xC (.str "g")) ((xCB fStrOf (xCons (xVw 6) xNil))))) (xCons ((xOp2 fAddI ((xOp1 fNeg (xC (.int 20)))) (xVw 6))) (xCons ((xOp2 fAddI ((xOp1 fNeg (xC (.int 17)))) (xVw 6))) xNil))))) [6])) xNil))))
  b__law_great_1)
section
variable {Q : D → Prop} {Qx : Exn → Prop} {nx bk ct : Dt.Env → Prop}
theorem gr3 {ls : List Lad} {a b c d : Sl} (hl : ls.length ≤ 10) (hx : ∀ l ∈ ls, l.1.1 < 4 ∧ l.2.1 < 4) (q : Q (.bool true)) : b__law_great_3 [.tp, .fr (.tuple (gFs.map eF)), .ow (.list (ls.map eL)), a, b, c, d] ⟨nx, Q, bk, ct, fun _ => Qx⟩ := by
  simp only [b__law_great_3, fTuple, sSeq_eq, thenD_cons, sNil, sRet, sRetN, sSet, sSetN, sAsg, sIf, sFor, forD, sDrop, sApp, sExt, sPop, sPop0, sSetIx, sAug, sPar, sMove, sFreeze, sNever, sBreak, sCont, xFr, xVw, xSt, xOw, xTp, xC, xOp1, xOp2, xTup, xLst, xCons, xNil, xCall, xCB, xTst, xTru, xAndT, xOrT, xNotT, xAnd, xOr, xNot, xIf, xChain, xCut, xSome, xNo, xIsi, xLc, xSeq, xRng1, xRng2, xYes, fRng1, fRng2, fSeq, dgN, dgT, dgCons, dgNil, Env.get, Env.put, env0, slOf, wipeR, List.set, List.set_cons_zero, List.set_cons_succ, List.getD_cons_zero, List.getD_cons_succ, List.length_cons, List.length_nil, fBool, fTru, fI20, fI2, fI1, fIsi, fOwL, fInt, fListQ, List.replicate, List.append_nil, List.nil_append, List.cons_append, Bool.false_eq_true, if_false, if_true, reduceIte, Nat.reduceSub, Nat.reduceAdd, true_and, and_true, Nat.zero_add, fLe, fLt, fGe, fGt, fAddI, fSubI, fMulI, fDivI, fModI, fNeg, fIx_t0, fIx_t1, fIx_t2, fIx_t3, xLc2, xZip, fZip, xIndex, fIndex, sRaise, fMulL, fListQ, xIsE, xFld, sTry, sTry0]
  exact ⟨⟨gFs, ls⟩, rfl, gF_ok hl hx, q⟩
theorem gr2 {a b c d : Sl} (q : Q (.bool true)) : b__law_great_2 [.tp, .fr (.tuple (gFs.map eF)), .ow (.list []), a, b, c, d] ⟨nx, Q, bk, ct, fun _ => Qx⟩ := by
  unfold b__law_great_2
  rw [sSeq_eq]
  simp only [sSeq_eq, thenD_cons, sNil, sRet, sRetN, sSet, sSetN, sAsg, sIf, sFor, forD, sDrop, sApp, sExt, sPop, sPop0, sSetIx, sAug, sPar, sMove, sFreeze, sNever, sBreak, sCont, xFr, xVw, xSt, xOw, xTp, xC, xOp1, xOp2, xTup, xLst, xCons, xNil, xCall, xCB, xTst, xTru, xAndT, xOrT, xNotT, xAnd, xOr, xNot, xIf, xChain, xCut, xSome, xNo, xIsi, xLc, xSeq, xRng1, xRng2, xYes, fRng1, fRng2, fSeq, dgN, dgT, dgCons, dgNil, Env.get, Env.put, env0, slOf, wipeR, List.set, List.set_cons_zero, List.set_cons_succ, List.getD_cons_zero, List.getD_cons_succ, List.length_cons, List.length_nil, fBool, fTru, fI20, fI2, fI1, fIsi, fOwL, fInt, fListQ, List.replicate, List.append_nil, List.nil_append, List.cons_append, Bool.false_eq_true, if_false, if_true, reduceIte, Nat.reduceSub, Nat.reduceAdd, true_and, and_true, Nat.zero_add, fLe, fLt, fGe, fGt, fAddI, fSubI, fMulI, fDivI, fModI, fNeg, fIx_t0, fIx_t1, fIx_t2, fIx_t3, xLc2, xZip, fZip, xIndex, fIndex, sRaise, fMulL, fListQ, xIsE, xFld, sTry, sTry0]
  refine dip (by decide) (by decide) fun k hk => ?_
  simp only [sSeq_eq, thenD_cons, sNil, sRet, sRetN, sSet, sSetN, sAsg, sIf, sFor, forD, sDrop, sApp, sExt, sPop, sPop0, sSetIx, sAug, sPar, sMove, sFreeze, sNever, sBreak, sCont, xFr, xVw, xSt, xOw, xTp, xC, xOp1, xOp2, xTup, xLst, xCons, xNil, xCall, xCB, xTst, xTru, xAndT, xOrT, xNotT, xAnd, xOr, xNot, xIf, xChain, xCut, xSome, xNo, xIsi, xLc, xSeq, xRng1, xRng2, xYes, fRng1, fRng2, fSeq, dgN, dgT, dgCons, dgNil, Env.get, Env.put, env0, slOf, wipeR, List.set, List.set_cons_zero, List.set_cons_succ, List.getD_cons_zero, List.getD_cons_succ, List.length_cons, List.length_nil, fBool, fTru, fI20, fI2, fI1, fIsi, fOwL, fInt, fListQ, List.replicate, List.append_nil, List.nil_append, List.cons_append, Bool.false_eq_true, if_false, if_true, reduceIte, Nat.reduceSub, Nat.reduceAdd, true_and, and_true, Nat.zero_add, fLe, fLt, fGe, fGt, fAddI, fSubI, fMulI, fDivI, fModI, fNeg, fIx_t0, fIx_t1, fIx_t2, fIx_t3, xLc2, xZip, fZip, xIndex, fIndex, sRaise, fMulL, fListQ, xIsE, xFld, sTry, sTry0]
  refine ⟨by omega, by omega, ?_⟩
  have er2 : rngD 0 (k : Int).toNat = (List.range k).map fun k : Nat => (.int (k : Int)) := by simp [rngD]
  rw [er2]
  refine forD_pre (fun k : Nat => (.int (k : Int))) (fun pre ρ => ∃ ls a b c d, ρ = ([.tp, .fr (.tuple (gFs.map eF)), .ow (.list (ls.map eL)), a, b, c, d] : Dt.Env) ∧ ls.length = pre.length ∧ ∀ l ∈ ls, l.1.1 < 4 ∧ l.2.1 < 4) _ (List.range k) (List.range k) [] _ rfl ⟨[], _, _, _, _, rfl, rfl, by simp⟩ ?_ ?_
  · rintro pre k0 post ρ hall ⟨ls, a, b, c, d, rfl, hl, hx⟩ N hN
    have hpl : pre.length < 8 := by have := congrArg List.length hall; simp at this; omega
    simp only [sSeq_eq, thenD_cons, sNil, sRet, sRetN, sSet, sSetN, sAsg, sIf, sFor, forD, sDrop, sApp, sExt, sPop, sPop0, sSetIx, sAug, sPar, sMove, sFreeze, sNever, sBreak, sCont, xFr, xVw, xSt, xOw, xTp, xC, xOp1, xOp2, xTup, xLst, xCons, xNil, xCall, xCB, xTst, xTru, xAndT, xOrT, xNotT, xAnd, xOr, xNot, xIf, xChain, xCut, xSome, xNo, xIsi, xLc, xSeq, xRng1, xRng2, xYes, fRng1, fRng2, fSeq, dgN, dgT, dgCons, dgNil, Env.get, Env.put, env0, slOf, wipeR, List.set, List.set_cons_zero, List.set_cons_succ, List.getD_cons_zero, List.getD_cons_succ, List.length_cons, List.length_nil, fBool, fTru, fI20, fI2, fI1, fIsi, fOwL, fInt, fListQ, List.replicate, List.append_nil, List.nil_append, List.cons_append, Bool.false_eq_true, if_false, if_true, reduceIte, Nat.reduceSub, Nat.reduceAdd, true_and, and_true, Nat.zero_add, fLe, fLt, fGe, fGt, fAddI, fSubI, fMulI, fDivI, fModI, fNeg, fIx_t0, fIx_t1, fIx_t2, fIx_t3, xLc2, xZip, fZip, xIndex, fIndex, sRaise, fMulL, fListQ, xIsE, xFld, sTry, sTry0]
    refine dip (by decide) (by decide) fun k1 hk1 => ?_
    refine dip (by decide) (by decide) fun k2 hk2 => ?_
    simp only [sSeq_eq, thenD_cons, sNil, sRet, sRetN, sSet, sSetN, sAsg, sIf, sFor, forD, sDrop, sApp, sExt, sPop, sPop0, sSetIx, sAug, sPar, sMove, sFreeze, sNever, sBreak, sCont, xFr, xVw, xSt, xOw, xTp, xC, xOp1, xOp2, xTup, xLst, xCons, xNil, xCall, xCB, xTst, xTru, xAndT, xOrT, xNotT, xAnd, xOr, xNot, xIf, xChain, xCut, xSome, xNo, xIsi, xLc, xSeq, xRng1, xRng2, xYes, fRng1, fRng2, fSeq, dgN, dgT, dgCons, dgNil, Env.get, Env.put, env0, slOf, wipeR, List.set, List.set_cons_zero, List.set_cons_succ, List.getD_cons_zero, List.getD_cons_succ, List.length_cons, List.length_nil, fBool, fTru, fI20, fI2, fI1, fIsi, fOwL, fInt, fListQ, List.replicate, List.append_nil, List.nil_append, List.cons_append, Bool.false_eq_true, if_false, if_true, reduceIte, Nat.reduceSub, Nat.reduceAdd, true_and, and_true, Nat.zero_add, fLe, fLt, fGe, fGt, fAddI, fSubI, fMulI, fDivI, fModI, fNeg, fIx_t0, fIx_t1, fIx_t2, fIx_t3, xLc2, xZip, fZip, xIndex, fIndex, sRaise, fMulL, fListQ, xIsE, xFld, sTry, sTry0]
    refine dip (by decide) (by decide) fun k3 hk3 => ?_
    simp only [sSeq_eq, thenD_cons, sNil, sRet, sRetN, sSet, sSetN, sAsg, sIf, sFor, forD, sDrop, sApp, sExt, sPop, sPop0, sSetIx, sAug, sPar, sMove, sFreeze, sNever, sBreak, sCont, xFr, xVw, xSt, xOw, xTp, xC, xOp1, xOp2, xTup, xLst, xCons, xNil, xCall, xCB, xTst, xTru, xAndT, xOrT, xNotT, xAnd, xOr, xNot, xIf, xChain, xCut, xSome, xNo, xIsi, xLc, xSeq, xRng1, xRng2, xYes, fRng1, fRng2, fSeq, dgN, dgT, dgCons, dgNil, Env.get, Env.put, env0, slOf, wipeR, List.set, List.set_cons_zero, List.set_cons_succ, List.getD_cons_zero, List.getD_cons_succ, List.length_cons, List.length_nil, fBool, fTru, fI20, fI2, fI1, fIsi, fOwL, fInt, fListQ, List.replicate, List.append_nil, List.nil_append, List.cons_append, Bool.false_eq_true, if_false, if_true, reduceIte, Nat.reduceSub, Nat.reduceAdd, true_and, and_true, Nat.zero_add, fLe, fLt, fGe, fGt, fAddI, fSubI, fMulI, fDivI, fModI, fNeg, fIx_t0, fIx_t1, fIx_t2, fIx_t3, xLc2, xZip, fZip, xIndex, fIndex, sRaise, fMulL, fListQ, xIsE, xFld, sTry, sTry0]
    refine dip (by decide) (by decide) fun k4 hk4 => ?_
    simp only [sSeq_eq, thenD_cons, sNil, sRet, sRetN, sSet, sSetN, sAsg, sIf, sFor, forD, sDrop, sApp, sExt, sPop, sPop0, sSetIx, sAug, sPar, sMove, sFreeze, sNever, sBreak, sCont, xFr, xVw, xSt, xOw, xTp, xC, xOp1, xOp2, xTup, xLst, xCons, xNil, xCall, xCB, xTst, xTru, xAndT, xOrT, xNotT, xAnd, xOr, xNot, xIf, xChain, xCut, xSome, xNo, xIsi, xLc, xSeq, xRng1, xRng2, xYes, fRng1, fRng2, fSeq, dgN, dgT, dgCons, dgNil, Env.get, Env.put, env0, slOf, wipeR, List.set, List.set_cons_zero, List.set_cons_succ, List.getD_cons_zero, List.getD_cons_succ, List.length_cons, List.length_nil, fBool, fTru, fI20, fI2, fI1, fIsi, fOwL, fInt, fListQ, List.replicate, List.append_nil, List.nil_append, List.cons_append, Bool.false_eq_true, if_false, if_true, reduceIte, Nat.reduceSub, Nat.reduceAdd, true_and, and_true, Nat.zero_add, fLe, fLt, fGe, fGt, fAddI, fSubI, fMulI, fDivI, fModI, fNeg, fIx_t0, fIx_t1, fIx_t2, fIx_t3, xLc2, xZip, fZip, xIndex, fIndex, sRaise, fMulL, fListQ, xIsE, xFld, sTry, sTry0, List.length_map]
    refine ⟨by rw [sizeLine_eq]; omega, hN _ ⟨ls ++ [((k1, -20 + (k1 : Int) + k3), (k2, -19 + (k2 : Int) + k4))], .fr (.int (k0 : Int)), .fr (.int (k1 : Int)), .fr (.int (k2 : Int)), d, by rw [List.map_append]; rfl, by simp [hl], fun l hl' => ?_⟩⟩
    rcases List.mem_append.mp hl' with z | z
    · exact hx l z
    · rw [List.mem_singleton.mp z]
      exact ⟨by show k1 < 4; omega, by show k2 < 4; omega⟩
  · rintro ρ ⟨ls, a, b, c, d, rfl, hl, hx⟩
    exact ⟨gr3 (a := a) (b := b) (c := c) (d := d) (by rw [hl, List.length_range]; omega) hx q⟩
end
theorem pure__law_great : PureOk sp_law_great b__law_great 7 := by
  rintro ds Q Qx ⟨_, rfl, _, q⟩
  simp only [b__law_great, sp_law_great, det1]
  rw [sSeq_eq]
  simp only [sSeq_eq, thenD_cons, sNil, sRet, sRetN, sSet, sSetN, sAsg, sIf, sFor, forD, sDrop, sApp, sExt, sPop, sPop0, sSetIx, sAug, sPar, sMove, sFreeze, sNever, sBreak, sCont, xFr, xVw, xSt, xOw, xTp, xC, xOp1, xOp2, xTup, xLst, xCons, xNil, xCall, xCB, xTst, xTru, xAndT, xOrT, xNotT, xAnd, xOr, xNot, xIf, xChain, xCut, xSome, xNo, xIsi, xLc, xSeq, xRng1, xRng2, xYes, fRng1, fRng2, fSeq, dgN, dgT, dgCons, dgNil, Env.get, Env.put, env0, slOf, wipeR, List.set, List.set_cons_zero, List.set_cons_succ, List.getD_cons_zero, List.getD_cons_succ, List.length_cons, List.length_nil, fBool, fTru, fI20, fI2, fI1, fIsi, fOwL, fInt, fListQ, List.replicate, List.append_nil, List.nil_append, List.cons_append, Bool.false_eq_true, if_false, if_true, reduceIte, Nat.reduceSub, Nat.reduceAdd, true_and, and_true, Nat.zero_add, fLe, fLt, fGe, fGt, fAddI, fSubI, fMulI, fDivI, fModI, fNeg, fIx_t0, fIx_t1, fIx_t2, fIx_t3, xLc2, xZip, fZip, xIndex, fIndex, sRaise, fMulL, fListQ, xIsE, xFld, sTry, sTry0]
  refine ⟨by decide, by decide, ?_⟩
  have er : rngD 0 (4 : Int).toNat = (List.range 4).map fun k : Nat => (.int (k : Int)) := rfl
  rw [er]
  refine lcD_all (fun k : Nat => (.int (k : Int))) (fun k => eF (gF k)) _ _ (fun k hk R R0 r1 => ?_) ?_
  · have hk' : k < 4 := List.mem_range.mp hk
    simp only [fStrOf, sSeq_eq, thenD_cons, sNil, sRet, sRetN, sSet, sSetN, sAsg, sIf, sFor, forD, sDrop, sApp, sExt, sPop, sPop0, sSetIx, sAug, sPar, sMove, sFreeze, sNever, sBreak, sCont, xFr, xVw, xSt, xOw, xTp, xC, xOp1, xOp2, xTup, xLst, xCons, xNil, xCall, xCB, xTst, xTru, xAndT, xOrT, xNotT, xAnd, xOr, xNot, xIf, xChain, xCut, xSome, xNo, xIsi, xLc, xSeq, xRng1, xRng2, xYes, fRng1, fRng2, fSeq, dgN, dgT, dgCons, dgNil, Env.get, Env.put, env0, slOf, wipeR, List.set, List.set_cons_zero, List.set_cons_succ, List.getD_cons_zero, List.getD_cons_succ, List.length_cons, List.length_nil, fBool, fTru, fI20, fI2, fI1, fIsi, fOwL, fInt, fListQ, List.replicate, List.append_nil, List.nil_append, List.cons_append, Bool.false_eq_true, if_false, if_true, reduceIte, Nat.reduceSub, Nat.reduceAdd, true_and, and_true, Nat.zero_add, fLe, fLt, fGe, fGt, fAddI, fSubI, fMulI, fDivI, fModI, fNeg, fIx_t0, fIx_t1, fIx_t2, fIx_t3, xLc2, xZip, fZip, xIndex, fIndex, sRaise, fMulL, fListQ, xIsE, xFld, sTry, sTry0]
    have h8 := Nat.log2_le_self (k : Int).natAbs
    have hs := str8 k (by omega)
    refine ⟨by omega, ?_⟩
    simp only [fAddS, fNeg, sSeq_eq, thenD_cons, sNil, sRet, sRetN, sSet, sSetN, sAsg, sIf, sFor, forD, sDrop, sApp, sExt, sPop, sPop0, sSetIx, sAug, sPar, sMove, sFreeze, sNever, sBreak, sCont, xFr, xVw, xSt, xOw, xTp, xC, xOp1, xOp2, xTup, xLst, xCons, xNil, xCall, xCB, xTst, xTru, xAndT, xOrT, xNotT, xAnd, xOr, xNot, xIf, xChain, xCut, xSome, xNo, xIsi, xLc, xSeq, xRng1, xRng2, xYes, fRng1, fRng2, fSeq, dgN, dgT, dgCons, dgNil, Env.get, Env.put, env0, slOf, wipeR, List.set, List.set_cons_zero, List.set_cons_succ, List.getD_cons_zero, List.getD_cons_succ, List.length_cons, List.length_nil, fBool, fTru, fI20, fI2, fI1, fIsi, fOwL, fInt, fListQ, List.replicate, List.append_nil, List.nil_append, List.cons_append, Bool.false_eq_true, if_false, if_true, reduceIte, Nat.reduceSub, Nat.reduceAdd, true_and, and_true, Nat.zero_add, fLe, fLt, fGe, fGt, fAddI, fSubI, fMulI, fDivI, fModI, fNeg, fIx_t0, fIx_t1, fIx_t2, fIx_t3, xLc2, xZip, fZip, xIndex, fIndex, sRaise, fMulL, fListQ, xIsE, xFld, sTry, sTry0]
    refine ⟨by rw [sizeLine_eq]; have : (Str.ofString "g").length = 1 := (by decide +kernel); omega, ?_⟩
    exact r1
  · simp only [fTuple]
    have : ((List.range 4).map fun k => eF (gF k)) = gFs.map eF := by simp [gFs, Function.comp_def]
    rw [this]
    show b__law_great_1 _ _
    unfold b__law_great_1
    rw [sSeq_eq]
    simp only [sSeq_eq, thenD_cons, sNil, sRet, sRetN, sSet, sSetN, sAsg, sIf, sFor, forD, sDrop, sApp, sExt, sPop, sPop0, sSetIx, sAug, sPar, sMove, sFreeze, sNever, sBreak, sCont, xFr, xVw, xSt, xOw, xTp, xC, xOp1, xOp2, xTup, xLst, xCons, xNil, xCall, xCB, xTst, xTru, xAndT, xOrT, xNotT, xAnd, xOr, xNot, xIf, xChain, xCut, xSome, xNo, xIsi, xLc, xSeq, xRng1, xRng2, xYes, fRng1, fRng2, fSeq, dgN, dgT, dgCons, dgNil, Env.get, Env.put, env0, slOf, wipeR, List.set, List.set_cons_zero, List.set_cons_succ, List.getD_cons_zero, List.getD_cons_succ, List.length_cons, List.length_nil, fBool, fTru, fI20, fI2, fI1, fIsi, fOwL, fInt, fListQ, List.replicate, List.append_nil, List.nil_append, List.cons_append, Bool.false_eq_true, if_false, if_true, reduceIte, Nat.reduceSub, Nat.reduceAdd, true_and, and_true, Nat.zero_add, fLe, fLt, fGe, fGt, fAddI, fSubI, fMulI, fDivI, fModI, fNeg, fIx_t0, fIx_t1, fIx_t2, fIx_t3, xLc2, xZip, fZip, xIndex, fIndex, sRaise, fMulL, fListQ, xIsE, xFld, sTry, sTry0]
    exact gr2 q
section
variable {P : Program} {w : World} {K : PySem.W.Frag} {mg : Str → Option Value} {base : Heap} {T : Tape}
abbrev s__law_great : Stmt := top 34
theorem sc__law_great : FnScope ["crock", "fields", "ladders", "lap", "one", "other", "at"] ["crock"] (defScope s__law_great) := ⟨rfl, rfl, rfl, by decide +kernel, rfl, by decide +kernel, by decide +kernel⟩
theorem ok__law_great (D : DefD K mg "_law_great" s__law_great ["crock"]) (bn : Bn mg) (h__law_dip : FnD P w K mg base T "_law_dip" 1 sp_dip) (h__law_asked : FnD P w K mg base T "_law_asked" 7 sp_law_asked) : FnD P w K mg base T "_law_great" 8 sp_law_great := by
  refine fnD (N := ["crock", "fields", "ladders", "lap", "one", "other", "at"]) (B := b__law_great) D sc__law_great rfl (.inl rfl) (fun f cdv A outer s H E hr => ?_) pure__law_great
  have nd := sc__law_great.nd
  have tk : Takes (cxOf (L2.CX P w) P w K mg base ["crock", "fields", "ladders", "lap", "one", "other", "at"] "_law_great" (defScope s__law_great) f cdv A outer s H E) (fun c d _ H => E c d H) := takes_of rfl rfl rfl rfl
  exact (pssx_cons (psx_set 1 nd rfl (by first | exact Or.inl rfl | exact Or.inr rfl) (px_ty call_tuple_of rc_tuple (by rfl) bn.tuple PyProof.Rows.boot_tuple (pax_cons (k := .vw) (PX.nwVw (px_lc (own := [("at", 6)]) rfl nd (pix_range1 (m := false) (by rfl) bn.range (pax_cons (k := .vw) (PX.frVw px_int) pax_nil)) (blkOk_by (by first | (change blkC ["crock", "fields", "ladders", "lap", "one", "other", "at"] (defScope s__law_great) _ _ = true; decide +kernel) | rfl)) (fun _ _ _ _ _ => (pgx_n 6 (pg_name nd rfl (by first | exact Or.inl rfl | exact Or.inr rfl)))) (fun _ _ _ _ _ => ptsx_nil) (fun _ _ _ _ _ => (px_tup (pax_cons (k := .fr) (px_addS (PX.frVw px_str) (PX.frVw (px_ty call_str_int rc_str (by rfl) bn.str PyProof.Rows.boot_str (pax_cons (k := .vw) (px_vw 6 (pv 6)) pax_nil)))) (pax_cons (k := .fr) (px_addI (PX.frVw (px_neg (PX.frVw px_int))) (px_vw 6 (pv 6))) (pax_cons (k := .fr) (px_addI (PX.frVw (px_neg (PX.frVw px_int))) (px_vw 6 (pv 6))) pax_nil))))))) pax_nil)))
  (pssx_cons (psx_setN 2 nd rfl (by first | exact Or.inl rfl | exact Or.inr rfl) (px_lst pax_nil))
  (pssx_cons (psx_for (passes_of rfl) rfl (pix_range1 (m := true) (by rfl) bn.range (pax_cons (k := .vw) (PX.frVw (px_callF h__law_dip tk (hr.mono (by decide)) (by rfl) (pax_cons (k := .tp) (px_tp 0 (pv 0)) (pax_cons (k := .fr) px_int (pax_cons (k := .fr) px_str pax_nil))))) pax_nil)) (pgx_n 3 (pg_name nd rfl (by first | exact Or.inl rfl | exact Or.inr rfl))) (pssx_cons (psx_par 4 5 (pax_cons (k := .fr) (px_callF h__law_dip tk (hr.mono (by decide)) (by rfl) (pax_cons (k := .tp) (px_tp 0 (pv 0)) (pax_cons (k := .fr) px_int (pax_cons (k := .fr) px_str pax_nil)))) (pax_cons (k := .fr) (px_callF h__law_dip tk (hr.mono (by decide)) (by rfl) (pax_cons (k := .tp) (px_tp 0 (pv 0)) (pax_cons (k := .fr) px_int (pax_cons (k := .fr) px_str pax_nil)))) pax_nil)) (fun h => ps_par rfl nd rfl rfl (by decide) rfl rfl h (by rfl)))
  (pssx_one (psx_app 2 (px_tup (pax_cons (k := .fr) (px_tup (pax_cons (k := .fr) (px_fr 4 (pv 4)) (pax_cons (k := .fr) (px_addI (PX.frVw (px_addI (PX.frVw (px_neg (PX.frVw px_int))) (px_vw 4 (pv 4)))) (PX.frVw (px_callF h__law_dip tk (hr.mono (by decide)) (by rfl) (pax_cons (k := .tp) (px_tp 0 (pv 0)) (pax_cons (k := .fr) px_int (pax_cons (k := .fr) px_str pax_nil)))))) pax_nil))) (pax_cons (k := .fr) (px_tup (pax_cons (k := .fr) (px_fr 5 (pv 5)) (pax_cons (k := .fr) (px_addI (PX.frVw (px_addI (PX.frVw (px_neg (PX.frVw px_int))) (px_vw 5 (pv 5)))) (PX.frVw (px_callF h__law_dip tk (hr.mono (by decide)) (by rfl) (pax_cons (k := .tp) (px_tp 0 (pv 0)) (pax_cons (k := .fr) px_int (pax_cons (k := .fr) px_str pax_nil)))))) pax_nil))) pax_nil))) (fun h => ps_expr (pe_bm PySem.F.plainAttrs_list PySem.F.slot_list_append PySem.F.type_list_append mt_append (pv 2) (pa_cons h pa_nil)))))))
  (pssx_one (psx_ret (px_callF h__law_asked tk (hr.mono (by decide)) (by rfl) (pax_cons (k := .tp) (px_tp 0 (pv 0)) (pax_cons (k := .fr) (px_tup (pax_cons (k := .fr) (px_fr 1 (pv 1)) (pax_cons (k := .fr) (px_ty call_tuple_of rc_tuple (by rfl) bn.tuple PyProof.Rows.boot_tuple (pax_cons (k := .vw) (px_vw 2 (pv 2)) pax_nil)) pax_nil))) pax_nil))) (.inl rfl))))))
end
end K07

set_option maxRecDepth 100000
set_option maxHeartbeats 4000000
namespace K07
open PySem PySem.Spec PyProof.Rows L2 Dt
section
variable {P : Program} {w : World} {K : PySem.W.Frag} {mg : Str → Option Value} {base : Heap}
abbrev s_dip : Stmt := top 24
theorem sc_dip : FnScope ["crock", "many", "place", "bulk", "drawn", "bent", "first"] ["crock", "many", "place"] (defScope s_dip) := ⟨rfl, rfl, rfl, by decide +kernel, rfl, by decide +kernel, by decide +kernel⟩
theorem ok_dip (D : DefD K mg "_law_dip" s_dip ["crock", "many", "place"]) (bn : Bn mg) : FnD P w K mg base (crockT places) "_law_dip" 1 sp_dip := by
  obtain ⟨f, fd, F, hm, hb⟩ := D.ex
  refine ⟨f, fd, _, F.okX sc_dip (fun vs H Q E h => ?_) (fun cdv A outer s H vs Q E hr h => ?_), hm, F.kp, hb⟩
  · obtain ⟨n, Hs, F', P', ds, _, _, _, r, _⟩ := h
    rw [(resL_len r).1]; rfl
  have nd := sc_dip.nd
  have hu := hu_of hr
  have CR : ∀ {i : Int} {j : Nat} {p p2 p3 : Pos}, PE (cxOf (L2.CX P w) P w K mg base ["crock", "many", "place", "bulk", "drawn", "bent", "first"] "_law_dip" (defScope s_dip) f cdv A outer s H E) (.Subscript (.Name "crock" p) (.Constant (.int i) j p2) p3) _ := fun {i j p p2 p3} => pe_ix ix_list (pv 0) pe_int (fun _ _ => rfl)
  refine ⟨_, pss_cons (ps_if (pt_cmpR op_lt (pv 1) pe_int (nomark _)) (pss_one (ps_ret pe_int)) pss_nil)
    (pss_cons (ps_while (passes_of rfl) (PW.pt (pw_and (pt_cmpR op_gt (pe_callB call_len (by rfl) bn.len PySem.boot_len (pa_cons CR pa_nil)) pe_int (nomark _)) (pw_and1 (pt_cmpR op_eq (pe_ix ix_list CR (pe_un un_neg pe_int) (fun _ _ => rfl)) pe_int (nomark _))))) (pss_one (ps_expr (pe_bm0 PySem.F.plainAttrs_list PySem.F.slot_list_pop PySem.F.type_list_pop mt_pop CR))))
    (pss_cons (ps_if (pt_cmpR op_gt (pe_callB call_len (by rfl) bn.len PySem.boot_len (pa_cons CR pa_nil)) pe_int (nomark _))
      (pss_cons (ps_set (i := 3) nd rfl (Or.inl rfl) (pe_callTy call_int1 (by rfl) bn.int PyProof.Rows.boot_int (pa_cons (pe_ix ix_list CR (pe_un un_neg pe_int) (fun _ _ => rfl)) pa_nil)))
      (pss_cons (ps_asg (pe_op op_fdiv (pv 3) (pv 1)) (pg_sub CR (pe_un un_neg pe_int) set_list))
      (pss_one (ps_ret (pe_op op_mod (pv 3) (pv 1)))))) pss_nil)
    (pss_cons (ps_asg (pe_op op_mod (pe_callTy call_int1 (by rfl) bn.int PyProof.Rows.boot_int (pa_cons (pe_op op_add (pe_op op_mul CR pe_int) pe_int) pa_nil)) pe_int) (pg_sub (pv 0) pe_int set_list))
    (pss_cons (ps_set (i := 4) nd rfl (Or.inl rfl) (pe_op op_mod (pe_callTy call_int1 (by rfl) bn.int PyProof.Rows.boot_int (pa_cons (pe_op op_fdiv CR pe_int) pa_nil)) (pv 1)))
    (pss_cons (ps_if (pt_cmp (pc_dnotin hu (pv 2) CR)) (pss_one (ps_dput hu CR (pv 2) (pe_tup (pa_cons (pe_op op_mod (pe_callTy call_int1 (by rfl) bn.int PyProof.Rows.boot_int (pa_cons (pe_op op_fdiv CR pe_int) pa_nil)) pe_int) (pa_cons (pv 4) pa_nil))) rfl)) pss_nil)
    (pss_cons (ps_asg (pe_dget hu CR (pv 2) (fun _ _ => rfl)) (pg_tup (by rfl) (pgs_cons (pg_name (i := 5) nd rfl (Or.inl rfl)) (pgs_cons (pg_name (i := 6) nd rfl (Or.inl rfl)) pgs_nil))))
    (pss_cons (ps_if (pt_cmpR op_eq (pv 5) pe_int (nomark _)) (pss_one (ps_ret pe_int)) pss_nil)
    (pss_cons (ps_if (pt_cmpR op_eq (pv 5) pe_int (nomark _)) (pss_one (ps_ret (pe_op op_sub (pv 1) pe_int))) pss_nil)
    (pss_one (ps_ret (pe_ifExp (pt_cmpR op_eq (pv 5) pe_int (nomark _)) (pe_op op_mod (pe_callTy call_int1 (by rfl) bn.int PyProof.Rows.boot_int (pa_cons (pv 6) pa_nil)) (pv 1)) (pv 4)))))))))))), ?_⟩
  obtain ⟨n, Hs, F', P', ds, exF, pF, pH, r, hf⟩ := h
  obtain ⟨⟨m, p⟩, rfl, ⟨hm2, hp⟩, q⟩ := hf
  match vs, r with
  | [x, y, z], ⟨r1, r2, r3, _⟩ =>
  obtain ⟨t, rfl, hl, dd, c, held, kvs, C⟩ := r1
  obtain rfl : y = .int m := by cases (show Dp K F' y (.int m) from r2); rfl
  obtain rfl : z = .str p := by cases (show Dp K F' z (.str p) from r3); rfl
  simp only at hm2 hp q
  have fin : ∀ (k : Nat) {H2 : Hp} {P2 : Fp} {hl' dd' : Addr} {c' : Int} {held' : List Int} {kvs' : List (Key × V)}, ((k : Int) < m ∨ k = 0) → CrockAt places H2 t hl' dd' c' held' kvs' P2 → (∀ a, P2 a → P' a ∨ H a = none) → (∀ a, ¬ P2 a → H2 a = H a) → Q (.int (k : Int)) H2 :=
    fun k {H2 P2 hl' dd' c' held' kvs'} hk C2 pn kp => q (.int (k : Int)) ⟨k, rfl, hk⟩ (.int (k : Int)) F' H2 P2 (crock_step exF pF C C2 pn kp) (.int _)
  have finI : ∀ (z : Int) {H2 : Hp} {P2 : Fp} {hl' dd' : Addr} {c' : Int} {held' : List Int} {kvs' : List (Key × V)}, 0 ≤ z → z < m → CrockAt places H2 t hl' dd' c' held' kvs' P2 → (∀ a, P2 a → P' a ∨ H a = none) → (∀ a, ¬ P2 a → H2 a = H a) → Q (.int z) H2 := fun z {H2 P2 hl' dd' c' held' kvs'} h0 h1 C2 pn kp => by
    have e : z = ((z.toNat : Nat) : Int) := by omega
    rw [e]
    exact fin z.toNat (.inl (by omega)) C2 pn kp
  -- many < 2
  refine ⟨_, rfl, _, _, rfl, rfl, _, rfl, ?_⟩
  refine ite2 (fun _ => ?_) (fun h2 => ?_)
  · exact fin 0 (.inr rfl) C (fun _ h => .inl h) fun _ _ => rfl
  have h2 : ¬ m < 2 := of_decide_eq_false (by simpa using h2)
  -- the great numbers that are used up
  refine ⟨fun k σ' H' => σ' = [some (.ref t), some (.int m), some (.str p), none, none, none, none] ∧ ∃ held', CrockAt places H' t hl dd c held' kvs P' ∧ (∀ a, ¬ P' a → H' a = H a) ∧ k = held'.length, ⟨_, rfl, held, C, fun _ _ => rfl, rfl⟩, ?_⟩
  rintro k σ' H' ⟨rfl, held', C', kp, rfl⟩
  have st : ∀ j : Nat, P' t ∧ P' hl := fun _ => ⟨(C.P_ t).mpr (.inl rfl), (C.P_ hl).mpr (.inr (.inl rfl))⟩
  refine ⟨_, rfl, t, _, _, _, rfl, rfl, SqL.of C'.t_, rfl, _, _, rfl, .inl ⟨_, SqL.of C'.h_, rfl⟩, _, _, rfl, rfl, _, rfl, ?_⟩
  have behind : ∀ {H2 : Hp} {held2 : List Int}, CrockAt places H2 t hl dd c held2 kvs P' → (∀ a, ¬ P' a → H2 a = H a) → held2 ≠ [] ∨ held2 = [] → True := fun _ _ _ => trivial
  have hl0 : ((held'.map V.int).length : Int) = (held'.length : Int) := by simp
  cases hlast : held'.getLast? with
  | none =>
    have : held' = [] := by simpa using hlast
    subst this
    refine iteF ?_
    -- no great number is left
    refine ⟨_, rfl, t, _, _, _, rfl, rfl, SqL.of C'.t_, rfl, _, _, rfl, .inl ⟨_, SqL.of C'.h_, rfl⟩, _, _, rfl, rfl, _, rfl, iteF ?_⟩
    refine ⟨_, rfl, t, _, _, _, rfl, rfl, SqL.of C'.t_, rfl, _, _, rfl, rfl, .inr ⟨by decide, by decide⟩, _, _, rfl, rfl, .inl ⟨_, rfl, _, _, rfl, rfl, (by show (0 : Int) < 2147483629; decide), _, rfl, t, _, _, _, rfl, rfl, C'.t_, rfl, ?_⟩⟩
    have C2 := C'.setC (c' := (c * 39373 + 307) % 2147483629) (Int.emod_nonneg _ (by decide))
    have kp2 : ∀ a, ¬ P' a → (upd H' t (.lst [.int ((c * 39373 + 307) % 2147483629), .ref hl, .ref dd])) a = H a := fun a ha => by
      rw [upd_ne (fun e => by subst e; exact ha (st 0).1)]; exact kp a ha
    -- drawn
    refine ⟨_, rfl, t, _, _, _, rfl, rfl, SqL.of C2.t_, rfl, _, _, rfl, rfl, ⟨by decide, by decide⟩, .inl ⟨_, rfl, _, rfl, _, _, rfl, rfl, (by show (0 : Int) < m; omega), ?_⟩⟩
    have hdr : 0 ≤ ((c * 39373 + 307) % 2147483629) / 97 % m ∧ ((c * 39373 + 307) % 2147483629) / 97 % m < m := ⟨Int.emod_nonneg _ (by omega), Int.emod_lt_of_pos _ (by omega)⟩
    -- place not in crock[2]
    refine ⟨_, rfl, _, rfl, t, _, _, _, rfl, rfl, SqL.of C2.t_, rfl, dd, _, rfl, DGet.k (k := Sum.inr p) C2.d_, _, rfl, ?_⟩
    cases hgot : valV kvs (.inr p : Key) with
    | none =>
      refine iteT ?_
      refine ⟨_, rfl, t, _, _, _, rfl, rfl, SqL.of C2.t_, rfl, _, _, rfl, rfl, ⟨by decide, by decide⟩, .inl ⟨_, rfl, _, _, rfl, rfl, (by show (0 : Int) < 8; decide), _, rfl, by rw [sizeLine_eq]; show 2 ≤ 16777216; decide, fun pa hpa => ?_⟩⟩
      have C3 := C2.alloc (o := .tup [.int ((c * 39373 + 307) % 2147483629 / 11 % 8), .int ((c * 39373 + 307) % 2147483629 / 97 % m)]) hpa
      have CX := C2.put (b := (c * 39373 + 307) % 2147483629 / 11 % 8) (f := (c * 39373 + 307) % 2147483629 / 97 % m) hpa hp hgot
      have npa : ¬ P' pa := fun z => C2.there z hpa
      have pnX : ∀ a, (P' a ∨ a = pa) → P' a ∨ H a = none := fun a ha => by
        rcases ha with z | z
        · exact .inl z
        · subst z; exact .inr (by rw [← kp2 _ npa]; exact hpa)
      have kpX : ∀ a, ¬ (P' a ∨ a = pa) → (upd (upd (upd H' t (.lst [.int ((c * 39373 + 307) % 2147483629), .ref hl, .ref dd])) pa (.tup [.int ((c * 39373 + 307) % 2147483629 / 11 % 8), .int ((c * 39373 + 307) % 2147483629 / 97 % m)])) dd (.dK (putK kvs (.inr p : Key) (.ref pa)))) a = H a := fun a ha => by
        have n1 : ¬ P' a := fun z => ha (.inl z)
        rw [upd_ne (fun e => n1 (by rw [e]; exact (C.P_ dd).mpr (.inr (.inr (.inl rfl))))), upd_ne (fun e => ha (.inr e))]
        exact kp2 a n1
      have few := C2.few
      refine ⟨_, rfl, t, _, _, _, rfl, rfl, SqL.of C3.t_, rfl, _, rfl, dd, _, rfl, DPut.k (k := Sum.inr p) C3.d_ (by rw [sizeLine_eq]; have : places.length = 25 := (by decide +kernel); omega), ?_⟩
      have hput : valV (kvs ++ [((.inr p : Key), V.ref pa)]) (.inr p) = some (.ref pa) := by
        have e2 : putK kvs (.inr p : Key) (.ref pa) = kvs ++ [(.inr p, .ref pa)] := by
          unfold putK
          rw [if_neg]
          rw [valV_any, hgot]; simp
        rw [← e2, valV_put]; simp
      have hpa2 := CX.vals (.inr p, .ref pa) (List.mem_append_right _ (List.mem_singleton.mpr rfl))
      obtain ⟨b0, f0, pa', e1, hpa3⟩ := hpa2
      cases e1
      refine ⟨_, rfl, t, _, _, _, rfl, rfl, SqL.of CX.t_, rfl, _, rfl, dd, _, rfl, CX.get hput, pa, _, rfl, SqT.of hpa3, rfl, ?_⟩
      refine ⟨_, _, rfl, _, _, rfl, rfl, ?_⟩
      refine ⟨_, rfl, rfl, _, rfl, ?_⟩
      refine ite2 (fun _ => fin 0 (.inr rfl) CX pnX kpX) (fun _ => ?_)
      refine ⟨_, rfl, rfl, _, rfl, ?_⟩
      refine ite2 (fun _ => ⟨_, rfl, _, _, rfl, rfl, finI (m - 1) (by omega) (by omega) CX pnX kpX⟩) (fun _ => ?_)
      refine ⟨_, rfl, rfl, _, rfl, ?_⟩
      refine ite2 (fun _ => ⟨_, rfl, .inl ⟨_, rfl, _, rfl, _, _, rfl, rfl, (by show (0 : Int) < m; omega), finI _ (Int.emod_nonneg _ (by omega)) (Int.emod_lt_of_pos _ (by omega)) CX pnX kpX⟩⟩) (fun _ => ⟨_, rfl, finI _ hdr.1 hdr.2 CX pnX kpX⟩)
    | some v =>
      refine iteF ?_
      obtain ⟨b0, f0, pa, hv, hpa3⟩ := C2.got hgot
      subst hv
      have CX := C2
      have pnX : ∀ a, P' a → P' a ∨ H a = none := fun a h => .inl h
      have kpX := kp2
      refine ⟨_, rfl, t, _, _, _, rfl, rfl, SqL.of CX.t_, rfl, _, rfl, dd, _, rfl, CX.get hgot, pa, _, rfl, SqT.of hpa3, rfl, ?_⟩
      refine ⟨_, _, rfl, _, _, rfl, rfl, ?_⟩
      refine ⟨_, rfl, rfl, _, rfl, ?_⟩
      refine ite2 (fun _ => fin 0 (.inr rfl) CX pnX kpX) (fun _ => ?_)
      refine ⟨_, rfl, rfl, _, rfl, ?_⟩
      refine ite2 (fun _ => ⟨_, rfl, _, _, rfl, rfl, finI (m - 1) (by omega) (by omega) CX pnX kpX⟩) (fun _ => ?_)
      refine ⟨_, rfl, rfl, _, rfl, ?_⟩
      refine ite2 (fun _ => ⟨_, rfl, .inl ⟨_, rfl, _, rfl, _, _, rfl, rfl, (by show (0 : Int) < m; omega), finI _ (Int.emod_nonneg _ (by omega)) (Int.emod_lt_of_pos _ (by omega)) CX pnX kpX⟩⟩) (fun _ => ⟨_, rfl, finI _ hdr.1 hdr.2 CX pnX kpX⟩)
  | some y =>
    have hne : held' ≠ [] := fun e => by rw [e] at hlast; simp at hlast
    have hpos : 0 < held'.length := List.length_pos_iff.mpr hne
    have hy0 : 0 ≤ y := C'.nn y (List.mem_of_getLast? hlast)
    have hix : ixN (held'.map V.int).length (-1) = some (held'.length - 1) := by
      rw [List.length_map]
      unfold ixN
      rw [if_neg (by decide), if_pos (by omega)]
      congr 1
      omega
    have hel : (held'.map V.int)[held'.length - 1]? = some (V.int y) := by
      rw [List.getElem?_map, ← List.getLast?_eq_getElem?, hlast]; rfl
    have hat : atI (held'.map V.int) (-1) = some (V.int y) := by
      unfold atI
      rw [hix]; exact hel
    refine ite2 (fun _ => ?_) (fun hF => absurd (decide_eq_true (show (0 : Int) < (((held'.map V.int).length : Nat) : Int) by rw [List.length_map]; omega)) hF)
    refine ⟨_, rfl, t, _, _, _, rfl, rfl, SqL.of C'.t_, rfl, _, rfl, hl, _, _, _, rfl, rfl, SqL.of C'.h_, hat, rfl, _, rfl, ?_⟩
    by_cases hz : y = 0
    · refine ifT (by simp [hz]) ?_
      refine ⟨fun σ2 H2 => ∃ m', m' < held'.length ∧ σ2 = [some (.ref t), some (.int m), some (.str p), none, none, none, none] ∧ ∃ held2, CrockAt places H2 t hl dd c held2 kvs P' ∧ (∀ a, ¬ P' a → H2 a = H a) ∧ m' = held2.length, fun σ2 H2 z => z, ?_⟩
      refine ⟨_, rfl, t, _, _, _, rfl, rfl, SqL.of C'.t_, rfl, .inl ⟨rfl, _, SqL.of C'.h_⟩, hl, _, _, rfl, rfl, C'.h_, (by rw [List.length_map]; exact hel), ?_⟩
      have e : (held'.map V.int).dropLast = held'.dropLast.map V.int := by simp
      rw [e]
      refine ⟨held'.length - 1, by omega, rfl, held'.dropLast, C'.setH fun x hx => C'.nn x (List.dropLast_subset _ hx), fun a ha => ?_, by simp⟩
      rw [upd_ne (fun z => by subst z; exact ha (st 0).2)]; exact kp a ha
    · refine ifF (by simp [hz]) ?_
      refine ⟨_, rfl, t, _, _, _, rfl, rfl, SqL.of C'.t_, rfl, _, _, rfl, .inl ⟨_, SqL.of C'.h_, rfl⟩, _, _, rfl, rfl, _, rfl, ite2 (fun _ => ?_) (fun hF => absurd (decide_eq_true (show (0 : Int) < (((held'.map V.int).length : Nat) : Int) by rw [List.length_map]; omega)) hF)⟩
      refine ⟨_, rfl, t, _, _, _, rfl, rfl, SqL.of C'.t_, rfl, _, rfl, hl, _, _, _, rfl, rfl, SqL.of C'.h_, hat, .inl ⟨_, rfl, ?_⟩⟩
      refine ⟨_, rfl, _, rfl, _, _, rfl, rfl, ⟨by omega, by omega⟩, _, rfl, t, _, _, _, rfl, rfl, SqL.of C'.t_, rfl, _, rfl, hl, _, _, _, rfl, rfl, C'.h_, hix, ?_⟩
      refine ⟨_, rfl, _, rfl, _, _, rfl, rfl, (by show (0 : Int) < m; omega), ?_⟩
      have e : (held'.map V.int).set (held'.length - 1) (.int (y / m)) = (held'.set (held'.length - 1) (y / m)).map V.int := by rw [List.map_set]
      show Q (.int (y % m)) (upd H' hl (.lst ((held'.map V.int).set (held'.length - 1) (.int (y / m)))))
      rw [e]
      refine finI _ (Int.emod_nonneg _ (by omega)) (Int.emod_lt_of_pos _ (by omega)) (C'.setH fun x hx => ?_) (fun a h => .inl h) fun a ha => ?_
      · rcases List.mem_or_eq_of_mem_set hx with z | z
        · exact C'.nn x z
        · rw [z]; exact Int.ediv_nonneg hy0 (by omega)
      · rw [upd_ne (fun z => by subst z; exact ha (st 0).2)]; exact kp a ha
end
end K07

set_option maxRecDepth 100000
set_option maxHeartbeats 4000000
namespace K07
open PySem PySem.Spec PyProof.Rows L2 Dt
def abF : List Fld := [("a", 0, 2), ("b", 0, 2)]
def scS : Sc := ⟨abF, [((0, 1), (1, 1)), ((1, 1), (0, 1))]⟩
def scG : Sc := ⟨abF, [((0, 0), (1, 3))]⟩
def scT : Sc := ⟨[("a", 0, 2), ("b", 0, 2), ("c", 0, 2)], [((1, 1), (2, 2)), ((0, 1), (1, 2)), ((2, 2), (0, 1))]⟩
def scX : Sc := ⟨[("x", 5, 5)], []⟩
theorem okS : scS.Ok := ⟨by decide, by decide, by decide, by decide, by decide⟩
theorem okG : scG.Ok := ⟨by decide, by decide, by decide, by decide, by decide⟩
theorem okT : scT.Ok := ⟨by decide, by decide, by decide, by decide, by decide⟩
theorem okX : scX.Ok := ⟨by decide, by decide, by decide, by decide, by decide⟩
theorem rS : recs scS = [[0, 0], [1, 1], [1, 2], [2, 1], [2, 2]] := by decide +kernel
theorem rG : recs scG = [] := by decide +kernel
theorem d1 : dueF (recs scS) [(0, 2)] = told "told" (eV [2, 1]) := by rw [rS]; rfl
theorem d2 : dueF (recs scS) [] = told "told" (eV [0, 0]) := by rw [rS]; rfl
theorem d3 : dueF (recs scS) [(1, 3)] = told "raised" (.str "barred") := by rw [rS]; rfl
theorem d4 : dueF (recs scG) [(1, 3)] = told "raised" (.str "void") := by rw [rG]; rfl
theorem rX : recs scX = [[5]] := by decide +kernel
theorem d5 : dueF (recs scX) [(0, 6)] = told "raised" (.str "barred") := by rw [rX]; rfl
theorem least {s : Sc} {dm : List Dem} {d : D} {Q : D → Prop} {Qx : Exn → Prop} (ok : s.Ok) (hd : ∀ x ∈ dm, x.1 < s.fs.length) (e : dueF (recs s) dm = d) (q : Q d) : sp_law_least.f [eS s, eDs dm] Q Qx := ⟨(s, dm), rfl, ⟨ok, hd⟩, by show Q (dueF (recs s) dm); rw [e]; exact q⟩
theorem isR {s : Sc} {d : D} {b : Bool} {Q : D → Prop} {Qx : Exn → Prop} (ok : s.Ok) (fl : flat1 d) (e : b = true ↔ ∃ v ∈ recs s, d = eV v) (q : Q (.bool b)) : sp_is_record.f [eS s, d] Q Qx := ⟨(s, d), rfl, ⟨ok, fl⟩, by
  rintro _ ⟨b', rfl, hb⟩
  have : b' = b := by
    have := hb.trans e.symm
    cases b <;> cases b' <;> simp at this ⊢
  rw [this]; exact q⟩
theorem isV {s : Sc} {v : List Int} : (decide (v ∈ recs s) = true) ↔ ∃ w ∈ recs s, eV v = eV w := by
  rw [decide_eq_true_eq]
  exact ⟨fun h => ⟨v, h, rfl⟩, fun ⟨w, h, e⟩ => by rw [eV_inj e]; exact h⟩
theorem rT : recs scT = [[0, 0, 0], [0, 0, 1], [1, 2, 2], [2, 2, 2]] := by decide +kernel
theorem d6 : dueF (recs scT) [(0, 1)] = told "told" (eV [1, 2, 2]) := by rw [rT]; rfl
theorem d7 : dueF (recs scT) [(1, 1)] = told "told" (eV [1, 2, 2]) := by rw [rT]; rfl
noncomputable def b_law_10 : DS :=
  (sRet ((xOr ((xOp2 fNotIn ((xCall sp_dip (xCons (xTp 1) (xCons (xC (.int 7)) (xCons (xC (.str "wide")) xNil))))) ((xTup (xCons (xC (.int 2)) (xCons (xC (.int 6)) xNil)))))) ((xCall sp_law_great (xCons (xTp 1) xNil))))))

noncomputable def b_law_9 : DS :=
  (sSeq (sIf ((xNotT ((xTru ((xCall sp_law_same (xCons ((xTup (xCons ((xCall sp_law_least (xCons (xFr 7) (xCons ((xTup (xCons ((xTup (xCons (xC (.int 0)) (xCons (xC (.int 1)) xNil)))) xNil))) xNil)))) (xCons ((xCall sp_law_least (xCons (xFr 7) (xCons ((xTup (xCons ((xTup (xCons (xC (.int 1)) (xCons (xC (.int 1)) xNil)))) xNil))) xNil)))) (xCons ((xCall sp_all_records (xCons (xFr 7) xNil))) xNil))))) (xCons ((xTup (xCons ((xTup (xCons (xC (.str "told")) (xCons ((xTup (xCons (xC (.int 1)) (xCons (xC (.int 2)) (xCons (xC (.int 2)) xNil))))) xNil)))) (xCons ((xTup (xCons (xC (.str "told")) (xCons ((xTup (xCons (xC (.int 1)) (xCons (xC (.int 2)) (xCons (xC (.int 2)) xNil))))) xNil)))) (xCons ((xCB fTuple (xCons ((xCall sp_law_records (xCons (xFr 7) xNil))) xNil))) xNil))))) xNil)))))))) (sRet (xC (.bool false))) sNil)
  b_law_10)

noncomputable def b_law_8 : DS :=
  (sSeq (sSet 7 ((xTup (xCons ((xOp2 fAddT (xVw 3) ((xTup (xCons ((xTup (xCons (xC (.str "c")) (xCons (xC (.int 0)) (xCons (xC (.int 2)) xNil))))) xNil))))) (xCons ((xTup (xCons ((xTup (xCons ((xTup (xCons (xC (.int 1)) (xCons (xC (.int 1)) xNil)))) (xCons ((xTup (xCons (xC (.int 2)) (xCons (xC (.int 2)) xNil)))) xNil)))) (xCons ((xTup (xCons ((xTup (xCons (xC (.int 0)) (xCons (xC (.int 1)) xNil)))) (xCons ((xTup (xCons (xC (.int 1)) (xCons (xC (.int 2)) xNil)))) xNil)))) (xCons ((xTup (xCons ((xTup (xCons (xC (.int 2)) (xCons (xC (.int 2)) xNil)))) (xCons ((xTup (xCons (xC (.int 0)) (xCons (xC (.int 1)) xNil)))) xNil)))) xNil))))) xNil)))))
  b_law_9)

noncomputable def b_law_7 : DS :=
  (sSeq (sIf ((xNotT ((xTru ((xCall sp_law_same (xCons (xFr 6) (xCons ((xTup (xCons ((xTup (xCons (xC (.str "told")) (xCons ((xTup (xCons (xC (.int 2)) (xCons (xC (.int 1)) xNil)))) xNil)))) (xCons ((xTup (xCons (xC (.str "told")) (xCons ((xTup (xCons (xC (.int 0)) (xCons (xC (.int 0)) xNil)))) xNil)))) (xCons ((xTup (xCons (xC (.str "raised")) (xCons (xC (.str "barred")) xNil)))) (xCons ((xTup (xCons (xC (.str "raised")) (xCons (xC (.str "void")) xNil)))) (xCons ((xTup (xCons (xC (.str "raised")) (xCons (xC (.str "barred")) xNil)))) xNil))))))) xNil)))))))) (sRet (xC (.bool false))) sNil)
  b_law_8)

noncomputable def b_law_6 : DS :=
  (sSeq (sSet 6 ((xTup (xCons ((xCall sp_law_least (xCons (xFr 4) (xCons ((xTup (xCons ((xTup (xCons (xC (.int 0)) (xCons (xC (.int 2)) xNil)))) xNil))) xNil)))) (xCons ((xCall sp_law_least (xCons (xFr 4) (xCons ((xTup xNil)) xNil)))) (xCons ((xCall sp_law_least (xCons (xFr 4) (xCons ((xTup (xCons ((xTup (xCons (xC (.int 1)) (xCons (xC (.int 3)) xNil)))) xNil))) xNil)))) (xCons ((xCall sp_law_least (xCons (xFr 5) (xCons ((xTup (xCons ((xTup (xCons (xC (.int 1)) (xCons (xC (.int 3)) xNil)))) xNil))) xNil)))) (xCons ((xCall sp_law_least (xCons ((xTup (xCons ((xTup (xCons ((xTup (xCons (xC (.str "x")) (xCons (xC (.int 5)) (xCons (xC (.int 5)) xNil))))) xNil))) (xCons ((xTup xNil)) xNil)))) (xCons ((xTup (xCons ((xTup (xCons (xC (.int 0)) (xCons (xC (.int 6)) xNil)))) xNil))) xNil)))) xNil))))))))
  b_law_7)

noncomputable def b_law_5 : DS :=
  (sSeq (sIf ((xNotT ((xTru ((xCall sp_law_same (xCons (xFr 6) (xCons ((xTup (xCons (xC (.bool false)) (xCons (xC (.bool true)) (xCons (xC (.bool false)) (xCons (xC (.bool false)) (xCons (xC (.int 5)) (xCons ((xTup xNil)) xNil)))))))) xNil)))))))) (sRet (xC (.bool false))) sNil)
  b_law_6)

noncomputable def b_law_4 : DS :=
  (sSeq (sSet 6 ((xTup (xCons ((xCall sp_is_record (xCons (xFr 4) (xCons ((xTup (xCons (xC (.int 1)) (xCons (xC (.int 0)) xNil)))) xNil)))) (xCons ((xCall sp_is_record (xCons (xFr 4) (xCons ((xTup (xCons (xC (.int 1)) (xCons (xC (.int 2)) xNil)))) xNil)))) (xCons ((xCall sp_is_record (xCons (xFr 4) (xCons ((xTup (xCons (xC (.int 1)) (xCons (xC (.bool true)) xNil)))) xNil)))) (xCons ((xCall sp_is_record (xCons (xFr 5) (xCons ((xTup (xCons (xC (.int 0)) (xCons (xC (.int 0)) xNil)))) xNil)))) (xCons ((xCB fLen (xCons ((xCall sp_all_records (xCons (xFr 4) xNil))) xNil))) (xCons ((xCall sp_all_records (xCons (xFr 5) xNil))) xNil)))))))))
  b_law_5)

noncomputable def b_law_3 : DS :=
  (sSeq (sSet 5 ((xTup (xCons (xFr 3) (xCons ((xTup (xCons ((xTup (xCons ((xTup (xCons (xC (.int 0)) (xCons (xC (.int 0)) xNil)))) (xCons ((xTup (xCons (xC (.int 1)) (xCons (xC (.int 3)) xNil)))) xNil)))) xNil))) xNil)))))
  b_law_4)

noncomputable def b_law_2 : DS :=
  (sSeq (sSet 4 ((xTup (xCons (xFr 3) (xCons ((xTup (xCons ((xTup (xCons ((xTup (xCons (xC (.int 0)) (xCons (xC (.int 1)) xNil)))) (xCons ((xTup (xCons (xC (.int 1)) (xCons (xC (.int 1)) xNil)))) xNil)))) (xCons ((xTup (xCons ((xTup (xCons (xC (.int 1)) (xCons (xC (.int 1)) xNil)))) (xCons ((xTup (xCons (xC (.int 0)) (xCons (xC (.int 1)) xNil)))) xNil)))) xNil)))) xNil)))))
  b_law_3)

/-- law: 0 script, 1 crock, 2 lap, 3 fields, 4 same, 5 gone, 6 told, 7 three -/
noncomputable def b_law : DS :=
  (sSeq (sFor (xRng1 (xCons (xC (.int 4)) xNil)) (dgN 2) (sIf ((xNotT ((xTru ((xCall sp_law_asked (xCons (xTp 1) (xCons ((xCall sp_law_schema (xCons (xTp 1) (xCons (xC (.int 3)) (xCons (xC (.int 3)) (xCons (xC (.int 6)) xNil)))))) xNil)))))))) (sRet (xC (.bool false))) sNil))
  (sSeq (sSet 3 ((xTup (xCons ((xTup (xCons (xC (.str "a")) (xCons (xC (.int 0)) (xCons (xC (.int 2)) xNil))))) (xCons ((xTup (xCons (xC (.str "b")) (xCons (xC (.int 0)) (xCons (xC (.int 2)) xNil))))) xNil)))))
  b_law_2))
section
variable {Q : D → Prop} {Qx : Exn → Prop} {nx bk ct : Dt.Env → Prop}
theorem la10 (q : Q (.bool true)) {a b c d e f : Sl} : b_law_10 [.un, .tp, a, b, c, d, e, f] ⟨nx, Q, bk, ct, fun _ => Qx⟩ := by
  simp only [b_law_10, sSeq_eq, thenD_cons, sNil, sRet, sRetN, sSet, sSetN, sAsg, sIf, sFor, forD, sDrop, sApp, sExt, sPop, sPop0, sSetIx, sAug, sPar, sMove, sFreeze, sNever, sBreak, sCont, xFr, xVw, xSt, xOw, xTp, xC, xOp1, xOp2, xTup, xLst, xCons, xNil, xCall, xCB, xTst, xTru, xAndT, xOrT, xNotT, xAnd, xOr, xNot, xIf, xChain, xCut, xSome, xNo, xIsi, xLc, xSeq, xRng1, xRng2, xYes, fRng1, fRng2, fSeq, dgN, dgT, dgCons, dgNil, Env.get, Env.put, env0, slOf, wipeR, List.set, List.set_cons_zero, List.set_cons_succ, List.getD_cons_zero, List.getD_cons_succ, List.length_cons, List.length_nil, fBool, fTru, fI20, fI2, fI1, fIsi, fOwL, fInt, fListQ, List.replicate, List.append_nil, List.nil_append, List.cons_append, Bool.false_eq_true, if_false, if_true, reduceIte, Nat.reduceSub, Nat.reduceAdd, true_and, and_true, Nat.zero_add, fLe, fLt, fGe, fGt, fAddI, fSubI, fMulI, fDivI, fModI, fNeg, fIx_t0, fIx_t1, fIx_t2, fIx_t3, xLc2, xZip, fZip, xIndex, fIndex, sRaise, fMulL, fListQ, xIsE, xFld, sTry, sTry0]
  refine dip (by decide) (by decide) fun k hk => ?_
  have great : sp_law_great.f [.none] Q Qx := ⟨(), rfl, trivial, q⟩
  simp only [fNotIn]
  refine ⟨shaped_int _, by decide +kernel, ?_⟩
  simp only [sSeq_eq, thenD_cons, sNil, sRet, sRetN, sSet, sSetN, sAsg, sIf, sFor, forD, sDrop, sApp, sExt, sPop, sPop0, sSetIx, sAug, sPar, sMove, sFreeze, sNever, sBreak, sCont, xFr, xVw, xSt, xOw, xTp, xC, xOp1, xOp2, xTup, xLst, xCons, xNil, xCall, xCB, xTst, xTru, xAndT, xOrT, xNotT, xAnd, xOr, xNot, xIf, xChain, xCut, xSome, xNo, xIsi, xLc, xSeq, xRng1, xRng2, xYes, fRng1, fRng2, fSeq, dgN, dgT, dgCons, dgNil, Env.get, Env.put, env0, slOf, wipeR, List.set, List.set_cons_zero, List.set_cons_succ, List.getD_cons_zero, List.getD_cons_succ, List.length_cons, List.length_nil, fBool, fTru, fI20, fI2, fI1, fIsi, fOwL, fInt, fListQ, List.replicate, List.append_nil, List.nil_append, List.cons_append, Bool.false_eq_true, if_false, if_true, reduceIte, Nat.reduceSub, Nat.reduceAdd, true_and, and_true, Nat.zero_add, fLe, fLt, fGe, fGt, fAddI, fSubI, fMulI, fDivI, fModI, fNeg, fIx_t0, fIx_t1, fIx_t2, fIx_t3, xLc2, xZip, fZip, xIndex, fIndex, sRaise, fMulL, fListQ, xIsE, xFld, sTry, sTry0]
  split
  · exact q
  · exact great
theorem la9 (q : Q (.bool true)) {a b c d e : Sl} : b_law_9 [.un, .tp, a, b, c, d, e, .fr (eS scT)] ⟨nx, Q, bk, ct, fun _ => Qx⟩ := by
  unfold b_law_9
  rw [sSeq_eq]
  simp only [sSeq_eq, thenD_cons, sNil, sRet, sRetN, sSet, sSetN, sAsg, sIf, sFor, forD, sDrop, sApp, sExt, sPop, sPop0, sSetIx, sAug, sPar, sMove, sFreeze, sNever, sBreak, sCont, xFr, xVw, xSt, xOw, xTp, xC, xOp1, xOp2, xTup, xLst, xCons, xNil, xCall, xCB, xTst, xTru, xAndT, xOrT, xNotT, xAnd, xOr, xNot, xIf, xChain, xCut, xSome, xNo, xIsi, xLc, xSeq, xRng1, xRng2, xYes, fRng1, fRng2, fSeq, dgN, dgT, dgCons, dgNil, Env.get, Env.put, env0, slOf, wipeR, List.set, List.set_cons_zero, List.set_cons_succ, List.getD_cons_zero, List.getD_cons_succ, List.length_cons, List.length_nil, fBool, fTru, fI20, fI2, fI1, fIsi, fOwL, fInt, fListQ, List.replicate, List.append_nil, List.nil_append, List.cons_append, Bool.false_eq_true, if_false, if_true, reduceIte, Nat.reduceSub, Nat.reduceAdd, true_and, and_true, Nat.zero_add, fLe, fLt, fGe, fGt, fAddI, fSubI, fMulI, fDivI, fModI, fNeg, fIx_t0, fIx_t1, fIx_t2, fIx_t3, xLc2, xZip, fZip, xIndex, fIndex, sRaise, fMulL, fListQ, xIsE, xFld, sTry, sTry0]
  refine least (s := scT) (dm := [(0, 1)]) okT (by decide) d6 ?_
  refine least (s := scT) (dm := [(1, 1)]) okT (by decide) d7 ?_
  refine ⟨scT, rfl, okT, ?_⟩
  simp only [fTuple, sSeq_eq, thenD_cons, sNil, sRet, sRetN, sSet, sSetN, sAsg, sIf, sFor, forD, sDrop, sApp, sExt, sPop, sPop0, sSetIx, sAug, sPar, sMove, sFreeze, sNever, sBreak, sCont, xFr, xVw, xSt, xOw, xTp, xC, xOp1, xOp2, xTup, xLst, xCons, xNil, xCall, xCB, xTst, xTru, xAndT, xOrT, xNotT, xAnd, xOr, xNot, xIf, xChain, xCut, xSome, xNo, xIsi, xLc, xSeq, xRng1, xRng2, xYes, fRng1, fRng2, fSeq, dgN, dgT, dgCons, dgNil, Env.get, Env.put, env0, slOf, wipeR, List.set, List.set_cons_zero, List.set_cons_succ, List.getD_cons_zero, List.getD_cons_succ, List.length_cons, List.length_nil, fBool, fTru, fI20, fI2, fI1, fIsi, fOwL, fInt, fListQ, List.replicate, List.append_nil, List.nil_append, List.cons_append, Bool.false_eq_true, if_false, if_true, reduceIte, Nat.reduceSub, Nat.reduceAdd, true_and, and_true, Nat.zero_add, fLe, fLt, fGe, fGt, fAddI, fSubI, fMulI, fDivI, fModI, fNeg, fIx_t0, fIx_t1, fIx_t2, fIx_t3, xLc2, xZip, fZip, xIndex, fIndex, sRaise, fMulL, fListQ, xIsE, xFld, sTry, sTry0]
  refine ⟨scT, rfl, okT, ?_⟩
  simp only [fTuple, sSeq_eq, thenD_cons, sNil, sRet, sRetN, sSet, sSetN, sAsg, sIf, sFor, forD, sDrop, sApp, sExt, sPop, sPop0, sSetIx, sAug, sPar, sMove, sFreeze, sNever, sBreak, sCont, xFr, xVw, xSt, xOw, xTp, xC, xOp1, xOp2, xTup, xLst, xCons, xNil, xCall, xCB, xTst, xTru, xAndT, xOrT, xNotT, xAnd, xOr, xNot, xIf, xChain, xCut, xSome, xNo, xIsi, xLc, xSeq, xRng1, xRng2, xYes, fRng1, fRng2, fSeq, dgN, dgT, dgCons, dgNil, Env.get, Env.put, env0, slOf, wipeR, List.set, List.set_cons_zero, List.set_cons_succ, List.getD_cons_zero, List.getD_cons_succ, List.length_cons, List.length_nil, fBool, fTru, fI20, fI2, fI1, fIsi, fOwL, fInt, fListQ, List.replicate, List.append_nil, List.nil_append, List.cons_append, Bool.false_eq_true, if_false, if_true, reduceIte, Nat.reduceSub, Nat.reduceAdd, true_and, and_true, Nat.zero_add, fLe, fLt, fGe, fGt, fAddI, fSubI, fMulI, fDivI, fModI, fNeg, fIx_t0, fIx_t1, fIx_t2, fIx_t3, xLc2, xZip, fZip, xIndex, fIndex, sRaise, fMulL, fListQ, xIsE, xFld, sTry, sTry0]
  refine same (d := .tuple [told "told" (eV [1, 2, 2]), told "told" (eV [1, 2, 2]), .tuple ((recs scT).map eV)]) (by rw [rT]; exact ⟨by decide +kernel, by decide +kernel⟩) ?_
  simp only [sSeq_eq, thenD_cons, sNil, sRet, sRetN, sSet, sSetN, sAsg, sIf, sFor, forD, sDrop, sApp, sExt, sPop, sPop0, sSetIx, sAug, sPar, sMove, sFreeze, sNever, sBreak, sCont, xFr, xVw, xSt, xOw, xTp, xC, xOp1, xOp2, xTup, xLst, xCons, xNil, xCall, xCB, xTst, xTru, xAndT, xOrT, xNotT, xAnd, xOr, xNot, xIf, xChain, xCut, xSome, xNo, xIsi, xLc, xSeq, xRng1, xRng2, xYes, fRng1, fRng2, fSeq, dgN, dgT, dgCons, dgNil, Env.get, Env.put, env0, slOf, wipeR, List.set, List.set_cons_zero, List.set_cons_succ, List.getD_cons_zero, List.getD_cons_succ, List.length_cons, List.length_nil, fBool, fTru, fI20, fI2, fI1, fIsi, fOwL, fInt, fListQ, List.replicate, List.append_nil, List.nil_append, List.cons_append, Bool.false_eq_true, if_false, if_true, reduceIte, Nat.reduceSub, Nat.reduceAdd, true_and, and_true, Nat.zero_add, fLe, fLt, fGe, fGt, fAddI, fSubI, fMulI, fDivI, fModI, fNeg, fIx_t0, fIx_t1, fIx_t2, fIx_t3, xLc2, xZip, fZip, xIndex, fIndex, sRaise, fMulL, fListQ, xIsE, xFld, sTry, sTry0]
  exact la10 q
theorem la7 (q : Q (.bool true)) {a c d : Sl} : b_law_7 [.un, .tp, a, .fr (.tuple (abF.map eF)), c, d, .fr (.tuple [told "told" (eV [2, 1]), told "told" (eV [0, 0]), told "raised" (.str "barred"), told "raised" (.str "void"), told "raised" (.str "barred")]), .un] ⟨nx, Q, bk, ct, fun _ => Qx⟩ := by
  unfold b_law_7
  rw [sSeq_eq]
  simp only [sSeq_eq, thenD_cons, sNil, sRet, sRetN, sSet, sSetN, sAsg, sIf, sFor, forD, sDrop, sApp, sExt, sPop, sPop0, sSetIx, sAug, sPar, sMove, sFreeze, sNever, sBreak, sCont, xFr, xVw, xSt, xOw, xTp, xC, xOp1, xOp2, xTup, xLst, xCons, xNil, xCall, xCB, xTst, xTru, xAndT, xOrT, xNotT, xAnd, xOr, xNot, xIf, xChain, xCut, xSome, xNo, xIsi, xLc, xSeq, xRng1, xRng2, xYes, fRng1, fRng2, fSeq, dgN, dgT, dgCons, dgNil, Env.get, Env.put, env0, slOf, wipeR, List.set, List.set_cons_zero, List.set_cons_succ, List.getD_cons_zero, List.getD_cons_succ, List.length_cons, List.length_nil, fBool, fTru, fI20, fI2, fI1, fIsi, fOwL, fInt, fListQ, List.replicate, List.append_nil, List.nil_append, List.cons_append, Bool.false_eq_true, if_false, if_true, reduceIte, Nat.reduceSub, Nat.reduceAdd, true_and, and_true, Nat.zero_add, fLe, fLt, fGe, fGt, fAddI, fSubI, fMulI, fDivI, fModI, fNeg, fIx_t0, fIx_t1, fIx_t2, fIx_t3, xLc2, xZip, fZip, xIndex, fIndex, sRaise, fMulL, fListQ, xIsE, xFld, sTry, sTry0]
  refine same (d := .tuple [told "told" (eV [2, 1]), told "told" (eV [0, 0]), told "raised" (.str "barred"), told "raised" (.str "void"), told "raised" (.str "barred")]) ⟨by decide +kernel, by decide +kernel⟩ ?_
  simp only [sSeq_eq, thenD_cons, sNil, sRet, sRetN, sSet, sSetN, sAsg, sIf, sFor, forD, sDrop, sApp, sExt, sPop, sPop0, sSetIx, sAug, sPar, sMove, sFreeze, sNever, sBreak, sCont, xFr, xVw, xSt, xOw, xTp, xC, xOp1, xOp2, xTup, xLst, xCons, xNil, xCall, xCB, xTst, xTru, xAndT, xOrT, xNotT, xAnd, xOr, xNot, xIf, xChain, xCut, xSome, xNo, xIsi, xLc, xSeq, xRng1, xRng2, xYes, fRng1, fRng2, fSeq, dgN, dgT, dgCons, dgNil, Env.get, Env.put, env0, slOf, wipeR, List.set, List.set_cons_zero, List.set_cons_succ, List.getD_cons_zero, List.getD_cons_succ, List.length_cons, List.length_nil, fBool, fTru, fI20, fI2, fI1, fIsi, fOwL, fInt, fListQ, List.replicate, List.append_nil, List.nil_append, List.cons_append, Bool.false_eq_true, if_false, if_true, reduceIte, Nat.reduceSub, Nat.reduceAdd, true_and, and_true, Nat.zero_add, fLe, fLt, fGe, fGt, fAddI, fSubI, fMulI, fDivI, fModI, fNeg, fIx_t0, fIx_t1, fIx_t2, fIx_t3, xLc2, xZip, fZip, xIndex, fIndex, sRaise, fMulL, fListQ, xIsE, xFld, sTry, sTry0]
  unfold b_law_8
  rw [sSeq_eq]
  simp only [fAddT, sSeq_eq, thenD_cons, sNil, sRet, sRetN, sSet, sSetN, sAsg, sIf, sFor, forD, sDrop, sApp, sExt, sPop, sPop0, sSetIx, sAug, sPar, sMove, sFreeze, sNever, sBreak, sCont, xFr, xVw, xSt, xOw, xTp, xC, xOp1, xOp2, xTup, xLst, xCons, xNil, xCall, xCB, xTst, xTru, xAndT, xOrT, xNotT, xAnd, xOr, xNot, xIf, xChain, xCut, xSome, xNo, xIsi, xLc, xSeq, xRng1, xRng2, xYes, fRng1, fRng2, fSeq, dgN, dgT, dgCons, dgNil, Env.get, Env.put, env0, slOf, wipeR, List.set, List.set_cons_zero, List.set_cons_succ, List.getD_cons_zero, List.getD_cons_succ, List.length_cons, List.length_nil, fBool, fTru, fI20, fI2, fI1, fIsi, fOwL, fInt, fListQ, List.replicate, List.append_nil, List.nil_append, List.cons_append, Bool.false_eq_true, if_false, if_true, reduceIte, Nat.reduceSub, Nat.reduceAdd, true_and, and_true, Nat.zero_add, fLe, fLt, fGe, fGt, fAddI, fSubI, fMulI, fDivI, fModI, fNeg, fIx_t0, fIx_t1, fIx_t2, fIx_t3, xLc2, xZip, fZip, xIndex, fIndex, sRaise, fMulL, fListQ, xIsE, xFld, sTry, sTry0]
  refine ⟨by rw [sizeLine_eq]; decide, ?_⟩
  exact la9 q
theorem la6 (q : Q (.bool true)) {a d : Sl} : b_law_6 [.un, .tp, a, .fr (.tuple (abF.map eF)), .fr (eS scS), .fr (eS scG), d, .un] ⟨nx, Q, bk, ct, fun _ => Qx⟩ := by
  unfold b_law_6
  rw [sSeq_eq]
  simp only [sSeq_eq, thenD_cons, sNil, sRet, sRetN, sSet, sSetN, sAsg, sIf, sFor, forD, sDrop, sApp, sExt, sPop, sPop0, sSetIx, sAug, sPar, sMove, sFreeze, sNever, sBreak, sCont, xFr, xVw, xSt, xOw, xTp, xC, xOp1, xOp2, xTup, xLst, xCons, xNil, xCall, xCB, xTst, xTru, xAndT, xOrT, xNotT, xAnd, xOr, xNot, xIf, xChain, xCut, xSome, xNo, xIsi, xLc, xSeq, xRng1, xRng2, xYes, fRng1, fRng2, fSeq, dgN, dgT, dgCons, dgNil, Env.get, Env.put, env0, slOf, wipeR, List.set, List.set_cons_zero, List.set_cons_succ, List.getD_cons_zero, List.getD_cons_succ, List.length_cons, List.length_nil, fBool, fTru, fI20, fI2, fI1, fIsi, fOwL, fInt, fListQ, List.replicate, List.append_nil, List.nil_append, List.cons_append, Bool.false_eq_true, if_false, if_true, reduceIte, Nat.reduceSub, Nat.reduceAdd, true_and, and_true, Nat.zero_add, fLe, fLt, fGe, fGt, fAddI, fSubI, fMulI, fDivI, fModI, fNeg, fIx_t0, fIx_t1, fIx_t2, fIx_t3, xLc2, xZip, fZip, xIndex, fIndex, sRaise, fMulL, fListQ, xIsE, xFld, sTry, sTry0]
  refine least (s := scS) (dm := [(0, 2)]) okS (by decide) d1 ?_
  refine least (s := scS) (dm := []) okS (by decide) d2 ?_
  refine least (s := scS) (dm := [(1, 3)]) okS (by decide) d3 ?_
  refine least (s := scG) (dm := [(1, 3)]) okG (by decide) d4 ?_
  refine least (s := scX) (dm := [(0, 6)]) okX (by decide) d5 ?_
  exact la7 q
theorem la5 (q : Q (.bool true)) {a : Sl} : b_law_5 [.un, .tp, a, .fr (.tuple (abF.map eF)), .fr (eS scS), .fr (eS scG), .fr (.tuple [.bool false, .bool true, .bool false, .bool false, .int 5, .tuple []]), .un] ⟨nx, Q, bk, ct, fun _ => Qx⟩ := by
  unfold b_law_5
  rw [sSeq_eq]
  simp only [sSeq_eq, thenD_cons, sNil, sRet, sRetN, sSet, sSetN, sAsg, sIf, sFor, forD, sDrop, sApp, sExt, sPop, sPop0, sSetIx, sAug, sPar, sMove, sFreeze, sNever, sBreak, sCont, xFr, xVw, xSt, xOw, xTp, xC, xOp1, xOp2, xTup, xLst, xCons, xNil, xCall, xCB, xTst, xTru, xAndT, xOrT, xNotT, xAnd, xOr, xNot, xIf, xChain, xCut, xSome, xNo, xIsi, xLc, xSeq, xRng1, xRng2, xYes, fRng1, fRng2, fSeq, dgN, dgT, dgCons, dgNil, Env.get, Env.put, env0, slOf, wipeR, List.set, List.set_cons_zero, List.set_cons_succ, List.getD_cons_zero, List.getD_cons_succ, List.length_cons, List.length_nil, fBool, fTru, fI20, fI2, fI1, fIsi, fOwL, fInt, fListQ, List.replicate, List.append_nil, List.nil_append, List.cons_append, Bool.false_eq_true, if_false, if_true, reduceIte, Nat.reduceSub, Nat.reduceAdd, true_and, and_true, Nat.zero_add, fLe, fLt, fGe, fGt, fAddI, fSubI, fMulI, fDivI, fModI, fNeg, fIx_t0, fIx_t1, fIx_t2, fIx_t3, xLc2, xZip, fZip, xIndex, fIndex, sRaise, fMulL, fListQ, xIsE, xFld, sTry, sTry0]
  refine same (d := .tuple [.bool false, .bool true, .bool false, .bool false, .int 5, .tuple []]) ⟨by decide +kernel, by decide +kernel⟩ ?_
  simp only [sSeq_eq, thenD_cons, sNil, sRet, sRetN, sSet, sSetN, sAsg, sIf, sFor, forD, sDrop, sApp, sExt, sPop, sPop0, sSetIx, sAug, sPar, sMove, sFreeze, sNever, sBreak, sCont, xFr, xVw, xSt, xOw, xTp, xC, xOp1, xOp2, xTup, xLst, xCons, xNil, xCall, xCB, xTst, xTru, xAndT, xOrT, xNotT, xAnd, xOr, xNot, xIf, xChain, xCut, xSome, xNo, xIsi, xLc, xSeq, xRng1, xRng2, xYes, fRng1, fRng2, fSeq, dgN, dgT, dgCons, dgNil, Env.get, Env.put, env0, slOf, wipeR, List.set, List.set_cons_zero, List.set_cons_succ, List.getD_cons_zero, List.getD_cons_succ, List.length_cons, List.length_nil, fBool, fTru, fI20, fI2, fI1, fIsi, fOwL, fInt, fListQ, List.replicate, List.append_nil, List.nil_append, List.cons_append, Bool.false_eq_true, if_false, if_true, reduceIte, Nat.reduceSub, Nat.reduceAdd, true_and, and_true, Nat.zero_add, fLe, fLt, fGe, fGt, fAddI, fSubI, fMulI, fDivI, fModI, fNeg, fIx_t0, fIx_t1, fIx_t2, fIx_t3, xLc2, xZip, fZip, xIndex, fIndex, sRaise, fMulL, fListQ, xIsE, xFld, sTry, sTry0]
  exact la6 q
theorem la4 (q : Q (.bool true)) {a : Sl} : b_law_4 [.un, .tp, a, .fr (.tuple (abF.map eF)), .fr (eS scS), .fr (eS scG), .un, .un] ⟨nx, Q, bk, ct, fun _ => Qx⟩ := by
  unfold b_law_4
  rw [sSeq_eq]
  simp only [sSeq_eq, thenD_cons, sNil, sRet, sRetN, sSet, sSetN, sAsg, sIf, sFor, forD, sDrop, sApp, sExt, sPop, sPop0, sSetIx, sAug, sPar, sMove, sFreeze, sNever, sBreak, sCont, xFr, xVw, xSt, xOw, xTp, xC, xOp1, xOp2, xTup, xLst, xCons, xNil, xCall, xCB, xTst, xTru, xAndT, xOrT, xNotT, xAnd, xOr, xNot, xIf, xChain, xCut, xSome, xNo, xIsi, xLc, xSeq, xRng1, xRng2, xYes, fRng1, fRng2, fSeq, dgN, dgT, dgCons, dgNil, Env.get, Env.put, env0, slOf, wipeR, List.set, List.set_cons_zero, List.set_cons_succ, List.getD_cons_zero, List.getD_cons_succ, List.length_cons, List.length_nil, fBool, fTru, fI20, fI2, fI1, fIsi, fOwL, fInt, fListQ, List.replicate, List.append_nil, List.nil_append, List.cons_append, Bool.false_eq_true, if_false, if_true, reduceIte, Nat.reduceSub, Nat.reduceAdd, true_and, and_true, Nat.zero_add, fLe, fLt, fGe, fGt, fAddI, fSubI, fMulI, fDivI, fModI, fNeg, fIx_t0, fIx_t1, fIx_t2, fIx_t3, xLc2, xZip, fZip, xIndex, fIndex, sRaise, fMulL, fListQ, xIsE, xFld, sTry, sTry0]
  refine isR (s := scS) (d := eV [1, 0]) okS (notD_int _) isV ?_
  refine isR (s := scS) (d := eV [1, 2]) okS (notD_int _) isV ?_
  refine isR (s := scS) (d := .tuple [.int 1, .bool true]) (b := false) okS (by intro y hy; simp at hy; rcases hy with e | e <;> subst e <;> trivial) (by simp [eV]; intro v _ h; match v, h with | [], h => simp at h | [x], h => simp at h | x :: y :: r, h => simp at h) ?_
  refine isR (s := scG) (d := eV [0, 0]) okG (notD_int _) isV ?_
  refine ⟨scS, rfl, okS, ?_⟩
  simp only [fLen, sSeq_eq, thenD_cons, sNil, sRet, sRetN, sSet, sSetN, sAsg, sIf, sFor, forD, sDrop, sApp, sExt, sPop, sPop0, sSetIx, sAug, sPar, sMove, sFreeze, sNever, sBreak, sCont, xFr, xVw, xSt, xOw, xTp, xC, xOp1, xOp2, xTup, xLst, xCons, xNil, xCall, xCB, xTst, xTru, xAndT, xOrT, xNotT, xAnd, xOr, xNot, xIf, xChain, xCut, xSome, xNo, xIsi, xLc, xSeq, xRng1, xRng2, xYes, fRng1, fRng2, fSeq, dgN, dgT, dgCons, dgNil, Env.get, Env.put, env0, slOf, wipeR, List.set, List.set_cons_zero, List.set_cons_succ, List.getD_cons_zero, List.getD_cons_succ, List.length_cons, List.length_nil, fBool, fTru, fI20, fI2, fI1, fIsi, fOwL, fInt, fListQ, List.replicate, List.append_nil, List.nil_append, List.cons_append, Bool.false_eq_true, if_false, if_true, reduceIte, Nat.reduceSub, Nat.reduceAdd, true_and, and_true, Nat.zero_add, fLe, fLt, fGe, fGt, fAddI, fSubI, fMulI, fDivI, fModI, fNeg, fIx_t0, fIx_t1, fIx_t2, fIx_t3, xLc2, xZip, fZip, xIndex, fIndex, sRaise, fMulL, fListQ, xIsE, xFld, sTry, sTry0, List.length_map]
  refine ⟨scG, rfl, okG, ?_⟩
  rw [rS, rG]
  exact la5 q
theorem la2 (q : Q (.bool true)) {a : Sl} : b_law_2 [.un, .tp, a, .fr (.tuple (abF.map eF)), .un, .un, .un, .un] ⟨nx, Q, bk, ct, fun _ => Qx⟩ := by
  unfold b_law_2
  rw [sSeq_eq]
  simp only [sSeq_eq, thenD_cons, sNil, sRet, sRetN, sSet, sSetN, sAsg, sIf, sFor, forD, sDrop, sApp, sExt, sPop, sPop0, sSetIx, sAug, sPar, sMove, sFreeze, sNever, sBreak, sCont, xFr, xVw, xSt, xOw, xTp, xC, xOp1, xOp2, xTup, xLst, xCons, xNil, xCall, xCB, xTst, xTru, xAndT, xOrT, xNotT, xAnd, xOr, xNot, xIf, xChain, xCut, xSome, xNo, xIsi, xLc, xSeq, xRng1, xRng2, xYes, fRng1, fRng2, fSeq, dgN, dgT, dgCons, dgNil, Env.get, Env.put, env0, slOf, wipeR, List.set, List.set_cons_zero, List.set_cons_succ, List.getD_cons_zero, List.getD_cons_succ, List.length_cons, List.length_nil, fBool, fTru, fI20, fI2, fI1, fIsi, fOwL, fInt, fListQ, List.replicate, List.append_nil, List.nil_append, List.cons_append, Bool.false_eq_true, if_false, if_true, reduceIte, Nat.reduceSub, Nat.reduceAdd, true_and, and_true, Nat.zero_add, fLe, fLt, fGe, fGt, fAddI, fSubI, fMulI, fDivI, fModI, fNeg, fIx_t0, fIx_t1, fIx_t2, fIx_t3, xLc2, xZip, fZip, xIndex, fIndex, sRaise, fMulL, fListQ, xIsE, xFld, sTry, sTry0]
  unfold b_law_3
  rw [sSeq_eq]
  simp only [sSeq_eq, thenD_cons, sNil, sRet, sRetN, sSet, sSetN, sAsg, sIf, sFor, forD, sDrop, sApp, sExt, sPop, sPop0, sSetIx, sAug, sPar, sMove, sFreeze, sNever, sBreak, sCont, xFr, xVw, xSt, xOw, xTp, xC, xOp1, xOp2, xTup, xLst, xCons, xNil, xCall, xCB, xTst, xTru, xAndT, xOrT, xNotT, xAnd, xOr, xNot, xIf, xChain, xCut, xSome, xNo, xIsi, xLc, xSeq, xRng1, xRng2, xYes, fRng1, fRng2, fSeq, dgN, dgT, dgCons, dgNil, Env.get, Env.put, env0, slOf, wipeR, List.set, List.set_cons_zero, List.set_cons_succ, List.getD_cons_zero, List.getD_cons_succ, List.length_cons, List.length_nil, fBool, fTru, fI20, fI2, fI1, fIsi, fOwL, fInt, fListQ, List.replicate, List.append_nil, List.nil_append, List.cons_append, Bool.false_eq_true, if_false, if_true, reduceIte, Nat.reduceSub, Nat.reduceAdd, true_and, and_true, Nat.zero_add, fLe, fLt, fGe, fGt, fAddI, fSubI, fMulI, fDivI, fModI, fNeg, fIx_t0, fIx_t1, fIx_t2, fIx_t3, xLc2, xZip, fZip, xIndex, fIndex, sRaise, fMulL, fListQ, xIsE, xFld, sTry, sTry0]
  exact la4 q
theorem pure_law (q : Q (.bool true)) : b_law [.un, .tp, .un, .un, .un, .un, .un, .un] ⟨nx, Q, bk, ct, fun _ => Qx⟩ := by
  simp only [b_law, sSeq_eq, thenD_cons, sNil, sRet, sRetN, sSet, sSetN, sAsg, sIf, sFor, forD, sDrop, sApp, sExt, sPop, sPop0, sSetIx, sAug, sPar, sMove, sFreeze, sNever, sBreak, sCont, xFr, xVw, xSt, xOw, xTp, xC, xOp1, xOp2, xTup, xLst, xCons, xNil, xCall, xCB, xTst, xTru, xAndT, xOrT, xNotT, xAnd, xOr, xNot, xIf, xChain, xCut, xSome, xNo, xIsi, xLc, xSeq, xRng1, xRng2, xYes, fRng1, fRng2, fSeq, dgN, dgT, dgCons, dgNil, Env.get, Env.put, env0, slOf, wipeR, List.set, List.set_cons_zero, List.set_cons_succ, List.getD_cons_zero, List.getD_cons_succ, List.length_cons, List.length_nil, fBool, fTru, fI20, fI2, fI1, fIsi, fOwL, fInt, fListQ, List.replicate, List.append_nil, List.nil_append, List.cons_append, Bool.false_eq_true, if_false, if_true, reduceIte, Nat.reduceSub, Nat.reduceAdd, true_and, and_true, Nat.zero_add, fLe, fLt, fGe, fGt, fAddI, fSubI, fMulI, fDivI, fModI, fNeg, fIx_t0, fIx_t1, fIx_t2, fIx_t3, xLc2, xZip, fZip, xIndex, fIndex, sRaise, fMulL, fListQ, xIsE, xFld, sTry, sTry0]
  refine ⟨by decide, by decide, ?_⟩
  have er : rngD 0 (4 : Int).toNat = (List.range 4).map fun k : Nat => (.int (k : Int)) := rfl
  rw [er]
  refine forD_pre (fun k : Nat => (.int (k : Int))) (fun pre ρ => ∃ a, ρ = ([.un, .tp, a, .un, .un, .un, .un, .un] : Dt.Env)) _ (List.range 4) (List.range 4) [] _ rfl ⟨_, rfl⟩ ?_ ?_
  · rintro pre k post ρ hall ⟨a, rfl⟩ N hN
    simp only [sSeq_eq, thenD_cons, sNil, sRet, sRetN, sSet, sSetN, sAsg, sIf, sFor, forD, sDrop, sApp, sExt, sPop, sPop0, sSetIx, sAug, sPar, sMove, sFreeze, sNever, sBreak, sCont, xFr, xVw, xSt, xOw, xTp, xC, xOp1, xOp2, xTup, xLst, xCons, xNil, xCall, xCB, xTst, xTru, xAndT, xOrT, xNotT, xAnd, xOr, xNot, xIf, xChain, xCut, xSome, xNo, xIsi, xLc, xSeq, xRng1, xRng2, xYes, fRng1, fRng2, fSeq, dgN, dgT, dgCons, dgNil, Env.get, Env.put, env0, slOf, wipeR, List.set, List.set_cons_zero, List.set_cons_succ, List.getD_cons_zero, List.getD_cons_succ, List.length_cons, List.length_nil, fBool, fTru, fI20, fI2, fI1, fIsi, fOwL, fInt, fListQ, List.replicate, List.append_nil, List.nil_append, List.cons_append, Bool.false_eq_true, if_false, if_true, reduceIte, Nat.reduceSub, Nat.reduceAdd, true_and, and_true, Nat.zero_add, fLe, fLt, fGe, fGt, fAddI, fSubI, fMulI, fDivI, fModI, fNeg, fIx_t0, fIx_t1, fIx_t2, fIx_t3, xLc2, xZip, fZip, xIndex, fIndex, sRaise, fMulL, fListQ, xIsE, xFld, sTry, sTry0]
    refine ⟨(3, 3, 6), rfl, ⟨by decide, by decide, by decide⟩, ?_⟩
    rintro d ⟨s, rfl, hs⟩
    refine ⟨s, rfl, hs, ?_⟩
    simp only [sSeq_eq, thenD_cons, sNil, sRet, sRetN, sSet, sSetN, sAsg, sIf, sFor, forD, sDrop, sApp, sExt, sPop, sPop0, sSetIx, sAug, sPar, sMove, sFreeze, sNever, sBreak, sCont, xFr, xVw, xSt, xOw, xTp, xC, xOp1, xOp2, xTup, xLst, xCons, xNil, xCall, xCB, xTst, xTru, xAndT, xOrT, xNotT, xAnd, xOr, xNot, xIf, xChain, xCut, xSome, xNo, xIsi, xLc, xSeq, xRng1, xRng2, xYes, fRng1, fRng2, fSeq, dgN, dgT, dgCons, dgNil, Env.get, Env.put, env0, slOf, wipeR, List.set, List.set_cons_zero, List.set_cons_succ, List.getD_cons_zero, List.getD_cons_succ, List.length_cons, List.length_nil, fBool, fTru, fI20, fI2, fI1, fIsi, fOwL, fInt, fListQ, List.replicate, List.append_nil, List.nil_append, List.cons_append, Bool.false_eq_true, if_false, if_true, reduceIte, Nat.reduceSub, Nat.reduceAdd, true_and, and_true, Nat.zero_add, fLe, fLt, fGe, fGt, fAddI, fSubI, fMulI, fDivI, fModI, fNeg, fIx_t0, fIx_t1, fIx_t2, fIx_t3, xLc2, xZip, fZip, xIndex, fIndex, sRaise, fMulL, fListQ, xIsE, xFld, sTry, sTry0]
    exact hN _ ⟨_, rfl⟩
  · rintro ρ ⟨a, rfl⟩
    simp only [sSeq_eq, thenD_cons, sNil, sRet, sRetN, sSet, sSetN, sAsg, sIf, sFor, forD, sDrop, sApp, sExt, sPop, sPop0, sSetIx, sAug, sPar, sMove, sFreeze, sNever, sBreak, sCont, xFr, xVw, xSt, xOw, xTp, xC, xOp1, xOp2, xTup, xLst, xCons, xNil, xCall, xCB, xTst, xTru, xAndT, xOrT, xNotT, xAnd, xOr, xNot, xIf, xChain, xCut, xSome, xNo, xIsi, xLc, xSeq, xRng1, xRng2, xYes, fRng1, fRng2, fSeq, dgN, dgT, dgCons, dgNil, Env.get, Env.put, env0, slOf, wipeR, List.set, List.set_cons_zero, List.set_cons_succ, List.getD_cons_zero, List.getD_cons_succ, List.length_cons, List.length_nil, fBool, fTru, fI20, fI2, fI1, fIsi, fOwL, fInt, fListQ, List.replicate, List.append_nil, List.nil_append, List.cons_append, Bool.false_eq_true, if_false, if_true, reduceIte, Nat.reduceSub, Nat.reduceAdd, true_and, and_true, Nat.zero_add, fLe, fLt, fGe, fGt, fAddI, fSubI, fMulI, fDivI, fModI, fNeg, fIx_t0, fIx_t1, fIx_t2, fIx_t3, xLc2, xZip, fZip, xIndex, fIndex, sRaise, fMulL, fListQ, xIsE, xFld, sTry, sTry0]
    exact la2 q
end
section
variable {P : Program} {w : World} {K : PySem.W.Frag} {mg : Str → Option Value} {base : Heap} {T : Tape}
abbrev s_law : Stmt := top 35
theorem sc_law : FnScope ["script", "crock", "lap", "fields", "same", "gone", "told", "three"] ["script"] (defScope s_law) := ⟨rfl, rfl, rfl, by decide +kernel, rfl, by decide +kernel, by decide +kernel⟩
theorem rest_law (bn : Bn mg) (h__law_asked : FnD P w K mg base T "_law_asked" 7 sp_law_asked) (h__law_schema : FnD P w K mg base T "_law_schema" 3 sp_law_schema) (h_is_record : FnD P w K mg base T "is_record" 4 sp_is_record) (h_all_records : FnD P w K mg base T "all_records" 3 sp_all_records) (h__law_same : FnD P w K mg base T "_law_same" 1 sp_law_same) (h__law_least : FnD P w K mg base T "_law_least" 6 sp_law_least) (h__law_records : FnD P w K mg base T "_law_records" 1 sp_law_records) (h__law_great : FnD P w K mg base T "_law_great" 8 sp_law_great) (h__law_dip : FnD P w K mg base T "_law_dip" 1 sp_dip) (f : Addr) (cdv : Value) (A : Around) (outer : List PySem.Env) (s : Shared) (H : Hp) (E : XK) (hr : Room 8 (A.deeper (envOfC "law" (defScope s_law) s.heap.objs.size f cdv))) :
    PSsx (cxOf (L2.CX P w) P w K mg base ["script", "crock", "lap", "fields", "same", "gone", "told", "three"] "law" (defScope s_law) f cdv A outer s H E) T (fun c d _ H => E c d H) .fr ((defBody s_law).drop 1) b_law := by
  have nd := sc_law.nd
  have tk : Takes (cxOf (L2.CX P w) P w K mg base ["script", "crock", "lap", "fields", "same", "gone", "told", "three"] "law" (defScope s_law) f cdv A outer s H E) (fun c d _ H => E c d H) := takes_of rfl rfl rfl rfl
  exact (pssx_cons (psx_for (passes_of rfl) rfl (pix_range1 (m := true) (by rfl) bn.range (pax_cons (k := .vw) (PX.frVw px_int) pax_nil)) (pgx_n 2 (pg_name nd rfl (by first | exact Or.inl rfl | exact Or.inr rfl))) (pssx_one (psx_if (ptx_not (ptx_tru (PX.frVw (px_callF h__law_asked tk (hr.mono (by decide)) (by rfl) (pax_cons (k := .tp) (px_tp 1 (pv 1)) (pax_cons (k := .fr) (px_callF h__law_schema tk (hr.mono (by decide)) (by rfl) (pax_cons (k := .tp) (px_tp 1 (pv 1)) (pax_cons (k := .fr) px_int (pax_cons (k := .fr) px_int (pax_cons (k := .fr) px_int pax_nil))))) pax_nil)))))) (pssx_one (psx_ret px_bl (.inl rfl))) pssx_nil)))
  (pssx_cons (psx_set 3 nd rfl (by first | exact Or.inl rfl | exact Or.inr rfl) (px_tup (pax_cons (k := .fr) (px_tup (pax_cons (k := .fr) px_str (pax_cons (k := .fr) px_int (pax_cons (k := .fr) px_int pax_nil)))) (pax_cons (k := .fr) (px_tup (pax_cons (k := .fr) px_str (pax_cons (k := .fr) px_int (pax_cons (k := .fr) px_int pax_nil)))) pax_nil))))
  (pssx_cons (psx_set 4 nd rfl (by first | exact Or.inl rfl | exact Or.inr rfl) (px_tup (pax_cons (k := .fr) (px_fr 3 (pv 3)) (pax_cons (k := .fr) (px_tup (pax_cons (k := .fr) (px_tup (pax_cons (k := .fr) (px_tup (pax_cons (k := .fr) px_int (pax_cons (k := .fr) px_int pax_nil))) (pax_cons (k := .fr) (px_tup (pax_cons (k := .fr) px_int (pax_cons (k := .fr) px_int pax_nil))) pax_nil))) (pax_cons (k := .fr) (px_tup (pax_cons (k := .fr) (px_tup (pax_cons (k := .fr) px_int (pax_cons (k := .fr) px_int pax_nil))) (pax_cons (k := .fr) (px_tup (pax_cons (k := .fr) px_int (pax_cons (k := .fr) px_int pax_nil))) pax_nil))) pax_nil))) pax_nil))))
  (pssx_cons (psx_set 5 nd rfl (by first | exact Or.inl rfl | exact Or.inr rfl) (px_tup (pax_cons (k := .fr) (px_fr 3 (pv 3)) (pax_cons (k := .fr) (px_tup (pax_cons (k := .fr) (px_tup (pax_cons (k := .fr) (px_tup (pax_cons (k := .fr) px_int (pax_cons (k := .fr) px_int pax_nil))) (pax_cons (k := .fr) (px_tup (pax_cons (k := .fr) px_int (pax_cons (k := .fr) px_int pax_nil))) pax_nil))) pax_nil)) pax_nil))))
  (pssx_cons (psx_set 6 nd rfl (by first | exact Or.inl rfl | exact Or.inr rfl) (px_tup (pax_cons (k := .fr) (px_callF h_is_record tk (hr.mono (by decide)) (by rfl) (pax_cons (k := .fr) (px_fr 4 (pv 4)) (pax_cons (k := .fr) (px_tup (pax_cons (k := .fr) px_int (pax_cons (k := .fr) px_int pax_nil))) pax_nil))) (pax_cons (k := .fr) (px_callF h_is_record tk (hr.mono (by decide)) (by rfl) (pax_cons (k := .fr) (px_fr 4 (pv 4)) (pax_cons (k := .fr) (px_tup (pax_cons (k := .fr) px_int (pax_cons (k := .fr) px_int pax_nil))) pax_nil))) (pax_cons (k := .fr) (px_callF h_is_record tk (hr.mono (by decide)) (by rfl) (pax_cons (k := .fr) (px_fr 4 (pv 4)) (pax_cons (k := .fr) (px_tup (pax_cons (k := .fr) px_int (pax_cons (k := .fr) px_bl pax_nil))) pax_nil))) (pax_cons (k := .fr) (px_callF h_is_record tk (hr.mono (by decide)) (by rfl) (pax_cons (k := .fr) (px_fr 5 (pv 5)) (pax_cons (k := .fr) (px_tup (pax_cons (k := .fr) px_int (pax_cons (k := .fr) px_int pax_nil))) pax_nil))) (pax_cons (k := .fr) (px_b call_len rc_len (by rfl) bn.len PySem.boot_len (pax_cons (k := .vw) (PX.frVw (px_callF h_all_records tk (hr.mono (by decide)) (by rfl) (pax_cons (k := .fr) (px_fr 4 (pv 4)) pax_nil))) pax_nil)) (pax_cons (k := .fr) (px_callF h_all_records tk (hr.mono (by decide)) (by rfl) (pax_cons (k := .fr) (px_fr 5 (pv 5)) pax_nil)) pax_nil))))))))
  (pssx_cons (psx_if (ptx_not (ptx_tru (PX.frVw (px_callF h__law_same tk (hr.mono (by decide)) (by rfl) (pax_cons (k := .fr) (px_fr 6 (pv 6)) (pax_cons (k := .fr) (px_tup (pax_cons (k := .fr) px_bl (pax_cons (k := .fr) px_bl (pax_cons (k := .fr) px_bl (pax_cons (k := .fr) px_bl (pax_cons (k := .fr) px_int (pax_cons (k := .fr) (px_tup pax_nil) pax_nil))))))) pax_nil)))))) (pssx_one (psx_ret px_bl (.inl rfl))) pssx_nil)
  (pssx_cons (psx_set 6 nd rfl (by first | exact Or.inl rfl | exact Or.inr rfl) (px_tup (pax_cons (k := .fr) (px_callF h__law_least tk (hr.mono (by decide)) (by rfl) (pax_cons (k := .fr) (px_fr 4 (pv 4)) (pax_cons (k := .fr) (px_tup (pax_cons (k := .fr) (px_tup (pax_cons (k := .fr) px_int (pax_cons (k := .fr) px_int pax_nil))) pax_nil)) pax_nil))) (pax_cons (k := .fr) (px_callF h__law_least tk (hr.mono (by decide)) (by rfl) (pax_cons (k := .fr) (px_fr 4 (pv 4)) (pax_cons (k := .fr) (px_tup pax_nil) pax_nil))) (pax_cons (k := .fr) (px_callF h__law_least tk (hr.mono (by decide)) (by rfl) (pax_cons (k := .fr) (px_fr 4 (pv 4)) (pax_cons (k := .fr) (px_tup (pax_cons (k := .fr) (px_tup (pax_cons (k := .fr) px_int (pax_cons (k := .fr) px_int pax_nil))) pax_nil)) pax_nil))) (pax_cons (k := .fr) (px_callF h__law_least tk (hr.mono (by decide)) (by rfl) (pax_cons (k := .fr) (px_fr 5 (pv 5)) (pax_cons (k := .fr) (px_tup (pax_cons (k := .fr) (px_tup (pax_cons (k := .fr) px_int (pax_cons (k := .fr) px_int pax_nil))) pax_nil)) pax_nil))) (pax_cons (k := .fr) (px_callF h__law_least tk (hr.mono (by decide)) (by rfl) (pax_cons (k := .fr) (px_tup (pax_cons (k := .fr) (px_tup (pax_cons (k := .fr) (px_tup (pax_cons (k := .fr) px_str (pax_cons (k := .fr) px_int (pax_cons (k := .fr) px_int pax_nil)))) pax_nil)) (pax_cons (k := .fr) (px_tup pax_nil) pax_nil))) (pax_cons (k := .fr) (px_tup (pax_cons (k := .fr) (px_tup (pax_cons (k := .fr) px_int (pax_cons (k := .fr) px_int pax_nil))) pax_nil)) pax_nil))) pax_nil)))))))
  (pssx_cons (psx_if (ptx_not (ptx_tru (PX.frVw (px_callF h__law_same tk (hr.mono (by decide)) (by rfl) (pax_cons (k := .fr) (px_fr 6 (pv 6)) (pax_cons (k := .fr) (px_tup (pax_cons (k := .fr) (px_tup (pax_cons (k := .fr) px_str (pax_cons (k := .fr) (px_tup (pax_cons (k := .fr) px_int (pax_cons (k := .fr) px_int pax_nil))) pax_nil))) (pax_cons (k := .fr) (px_tup (pax_cons (k := .fr) px_str (pax_cons (k := .fr) (px_tup (pax_cons (k := .fr) px_int (pax_cons (k := .fr) px_int pax_nil))) pax_nil))) (pax_cons (k := .fr) (px_tup (pax_cons (k := .fr) px_str (pax_cons (k := .fr) px_str pax_nil))) (pax_cons (k := .fr) (px_tup (pax_cons (k := .fr) px_str (pax_cons (k := .fr) px_str pax_nil))) (pax_cons (k := .fr) (px_tup (pax_cons (k := .fr) px_str (pax_cons (k := .fr) px_str pax_nil))) pax_nil)))))) pax_nil)))))) (pssx_one (psx_ret px_bl (.inl rfl))) pssx_nil)
  (pssx_cons (psx_set 7 nd rfl (by first | exact Or.inl rfl | exact Or.inr rfl) (px_tup (pax_cons (k := .fr) (px_addT (px_vw 3 (pv 3)) (PX.frVw (px_tup (pax_cons (k := .fr) (px_tup (pax_cons (k := .fr) px_str (pax_cons (k := .fr) px_int (pax_cons (k := .fr) px_int pax_nil)))) pax_nil)))) (pax_cons (k := .fr) (px_tup (pax_cons (k := .fr) (px_tup (pax_cons (k := .fr) (px_tup (pax_cons (k := .fr) px_int (pax_cons (k := .fr) px_int pax_nil))) (pax_cons (k := .fr) (px_tup (pax_cons (k := .fr) px_int (pax_cons (k := .fr) px_int pax_nil))) pax_nil))) (pax_cons (k := .fr) (px_tup (pax_cons (k := .fr) (px_tup (pax_cons (k := .fr) px_int (pax_cons (k := .fr) px_int pax_nil))) (pax_cons (k := .fr) (px_tup (pax_cons (k := .fr) px_int (pax_cons (k := .fr) px_int pax_nil))) pax_nil))) (pax_cons (k := .fr) (px_tup (pax_cons (k := .fr) (px_tup (pax_cons (k := .fr) px_int (pax_cons (k := .fr) px_int pax_nil))) (pax_cons (k := .fr) (px_tup (pax_cons (k := .fr) px_int (pax_cons (k := .fr) px_int pax_nil))) pax_nil))) pax_nil)))) pax_nil))))
  (pssx_cons (psx_if (ptx_not (ptx_tru (PX.frVw (px_callF h__law_same tk (hr.mono (by decide)) (by rfl) (pax_cons (k := .fr) (px_tup (pax_cons (k := .fr) (px_callF h__law_least tk (hr.mono (by decide)) (by rfl) (pax_cons (k := .fr) (px_fr 7 (pv 7)) (pax_cons (k := .fr) (px_tup (pax_cons (k := .fr) (px_tup (pax_cons (k := .fr) px_int (pax_cons (k := .fr) px_int pax_nil))) pax_nil)) pax_nil))) (pax_cons (k := .fr) (px_callF h__law_least tk (hr.mono (by decide)) (by rfl) (pax_cons (k := .fr) (px_fr 7 (pv 7)) (pax_cons (k := .fr) (px_tup (pax_cons (k := .fr) (px_tup (pax_cons (k := .fr) px_int (pax_cons (k := .fr) px_int pax_nil))) pax_nil)) pax_nil))) (pax_cons (k := .fr) (px_callF h_all_records tk (hr.mono (by decide)) (by rfl) (pax_cons (k := .fr) (px_fr 7 (pv 7)) pax_nil)) pax_nil)))) (pax_cons (k := .fr) (px_tup (pax_cons (k := .fr) (px_tup (pax_cons (k := .fr) px_str (pax_cons (k := .fr) (px_tup (pax_cons (k := .fr) px_int (pax_cons (k := .fr) px_int (pax_cons (k := .fr) px_int pax_nil)))) pax_nil))) (pax_cons (k := .fr) (px_tup (pax_cons (k := .fr) px_str (pax_cons (k := .fr) (px_tup (pax_cons (k := .fr) px_int (pax_cons (k := .fr) px_int (pax_cons (k := .fr) px_int pax_nil)))) pax_nil))) (pax_cons (k := .fr) (px_ty call_tuple_of rc_tuple (by rfl) bn.tuple PyProof.Rows.boot_tuple (pax_cons (k := .vw) (PX.nwVw (px_callN h__law_records tk (hr.mono (by decide)) (by rfl) (pax_cons (k := .fr) (px_fr 7 (pv 7)) pax_nil))) pax_nil)) pax_nil)))) pax_nil)))))) (pssx_one (psx_ret px_bl (.inl rfl))) pssx_nil)
  (pssx_one (psx_ret (px_or (PX.frVw (px_cmp (op_notInA (hu65 hr)) (PX.frVw (px_callF h__law_dip tk (hr.mono (by decide)) (by rfl) (pax_cons (k := .tp) (px_tp 1 (pv 1)) (pax_cons (k := .fr) px_int (pax_cons (k := .fr) px_str pax_nil))))) (PX.frVw (px_tup (pax_cons (k := .fr) px_int (pax_cons (k := .fr) px_int pax_nil)))) r2_notIn (by with_unfolding_all rfl))) (px_one (px_callF h__law_great tk (hr.mono (by decide)) (by rfl) (pax_cons (k := .tp) (px_tp 1 (pv 1)) pax_nil)))) (.inl rfl)))))))))))))
end
end K07

set_option maxRecDepth 100000
set_option maxHeartbeats 4000000
namespace K07
open PySem PySem.Spec PyProof.Rows L2 Dt
def spCrock (K : PySem.W.Frag) : Sp := fun vs H Q _ => ∃ (a : Addr) (ns : List Int), vs = [.ref a] ∧ SqL K H a (ns.map V.int) ∧ ns.length ≤ 63 ∧
  ∀ (t hl dd : Addr) (c : Int) (held : List Int) (H' : Hp), (∀ b o, H b = some o → H' b = some o) → H t = none → H hl = none → H dd = none → CrockAt places H' t hl dd c held [] (fun x => x = t ∨ x = hl ∨ x = dd) → Q (.ref t) H'
section
variable {P : Program} {w : World} {K : PySem.W.Frag} {mg : Str → Option Value} {base : Heap}
abbrev s_crock : Stmt := top 23
theorem sc_crock : FnScope ["script", "churned", "held", "at", "bulk"] ["script"] (defScope s_crock) := ⟨rfl, rfl, rfl, by decide +kernel, rfl, by decide +kernel, by decide +kernel⟩
theorem ok_crock {f : Addr} {fd : FuncData} (F : Fun K "_law_crock" "_law_crock" s_crock f fd) (bn : Bn mg) : FnOk P w K mg base (L2.CX P w) 1 f fd ["script"] (spCrock K) := by
  refine F.okX sc_crock (fun vs H Q E h => ?_) (fun cdv A outer s H vs Q E hr h => ?_)
  · obtain ⟨a, ns, rfl, _⟩ := h; rfl
  have nd := sc_crock.nd
  have hu := hu_of hr
  obtain ⟨a, ns, rfl, hS, hlen, q⟩ := h
  refine ⟨_, pss_cons (ps_set (i := 1) nd rfl (Or.inl rfl) pe_int)
    (pss_cons (ps_set (i := 2) nd rfl (Or.inl rfl) (pe_lst pa_nil))
    (pss_cons (ps_for (passes_of rfl) rfl (pi_range1 (by rfl) bn.range (pa_cons (pe_callB call_len (by rfl) bn.len PySem.boot_len (pa_cons (pe_slice sl_list (pv 0) po_none (po_some pe_int)) pa_nil)) pa_nil)) (pg_name (i := 3) nd rfl (Or.inl rfl))
      (pss_cons (ps_set (i := 4) nd rfl (Or.inl rfl) (pe_op op_mod (pe_callB call_abs (by rfl) bn.abs PyProof.Rows.boot_abs (pa_cons (pe_callTy call_int1 (by rfl) bn.int PyProof.Rows.boot_int (pa_cons (pe_ix ix_list (pv 0) (pv 3) (fun _ _ => rfl)) pa_nil)) pa_nil)) (pe_op op_oneShl pe_int pe_int)))
      (pss_cons (ps_set (i := 1) nd rfl (Or.inl rfl) (pe_op op_mod (pe_callTy call_int1 (by rfl) bn.int PyProof.Rows.boot_int (pa_cons (pe_op op_add (pe_op op_add (pe_op op_add (pe_op op_mul (pv 1) pe_int) (pe_op op_mod (pv 4) pe_int)) (pe_op op_mul pe_int (pe_callTy call_int1 (by rfl) bn.int PyProof.Rows.boot_int (pa_cons (pe_cmpR op_lt (pe_callTy call_int1 (by rfl) bn.int PyProof.Rows.boot_int (pa_cons (pe_ix ix_list (pv 0) (pv 3) (fun _ _ => rfl)) pa_nil)) pe_int (nomark _)) pa_nil)))) (pv 3)) pa_nil)) pe_int))
      (pss_one (ps_if (pt_cmpR op_ge (pv 4) (pe_op op_oneShl pe_int pe_int) (nomark _)) (pss_one (ps_expr (pe_bm PySem.F.plainAttrs_list PySem.F.slot_list_append PySem.F.type_list_append mt_append (pv 2) (pa_cons (pv 4) pa_nil)))) pss_nil)))))
    (pss_one (ps_ret (pe_lst (pa_cons (pv 1) (pa_cons (pe_revL (pv 2)) (pa_cons pe_dnewK pa_nil)))))))), ?_⟩
  refine ⟨by rw [sizeLine_eq]; decide, fun hl0 hn0 => ?_⟩
  have hS0 : ∀ {H' : Hp}, (∀ b o, H b = some o → H' b = some o) → SqL K H' a (ns.map V.int) := fun {H'} k => by
    rcases hS with (h | ⟨o, h⟩) | h
    · exact .inl (.inl (k _ _ h))
    · exact .inl (.inr ⟨o, k _ _ h⟩)
    · exact .inr h
  have k0 : ∀ b o, H b = some o → (upd H hl0 (.lst [])) b = some o := fun b o e => by rw [upd_ne (ne_of_none e hn0)]; exact e
  have hcl : (cutV (ns.map V.int) none (some 47)).length ≤ ns.length := by have := cutV_length (ns.map V.int) none (some 47); rw [List.length_map] at this; exact this
  refine ⟨_, rfl, 47, rfl, a, _, rfl, hS0 k0, fun p1 hp1 => ?_⟩
  have n1 : H p1 = none := by
    cases z : H p1 with
    | none => rfl
    | some o => rw [k0 p1 o z] at hp1; cases hp1
  have h1 : hl0 ≠ p1 := fun e => by rw [← e, upd_same] at hp1; cases hp1
  refine ⟨_, _, rfl, .inl ⟨_, SqL.of upd_same, rfl⟩, _, rfl, by omega, by omega, ?_⟩
  refine for_it walk_range (fun i σ H' => ∃ (c : Int) (held : List Int) (x y : Option V), σ = [some (.ref a), some (.int c), some (.ref hl0), x, y] ∧ (∀ b o, H b = some o → H' b = some o) ∧ H' hl0 = some (.lst (held.map V.int)) ∧ (∀ h ∈ held, 0 ≤ h) ∧ held.length ≤ i ∧ 0 ≤ c)
    ⟨7013, [], none, none, rfl, fun b o e => by rw [upd_ne (ne_of_none e n1)]; exact k0 b o e, by rw [upd_ne h1, upd_same]; rfl, by simp, Nat.le_refl _, by decide⟩ (fun _ _ _ _ _ => trivial) ?_ ?_
  · rintro i x σ' H' H2 hi ⟨c, held, y1, y2, rfl, kp, hh, hnn, hlh, hc0⟩ ⟨rfl, rfl⟩
    have hi2 : i < ns.length := by
      have : ((cutV (ns.map V.int) none (some 47)).length : Int).toNat = (cutV (ns.map V.int) none (some 47)).length := by simp
      omega
    have hat : atI (ns.map V.int) (0 + (i : Int)) = some (.int (ns.getD i 0)) := by
      rw [Int.zero_add]
      exact Dt.atI_nat (by simp [hi2])
    refine ⟨_, rfl, _, rfl, a, _, _, _, rfl, rfl, hS0 kp, hat, .inl ⟨_, rfl, ?_⟩⟩
    have hl63 : held.length < 16777216 := by omega
    have hl64 : held.length + 1 ≤ i + 1 := by omega
    have p2k : (0 : Int) < 2 ^ 2000 := Int.pow_pos (by decide)
    refine ⟨_, rfl, 2000, rfl, rfl, by decide, _, _, rfl, rfl, p2k, ?_⟩
    have hb0 : 0 ≤ (if ns.getD i 0 < 0 then -ns.getD i 0 else ns.getD i 0) % (2 : Int) ^ 2000 := Int.emod_nonneg _ (Int.ne_of_gt p2k)
    refine ⟨_, rfl, _, _, rfl, rfl, .inr ⟨by decide, by decide⟩, _, rfl, _, _, rfl, rfl, (by show (0 : Int) < 1000211; decide), _, _, rfl, rfl, _, rfl, _, rfl, a, _, _, _, rfl, rfl, hS0 kp, hat, .inl ⟨_, rfl, _, _, rfl, rfl, .inr ⟨_, rfl, _, _, rfl, rfl, .inl ⟨by decide, by decide⟩, _, _, rfl, rfl, _, rfl, _, _, rfl, rfl, .inl ⟨_, rfl, _, _, rfl, rfl, (by show (0 : Int) < 2147483629; decide), ?_⟩⟩⟩⟩
    refine ⟨_, rfl, 58, rfl, rfl, by decide, _, _, rfl, rfl, _, rfl, ?_⟩
    refine ite2 (fun _ => ?_) (fun _ => ?_)
    · refine ⟨_, rfl, .inl ⟨rfl, _, SqL.of hh⟩, _, rfl, hl0, _, _, rfl, rfl, hh, by rw [List.length_map, sizeLine_eq]; exact hl63, ?_⟩
      refine ⟨_, held ++ [(if ns.getD i 0 < 0 then -ns.getD i 0 else ns.getD i 0) % (2 : Int) ^ 2000], _, _, rfl, fun b o e => ?_, ?_, fun h hh' => ?_, by rw [List.length_append]; exact hl64, Int.emod_nonneg _ (by decide)⟩
      · rw [upd_ne (ne_of_none e hn0)]; exact kp b o e
      · rw [upd_same, List.map_append]; rfl
      · rcases List.mem_append.mp hh' with z | z
        · exact hnn h z
        · rw [List.mem_singleton.mp z]; exact hb0
    · exact ⟨_, held, _, _, rfl, kp, hh, hnn, Nat.le_succ_of_le hlh, Int.emod_nonneg _ (by decide)⟩
  · rintro σ' H' ⟨c, held, y1, y2, rfl, kp, hh, hnn, hlh, hc0⟩
    have fr : ∀ {p : Addr}, H' p = none → H p = none := fun {p} e => by
      cases z : H p with
      | none => rfl
      | some o => rw [kp p o z] at e; cases e
    refine ⟨_, rfl, _, rfl, hl0, _, rfl, SqL.of hh, fun p1 hp1 p2 hp2 => ⟨by rw [sizeLine_eq]; show 3 ≤ 16777216; decide, fun p3 hp3 => ?_⟩⟩
    have n12 : p1 ≠ p2 := fun e => by rw [← e, upd_same] at hp2; cases hp2
    have hp2' : H' p2 = none := by rw [upd_ne (Ne.symm n12)] at hp2; exact hp2
    have n23 : p2 ≠ p3 := fun e => by rw [← e, upd_same] at hp3; cases hp3
    have n13 : p1 ≠ p3 := fun e => by rw [← e, upd_ne n12, upd_same] at hp3; cases hp3
    have hp3' : H' p3 = none := by rw [upd_ne (Ne.symm n23), upd_ne (Ne.symm n13)] at hp3; exact hp3
    refine q p3 p1 p2 c held.reverse _ (fun b o e => ?_) (fr hp3') (fr hp1) (fr hp2') ⟨upd_same, ?_, ?_, Ne.symm n13, Ne.symm n23, n12, by simp, by simp, fun x hx => hnn x (List.mem_reverse.mp hx), hc0, fun x => ?_⟩
    · rw [upd_ne (ne_of_none e (fr hp3')), upd_ne (ne_of_none e (fr hp2')), upd_ne (ne_of_none e (fr hp1))]; exact kp b o e
    · rw [upd_ne n13, upd_ne n12, upd_same, List.map_reverse]
    · rw [upd_ne n23, upd_same]
    · simp
end
end K07

set_option maxRecDepth 100000
set_option maxHeartbeats 4000000
namespace K07
open PySem PySem.Spec PyProof.Rows L2 Dt Dx
def spLaw (K : PySem.W.Frag) : Sp := fun vs H Q _ => ∃ (a : Addr) (ns : List Int), vs = [.ref a] ∧ SqL K H a (ns.map V.int) ∧ ns.length ≤ 63 ∧ ∀ H', Q (.bl true) H'
section
variable {P : Program} {w : World} {K : PySem.W.Frag} {mg : Str → Option Value} {base : Heap}
theorem ok_law {f fc : Addr} {fd fdc : FuncData} {k : Nat} (F : Fun K "law" "law" s_law f fd) (bn : Bn mg) (hk1 : 1 ≤ k) (Fc : FnOk P w K mg base (L2.CX P w) 1 fc fdc ["script"] (spCrock K)) (hmc : mg "_law_crock" = some (.ref fc)) (hkc : PySem.W.keepIn K (.ref fc) = true) (hbc : Binds K fdc ["script"] [])
    (rest : ∀ (cdv : Value) (A : Around) (outer : List PySem.Env) (s : Shared) (H : Hp) (E : XK), Room k (A.deeper (envOfC "law" (defScope s_law) s.heap.objs.size f cdv)) →
      PSsx (cxOf (L2.CX P w) P w K mg base ["script", "crock", "lap", "fields", "same", "gone", "told", "three"] "law" (defScope s_law) f cdv A outer s H E) (crockT places) (fun c d _ H => E c d H) .fr ((defBody s_law).drop 1) b_law) :
    FnOk P w K mg base (L2.CX P w) (k + 1) f fd ["script"] (spLaw K) := by
  refine F.okX sc_law (fun vs H Q E h => ?_) (fun cdv A outer s H vs Q E hr h => ?_)
  · obtain ⟨a, ns, rfl, _⟩ := h; rfl
  have nd := sc_law.nd
  obtain ⟨a, ns, rfl, hS, hlen, q⟩ := h
  have tk : Takes (cxOf (L2.CX P w) P w K mg base ["script", "crock", "lap", "fields", "same", "gone", "told", "three"] "law" (defScope s_law) f cdv A outer s H E) (fun c d _ H => E c d H) := takes_of rfl rfl rfl rfl
  obtain ⟨tr, htr, sem⟩ := (rest cdv A outer s H E hr).ex
  refine ⟨_, pss_cons (ps_set (i := 1) nd rfl (Or.inl rfl) (pe_callS Fc (hr.mono hk1) (by rfl) hmc hkc hbc (fun σ => passAt tk σ) (pa_cons (pv 0) pa_nil))) htr, ?_⟩
  refine ⟨_, rfl, a, ns, rfl, hS, hlen, fun t hl dd c held H' kp n1 n2 n3 C => ?_⟩
  have R : Rel K (crockT places) ⟨H', fun _ => none, fun x => x = t ∨ x = hl ∨ x = dd⟩ (fun _ => none) H' (fun x => x = t ∨ x = hl ∨ x = dd) [some (.ref a), some (.ref t), none, none, none, none, none, none] [.un, .tp, .un, .un, .un, .un, .un, .un] := by
    refine ⟨fun x o e => (by cases e), Ex.refl _, fun x e => absurd rfl e, fun x o e _ => e, fun x e => e, fun x e => .inl e, fun x e => rfl, fun x e => C.there e, fun t' e => e, rfl, fun i sl e => ?_, fun i j x d1 d2 e1 _ _ _ => ?_⟩
    · match i, e with
      | 0, e => simp at e; subst e; trivial
      | 1, e => simp at e; subst e; exact ⟨t, rfl, hl, dd, c, held, [], C⟩
      | 2, e => simp at e; subst e; trivial
      | 3, e => simp at e; subst e; trivial
      | 4, e => simp at e; subst e; trivial
      | 5, e => simp at e; subst e; trivial
      | 6, e => simp at e; subst e; trivial
      | 7, e => simp at e; subst e; trivial
      | n + 8, e => simp at e
    · match i, e1 with
      | 0, e => simp at e
      | 1, e => simp at e
      | 2, e => simp at e
      | 3, e => simp at e
      | 4, e => simp at e
      | 5, e => simp at e
      | 6, e => simp at e
      | 7, e => simp at e
      | n + 8, e => simp at e
  refine sem _ _ _ _ _ _ ⟨fun _ => False, fun d => d = .bool true, fun _ => False, fun _ => False, fun _ _ => False⟩ _ R (pure_law (Q := fun d => d = .bool true) (Qx := fun _ => False) rfl) ⟨fun _ _ _ _ _ _ z => z.elim, fun v d F2 H2 P2 σ2 ρ2 R2 r2 z => ?_, fun _ _ _ _ _ _ z => z.elim, fun _ _ _ _ _ _ z => z.elim, fun _ _ _ _ _ _ _ _ _ _ z => z.elim⟩
  subst z
  cases (show Dp K F2 v (.bool true) from r2)
  exact q _
end
end K07

set_option maxRecDepth 100000
set_option maxHeartbeats 4000000
namespace K07
open PySem PySem.Spec PyProof.Rows L2 Dt Dx NdefX
abbrev s_xinit : Stmt := inClass (top 3) 0
theorem sc_xinit : NScope ["self", "word", "__class__"] ["self", "word"] ["__class__"] (defScope s_xinit) := nscope_by (by decide +kernel)
theorem xcls {P : Program} {w : World} {K : PySem.W.Frag} {mg : Str → Option Value} {base : Heap} {C fI cc cda : Addr} {oc cl ccl kV doc pm ct : Value} {od cld cdd an : Option Addr} {osl csl ccs : Array (Option Value)} {cvs : Array Value} {file : Str} {tf : Tok} {cdD : ClassData}
    (hm : mg "BadStep" = some (.ref C)) (hsu : mg "super" = none) (XF : XFacts K C C ["word"]) (hI : PySem.W.findIn K (.ref C) "__init__" = some (some (.ref fI))) (tI : PySem.W.typeIn K (.ref fI) = some (.type "function"))
    (lk : K.lookup fI = some ⟨oc, od, .func (PySem.W.fnX "__init__" "BadStep.__init__" (defArgs s_xinit) (defBody s_xinit) (defScope s_xinit) [("__class__", cc)] .none kV doc pm an (.ref cda) ct), osl⟩) (hcd : PySem.W.codeIn K (.ref cda) "BadStep.__init__" = true)
    (lcell : K.lookup cc = some ⟨cl, cld, .cell (some (.ref C)), csl⟩) (lcode : K.lookup cda = some ⟨ccl, cdd, .fields cvs, ccs⟩) (hvs : cvs[2]? = some (.str file tf)) (hfile : ((P.main.file : Str) == file) = true)
    (htop : (P.main.scope.names.lookup ("super" : Str)).isSome = false) (hD : PySem.W.clsIn K C = some cdD) (hany : PySem.W.nsIn K PySem.cStatics "thirdparty.any" = some none) : XCls P w K mg base "BadStep" ["word"] := by
  refine ⟨C, fI, _, ["self", "word"], hm, XF.oex, hI, tI, xinit (ar := ⟨"self", none, ⟨8, 17, 8, 21⟩⟩) (ps' := ["word"]) lk hcd lcell lcode hvs hfile sc_xinit rfl hsu htop rfl rfl (fun _ => rfl) (fun _ => rfl) (fun _ => rfl) (fun _ => rfl) hD hany rfl ?_ ?_, .all ?_⟩
  · rintro vs H Q E ⟨a, ws, rfl, l, _⟩
    simp at l ⊢
    exact l
  · intro A outer s H vs Q E hr h
    refine xb1 (X := ncx CX0 P w K mg base ["self", "word", "__class__"] (xnf "__init__" "BadStep.__init__" (defArgs s_xinit) (defBody s_xinit) (defScope s_xinit) cc cda) fI A outer s H E) XF h ?_ ?_
    · exact pa_cons (pv 1) pa_nil
    · exact pss_one (ps_ost (pv 0) (pv 1))
  · intro us hl
    match us, hl with
    | [_, _], _ => rfl
theorem all_mk {l : PySem.W.OpenLaw} {w : World} {K : PySem.W.Frag} {h : Heap} {mg : Str → Option Value} {fa : Addr} (X : K.In h) (G : h.Ns mainGlobals mg) (hfa : mg "law" = some (.ref fa))
    {f0 f1 f2 f3 f4 f5 f6 f7 f8 f9 f10 f11 f12 f13 f14 f15 f16 f17 f18 f19 f20 f21 f22 f23 f24 f25 f26 CB CS CL fI cc cda N : Addr} {od0 an0 od1 an1 od2 an2 od3 an3 od4 an4 od5 an5 od6 an6 od7 an7 od8 an8 od9 an9 od10 an10 od11 an11 od12 an12 od13 an13 od14 an14 od15 an15 od16 an16 od17 an17 od18 an18 od19 an19 od20 an20 od21 an21 od22 an22 od23 an23 od24 an24 od25 an25 od26 an26 odI anI ccd ccdd dd : Option Addr} {sl0 sl1 sl2 sl3 sl4 sl5 sl6 sl7 sl8 sl9 sl10 sl11 sl12 sl13 sl14 sl15 sl16 sl17 sl18 sl19 sl20 sl21 sl22 sl23 sl24 sl25 sl26 slI ccsl ccds : Array (Option Value)} {oc0 kV0 dc0 pm0 cd0 ct0 oc1 kV1 dc1 pm1 cd1 ct1 oc2 kV2 dc2 pm2 cd2 ct2 oc3 kV3 dc3 pm3 cd3 ct3 oc4 kV4 dc4 pm4 cd4 ct4 oc5 kV5 dc5 pm5 cd5 ct5 oc6 kV6 dc6 pm6 cd6 ct6 oc7 kV7 dc7 pm7 cd7 ct7 oc8 kV8 dc8 pm8 cd8 ct8 oc9 kV9 dc9 pm9 cd9 ct9 oc10 kV10 dc10 pm10 cd10 ct10 oc11 kV11 dc11 pm11 cd11 ct11 oc12 kV12 dc12 pm12 cd12 ct12 oc13 kV13 dc13 pm13 cd13 ct13 oc14 kV14 dc14 pm14 cd14 ct14 oc15 kV15 dc15 pm15 cd15 ct15 oc16 kV16 dc16 pm16 cd16 ct16 oc17 kV17 dc17 pm17 cd17 ct17 oc18 kV18 dc18 pm18 cd18 ct18 oc19 kV19 dc19 pm19 cd19 ct19 oc20 kV20 dc20 pm20 cd20 ct20 oc21 kV21 dc21 pm21 cd21 ct21 oc22 kV22 dc22 pm22 cd22 ct22 oc23 kV23 dc23 pm23 cd23 ct23 oc24 kV24 dc24 pm24 cd24 ct24 oc25 kV25 dc25 pm25 cd25 ct25 oc26 kV26 dc26 pm26 cd26 ct26 ocI kVI dcI pmI ctI ccl ccdl : Value} {cvs : Array Value} {file nm q : Str} {tf : Tok} {cdD : ClassData} {bs bm : List Value} {sn : List Str} {sub : List Value} {ab : Bool} {col : Option Bool} {m0 m1 m2 m3 m5 : Option Value}
    (a0 : PySem.W.nsIn K mainGlobals "is_integer" = some (some (.ref f0)))
    (l0 : K.lookup f0 = some ⟨oc0, od0, .func (PySem.W.fnOf "is_integer" "is_integer" (defArgs s_is_integer) (defBody s_is_integer) (defScope s_is_integer) .none kV0 dc0 pm0 an0 cd0 ct0), sl0⟩)
    (c0 : PySem.W.codeIn K cd0 "is_integer" = true)
    (k0 : PySem.W.keepIn K (.ref f0) = true)
    (a1 : PySem.W.nsIn K mainGlobals "integer_within" = some (some (.ref f1)))
    (l1 : K.lookup f1 = some ⟨oc1, od1, .func (PySem.W.fnOf "integer_within" "integer_within" (defArgs s_integer_within) (defBody s_integer_within) (defScope s_integer_within) .none kV1 dc1 pm1 an1 cd1 ct1), sl1⟩)
    (c1 : PySem.W.codeIn K cd1 "integer_within" = true)
    (k1 : PySem.W.keepIn K (.ref f1) = true)
    (a2 : PySem.W.nsIn K mainGlobals "tuple_of" = some (some (.ref f2)))
    (l2 : K.lookup f2 = some ⟨oc2, od2, .func (PySem.W.fnOf "tuple_of" "tuple_of" (defArgs s_tuple_of) (defBody s_tuple_of) (defScope s_tuple_of) .none kV2 dc2 pm2 an2 cd2 ct2), sl2⟩)
    (c2 : PySem.W.codeIn K cd2 "tuple_of" = true)
    (k2 : PySem.W.keepIn K (.ref f2) = true)
    (a3 : PySem.W.nsIn K mainGlobals "lows_of" = some (some (.ref f3)))
    (l3 : K.lookup f3 = some ⟨oc3, od3, .func (PySem.W.fnOf "lows_of" "lows_of" (defArgs s_lows_of) (defBody s_lows_of) (defScope s_lows_of) .none kV3 dc3 pm3 an3 cd3 ct3), sl3⟩)
    (c3 : PySem.W.codeIn K cd3 "lows_of" = true)
    (k3 : PySem.W.keepIn K (.ref f3) = true)
    (a4 : PySem.W.nsIn K mainGlobals "keeps" = some (some (.ref f4)))
    (l4 : K.lookup f4 = some ⟨oc4, od4, .func (PySem.W.fnOf "keeps" "keeps" (defArgs s_keeps) (defBody s_keeps) (defScope s_keeps) .none kV4 dc4 pm4 an4 cd4 ct4), sl4⟩)
    (c4 : PySem.W.codeIn K cd4 "keeps" = true)
    (k4 : PySem.W.keepIn K (.ref f4) = true)
    (a5 : PySem.W.nsIn K mainGlobals "are_answers" = some (some (.ref f5)))
    (l5 : K.lookup f5 = some ⟨oc5, od5, .func (PySem.W.fnOf "are_answers" "are_answers" (defArgs s_are_answers) (defBody s_are_answers) (defScope s_are_answers) .none kV5 dc5 pm5 an5 cd5 ct5), sl5⟩)
    (c5 : PySem.W.codeIn K cd5 "are_answers" = true)
    (k5 : PySem.W.keepIn K (.ref f5) = true)
    (a6 : PySem.W.nsIn K mainGlobals "goes_beyond" = some (some (.ref f6)))
    (l6 : K.lookup f6 = some ⟨oc6, od6, .func (PySem.W.fnOf "goes_beyond" "goes_beyond" (defArgs s_goes_beyond) (defBody s_goes_beyond) (defScope s_goes_beyond) .none kV6 dc6 pm6 an6 cd6 ct6), sl6⟩)
    (c6 : PySem.W.codeIn K cd6 "goes_beyond" = true)
    (k6 : PySem.W.keepIn K (.ref f6) = true)
    (a7 : PySem.W.nsIn K mainGlobals "keeps_ladders" = some (some (.ref f7)))
    (l7 : K.lookup f7 = some ⟨oc7, od7, .func (PySem.W.fnOf "keeps_ladders" "keeps_ladders" (defArgs s_keeps_ladders) (defBody s_keeps_ladders) (defScope s_keeps_ladders) .none kV7 dc7 pm7 an7 cd7 ct7), sl7⟩)
    (c7 : PySem.W.codeIn K cd7 "keeps_ladders" = true)
    (k7 : PySem.W.keepIn K (.ref f7) = true)
    (a8 : PySem.W.nsIn K mainGlobals "led_answers" = some (some (.ref f8)))
    (l8 : K.lookup f8 = some ⟨oc8, od8, .func (PySem.W.fnOf "led_answers" "led_answers" (defArgs s_led_answers) (defBody s_led_answers) (defScope s_led_answers) .none kV8 dc8 pm8 an8 cd8 ct8), sl8⟩)
    (c8 : PySem.W.codeIn K cd8 "led_answers" = true)
    (k8 : PySem.W.keepIn K (.ref f8) = true)
    (a9 : PySem.W.nsIn K mainGlobals "is_void" = some (some (.ref f9)))
    (l9 : K.lookup f9 = some ⟨oc9, od9, .func (PySem.W.fnOf "is_void" "is_void" (defArgs s_is_void) (defBody s_is_void) (defScope s_is_void) .none kV9 dc9 pm9 an9 cd9 ct9), sl9⟩)
    (c9 : PySem.W.codeIn K cd9 "is_void" = true)
    (k9 : PySem.W.keepIn K (.ref f9) = true)
    (a10 : PySem.W.nsIn K mainGlobals "need_records" = some (some (.ref f10)))
    (l10 : K.lookup f10 = some ⟨oc10, od10, .func (PySem.W.fnOf "need_records" "need_records" (defArgs s_need_records) (defBody s_need_records) (defScope s_need_records) .none kV10 dc10 pm10 an10 cd10 ct10), sl10⟩)
    (c10 : PySem.W.codeIn K cd10 "need_records" = true)
    (k10 : PySem.W.keepIn K (.ref f10) = true)
    (a11 : PySem.W.nsIn K mainGlobals "is_record" = some (some (.ref f11)))
    (l11 : K.lookup f11 = some ⟨oc11, od11, .func (PySem.W.fnOf "is_record" "is_record" (defArgs s_is_record) (defBody s_is_record) (defScope s_is_record) .none kV11 dc11 pm11 an11 cd11 ct11), sl11⟩)
    (c11 : PySem.W.codeIn K cd11 "is_record" = true)
    (k11 : PySem.W.keepIn K (.ref f11) = true)
    (a12 : PySem.W.nsIn K mainGlobals "least_record" = some (some (.ref f12)))
    (l12 : K.lookup f12 = some ⟨oc12, od12, .func (PySem.W.fnOf "least_record" "least_record" (defArgs s_least_record) (defBody s_least_record) (defScope s_least_record) .none kV12 dc12 pm12 an12 cd12 ct12), sl12⟩)
    (c12 : PySem.W.codeIn K cd12 "least_record" = true)
    (k12 : PySem.W.keepIn K (.ref f12) = true)
    (a13 : PySem.W.nsIn K mainGlobals "all_records" = some (some (.ref f13)))
    (l13 : K.lookup f13 = some ⟨oc13, od13, .func (PySem.W.fnOf "all_records" "all_records" (defArgs s_all_records) (defBody s_all_records) (defScope s_all_records) .none kV13 dc13 pm13 an13 cd13 ct13), sl13⟩)
    (c13 : PySem.W.codeIn K cd13 "all_records" = true)
    (k13 : PySem.W.keepIn K (.ref f13) = true)
    (a14 : PySem.W.nsIn K mainGlobals "_law_dip" = some (some (.ref f14)))
    (l14 : K.lookup f14 = some ⟨oc14, od14, .func (PySem.W.fnOf "_law_dip" "_law_dip" (defArgs s_dip) (defBody s_dip) (defScope s_dip) .none kV14 dc14 pm14 an14 cd14 ct14), sl14⟩)
    (c14 : PySem.W.codeIn K cd14 "_law_dip" = true)
    (k14 : PySem.W.keepIn K (.ref f14) = true)
    (a15 : PySem.W.nsIn K mainGlobals "_law_records" = some (some (.ref f15)))
    (l15 : K.lookup f15 = some ⟨oc15, od15, .func (PySem.W.fnOf "_law_records" "_law_records" (defArgs s__law_records) (defBody s__law_records) (defScope s__law_records) .none kV15 dc15 pm15 an15 cd15 ct15), sl15⟩)
    (c15 : PySem.W.codeIn K cd15 "_law_records" = true)
    (k15 : PySem.W.keepIn K (.ref f15) = true)
    (a16 : PySem.W.nsIn K mainGlobals "_law_least" = some (some (.ref f16)))
    (l16 : K.lookup f16 = some ⟨oc16, od16, .func (PySem.W.fnOf "_law_least" "_law_least" (defArgs s__law_least) (defBody s__law_least) (defScope s__law_least) .none kV16 dc16 pm16 an16 cd16 ct16), sl16⟩)
    (c16 : PySem.W.codeIn K cd16 "_law_least" = true)
    (k16 : PySem.W.keepIn K (.ref f16) = true)
    (a17 : PySem.W.nsIn K mainGlobals "_law_is_record" = some (some (.ref f17)))
    (l17 : K.lookup f17 = some ⟨oc17, od17, .func (PySem.W.fnOf "_law_is_record" "_law_is_record" (defArgs s__law_is_record) (defBody s__law_is_record) (defScope s__law_is_record) .none kV17 dc17 pm17 an17 cd17 ct17), sl17⟩)
    (c17 : PySem.W.codeIn K cd17 "_law_is_record" = true)
    (k17 : PySem.W.keepIn K (.ref f17) = true)
    (a18 : PySem.W.nsIn K mainGlobals "_law_due" = some (some (.ref f18)))
    (l18 : K.lookup f18 = some ⟨oc18, od18, .func (PySem.W.fnOf "_law_due" "_law_due" (defArgs s__law_due) (defBody s__law_due) (defScope s__law_due) .none kV18 dc18 pm18 an18 cd18 ct18), sl18⟩)
    (c18 : PySem.W.codeIn K cd18 "_law_due" = true)
    (k18 : PySem.W.keepIn K (.ref f18) = true)
    (a19 : PySem.W.nsIn K mainGlobals "_law_same" = some (some (.ref f19)))
    (l19 : K.lookup f19 = some ⟨oc19, od19, .func (PySem.W.fnOf "_law_same" "_law_same" (defArgs s__law_same) (defBody s__law_same) (defScope s__law_same) .none kV19 dc19 pm19 an19 cd19 ct19), sl19⟩)
    (c19 : PySem.W.codeIn K cd19 "_law_same" = true)
    (k19 : PySem.W.keepIn K (.ref f19) = true)
    (a20 : PySem.W.nsIn K mainGlobals "_law_names" = some (some (.ref f20)))
    (l20 : K.lookup f20 = some ⟨oc20, od20, .func (PySem.W.fnOf "_law_names" "_law_names" (defArgs s__law_names) (defBody s__law_names) (defScope s__law_names) .none kV20 dc20 pm20 an20 cd20 ct20), sl20⟩)
    (c20 : PySem.W.codeIn K cd20 "_law_names" = true)
    (k20 : PySem.W.keepIn K (.ref f20) = true)
    (a21 : PySem.W.nsIn K mainGlobals "_law_schema" = some (some (.ref f21)))
    (l21 : K.lookup f21 = some ⟨oc21, od21, .func (PySem.W.fnOf "_law_schema" "_law_schema" (defArgs s__law_schema) (defBody s__law_schema) (defScope s__law_schema) .none kV21 dc21 pm21 an21 cd21 ct21), sl21⟩)
    (c21 : PySem.W.codeIn K cd21 "_law_schema" = true)
    (k21 : PySem.W.keepIn K (.ref f21) = true)
    (a22 : PySem.W.nsIn K mainGlobals "_law_thing" = some (some (.ref f22)))
    (l22 : K.lookup f22 = some ⟨oc22, od22, .func (PySem.W.fnOf "_law_thing" "_law_thing" (defArgs s__law_thing) (defBody s__law_thing) (defScope s__law_thing) .none kV22 dc22 pm22 an22 cd22 ct22), sl22⟩)
    (c22 : PySem.W.codeIn K cd22 "_law_thing" = true)
    (k22 : PySem.W.keepIn K (.ref f22) = true)
    (a23 : PySem.W.nsIn K mainGlobals "_law_asked" = some (some (.ref f23)))
    (l23 : K.lookup f23 = some ⟨oc23, od23, .func (PySem.W.fnOf "_law_asked" "_law_asked" (defArgs s__law_asked) (defBody s__law_asked) (defScope s__law_asked) .none kV23 dc23 pm23 an23 cd23 ct23), sl23⟩)
    (c23 : PySem.W.codeIn K cd23 "_law_asked" = true)
    (k23 : PySem.W.keepIn K (.ref f23) = true)
    (a24 : PySem.W.nsIn K mainGlobals "_law_great" = some (some (.ref f24)))
    (l24 : K.lookup f24 = some ⟨oc24, od24, .func (PySem.W.fnOf "_law_great" "_law_great" (defArgs s__law_great) (defBody s__law_great) (defScope s__law_great) .none kV24 dc24 pm24 an24 cd24 ct24), sl24⟩)
    (c24 : PySem.W.codeIn K cd24 "_law_great" = true)
    (k24 : PySem.W.keepIn K (.ref f24) = true)
    (a25 : PySem.W.nsIn K mainGlobals "_law_crock" = some (some (.ref f25)))
    (l25 : K.lookup f25 = some ⟨oc25, od25, .func (PySem.W.fnOf "_law_crock" "_law_crock" (defArgs s_crock) (defBody s_crock) (defScope s_crock) .none kV25 dc25 pm25 an25 cd25 ct25), sl25⟩)
    (c25 : PySem.W.codeIn K cd25 "_law_crock" = true)
    (k25 : PySem.W.keepIn K (.ref f25) = true)
    (a26 : PySem.W.nsIn K mainGlobals "law" = some (some (.ref f26)))
    (l26 : K.lookup f26 = some ⟨oc26, od26, .func (PySem.W.fnOf "law" "law" (defArgs s_law) (defBody s_law) (defScope s_law) .none kV26 dc26 pm26 an26 cd26 ct26), sl26⟩)
    (c26 : PySem.W.codeIn K cd26 "law" = true)
    (k26 : PySem.W.keepIn K (.ref f26) = true)
    (n_len : PySem.W.nsIn K mainGlobals "len" = some none)
    (n_tuple : PySem.W.nsIn K mainGlobals "tuple" = some none)
    (n_list : PySem.W.nsIn K mainGlobals "list" = some none)
    (n_int : PySem.W.nsIn K mainGlobals "int" = some none)
    (n_bool : PySem.W.nsIn K mainGlobals "bool" = some none)
    (n_str : PySem.W.nsIn K mainGlobals "str" = some none)
    (n_abs : PySem.W.nsIn K mainGlobals "abs" = some none)
    (n_any : PySem.W.nsIn K mainGlobals "any" = some none)
    (n_all : PySem.W.nsIn K mainGlobals "all" = some none)
    (n_sum : PySem.W.nsIn K mainGlobals "sum" = some none)
    (n_max : PySem.W.nsIn K mainGlobals "max" = some none)
    (n_min : PySem.W.nsIn K mainGlobals "min" = some none)
    (n_range : PySem.W.nsIn K mainGlobals "range" = some none)
    (n_zip : PySem.W.nsIn K mainGlobals "zip" = some none)
    (n_enumerate : PySem.W.nsIn K mainGlobals "enumerate" = some none)
    (n_isinstance : PySem.W.nsIn K mainGlobals "isinstance" = some none)
    (n_sorted : PySem.W.nsIn K mainGlobals "sorted" = some none)
    (n_set : PySem.W.nsIn K mainGlobals "set" = some none)
    (n_super : PySem.W.nsIn K mainGlobals "super" = some none)
    (aB : PySem.W.nsIn K mainGlobals "BadStep" = some (some (.ref CB)))
    (aS : PySem.W.nsIn K mainGlobals "StoreError" = some (some (.ref CS)))
    (aL : PySem.W.nsIn K mainGlobals "CallError" = some (some (.ref CL)))
    (xL : K.lookup CB = some (excClassObj nm q CB N bs bm true sn sub ab col dd m0 m1 m2 m3 m5 "ValueError.__new__"))
    (xR : PySem.HandSPX.refsVE bm = true)
    (xsa : PySem.W.findIn K (.ref CB) "__setattr__" = some (some (.builtin "object.__setattr__")))
    (xex : PySem.W.subIn K (.ref CB) (.type "BaseException") = some true)
    (xty : PySem.W.typeIn K (.ref CB) = some (.type "type"))
    (xkC : PySem.W.keepIn K (.ref CB) = true)
    (xmr : PySem.W.mroIn K CB (.ref CB) = some true)
    (xsu : PySem.W.ks_superIn K CB CB "__init__" = some (some (.builtin "ValueError.__init__")))
    (xve : PySem.W.subIn K (.ref CB) (.type "ValueError") = some true)
    (xno : PySem.W.findIn K (.ref CB) "word" = some none)
    (iI : PySem.W.findIn K (.ref CB) "__init__" = some (some (.ref fI)))
    (iT : PySem.W.typeIn K (.ref fI) = some (.type "function"))
    (iL : K.lookup fI = some ⟨ocI, odI, .func (PySem.W.fnX "__init__" "BadStep.__init__" (defArgs s_xinit) (defBody s_xinit) (defScope s_xinit) [("__class__", cc)] .none kVI dcI pmI anI (.ref cda) ctI), slI⟩)
    (iC : PySem.W.codeIn K (.ref cda) "BadStep.__init__" = true)
    (iE : K.lookup cc = some ⟨ccl, ccd, .cell (some (.ref CB)), ccsl⟩)
    (iO : K.lookup cda = some ⟨ccdl, ccdd, .fields cvs, ccds⟩)
    (iV : cvs[2]? = some (.str file tf))
    (iF : ((l.prog.main.file : Str) == file) = true)
    (iN : (l.prog.main.scope.names.lookup ("super" : Str)).isSome = false)
    (iD : PySem.W.clsIn K CB = some cdD)
    (iA : PySem.W.nsIn K PySem.cStatics "thirdparty.any" = some none)
    (emB : PySem.W.exmOne K (.ref CB) (.ref CB) = some true)
    (kiB : PySem.W.kitOne K (.ref CB) (.ref CB) = some true)
    (emS : PySem.W.exmOne K (.ref CB) (.ref CS) = some true)
    (kiS : PySem.W.kitOne K (.ref CB) (.ref CS) = some true)
    (emL : PySem.W.exmOne K (.ref CB) (.ref CL) = some true)
    (kiL : PySem.W.kitOne K (.ref CB) (.ref CL) = some true)
    (xga : PySem.W.findIn K (.ref CB) "__getattribute__" = some (some (.builtin "BaseException.__getattribute__")))
    (xgg : PySem.W.findIn K (.ref CB) "__getattr__" = some none)
    (xhd : PySem.W.hasDictIn K CB = true)
    (xha : PySem.W.findIn K (.ref CB) "__class__" = some (some (.builtin "object.__class__")))
    (xhn : PySem.W.specialIn K (.builtin "object.__class__") "__get__" = some (some (.builtin "getset_descriptor.__get__")))
    (xht : PySem.W.takesIn K (.builtin "object.__class__") = some true)
    (xhm : PySem.W.mroIn K CB (.type "object") = some true) :
    ∃ fd : FuncData, (∀ (s : Shared) (v : Value), BindsTo s fd ⟨[v], []⟩ [("script", v)]) ∧ ∀ base : Heap, K.In base → base.Ns mainGlobals mg → FnOk l.prog w K mg base (L2.CX l.prog w) 9 fa fd ["script"] (spLaw K) := by
  have e := hfa.symm.trans (PySem.W.mg_of X G a26)
  cases e
  have bn : Bn mg := ⟨PySem.W.mg_none_of X G n_len, PySem.W.mg_none_of X G n_tuple, PySem.W.mg_none_of X G n_list, PySem.W.mg_none_of X G n_int, PySem.W.mg_none_of X G n_bool, PySem.W.mg_none_of X G n_str, PySem.W.mg_none_of X G n_abs, PySem.W.mg_none_of X G n_any, PySem.W.mg_none_of X G n_all, PySem.W.mg_none_of X G n_sum, PySem.W.mg_none_of X G n_max, PySem.W.mg_none_of X G n_min, PySem.W.mg_none_of X G n_range, PySem.W.mg_none_of X G n_zip, PySem.W.mg_none_of X G n_enumerate, PySem.W.mg_none_of X G n_isinstance, PySem.W.mg_none_of X G n_sorted, PySem.W.mg_none_of X G n_set⟩
  have XF : XFacts K CB CB ["word"] := ⟨⟨⟨nm, q, N, bs, bm, sn, sub, ab, col, dd, m0, m1, m2, m3, m5, xL, xR⟩, xsa, xex, xty, xkC⟩, xmr, xsu, xve, fun f hf => by
    obtain rfl := List.mem_singleton.mp hf
    exact xno⟩
  have hB := PySem.W.mg_of X G aB
  have hS := PySem.W.mg_of X G aS
  have hL := PySem.W.mg_of X G aL
  have tb : XTab K mg xnames xflds xtgts xsub := by
    refine ⟨fun t ht => ?_, fun x hx t ht C D hC hD => ?_, fun x hx t ht C D hC hD => ?_, fun x hx C hC => ?_⟩
    · simp only [xtgts, List.mem_cons, List.not_mem_nil, or_false] at ht
      rcases ht with rfl | rfl | rfl
      · exact ⟨_, hS⟩
      · exact ⟨_, hB⟩
      · exact ⟨_, hL⟩
    · simp only [xtgts, List.mem_cons, List.not_mem_nil, or_false] at ht
      obtain rfl := List.mem_singleton.mp hx
      cases hB.symm.trans hC
      rcases ht with rfl | rfl | rfl
      · cases hS.symm.trans hD; exact emS
      · cases hB.symm.trans hD; exact emB
      · cases hL.symm.trans hD; exact emL
    · simp only [xtgts, List.mem_cons, List.not_mem_nil, or_false] at ht
      obtain rfl := List.mem_singleton.mp hx
      cases hB.symm.trans hC
      rcases ht with rfl | rfl | rfl
      · cases hS.symm.trans hD; exact kiS
      · cases hB.symm.trans hD; exact kiB
      · cases hL.symm.trans hD; exact kiL
    · obtain rfl := List.mem_singleton.mp hx
      cases hB.symm.trans hC
      refine ⟨⟨xga, xgg, xex, xhd⟩, ⟨xga, xgg, xex, xhd, xha, xhn, xht, xhm⟩, fun f hf => ?_⟩
      obtain rfl := List.mem_singleton.mp hf
      exact xno
  have F0 := fun_mk (st := s_is_integer) l0 c0 k0
  have b0 := F0.binds (ps := ["thing"]) fun _ _ _ _ _ _ us hl => match us, hl with | [_], _ => rfl
  have F1 := fun_mk (st := s_integer_within) l1 c1 k1
  have b1 := F1.binds (ps := ["thing", "low", "high"]) fun _ _ _ _ _ _ us hl => match us, hl with | [_, _, _], _ => rfl
  have F2 := fun_mk (st := s_tuple_of) l2 c2 k2
  have b2 := F2.binds (ps := ["thing", "many"]) fun _ _ _ _ _ _ us hl => match us, hl with | [_, _], _ => rfl
  have F3 := fun_mk (st := s_lows_of) l3 c3 k3
  have b3 := F3.binds (ps := ["fields"]) fun _ _ _ _ _ _ us hl => match us, hl with | [_], _ => rfl
  have F4 := fun_mk (st := s_keeps) l4 c4 k4
  have b4 := F4.binds (ps := ["answers", "demand"]) fun _ _ _ _ _ _ us hl => match us, hl with | [_, _], _ => rfl
  have F5 := fun_mk (st := s_are_answers) l5 c5 k5
  have b5 := F5.binds (ps := ["fields", "thing"]) fun _ _ _ _ _ _ us hl => match us, hl with | [_, _], _ => rfl
  have F6 := fun_mk (st := s_goes_beyond) l6 c6 k6
  have b6 := F6.binds (ps := ["schema", "answers"]) fun _ _ _ _ _ _ us hl => match us, hl with | [_, _], _ => rfl
  have F7 := fun_mk (st := s_keeps_ladders) l7 c7 k7
  have b7 := F7.binds (ps := ["schema", "answers"]) fun _ _ _ _ _ _ us hl => match us, hl with | [_, _], _ => rfl
  have F8 := fun_mk (st := s_led_answers) l8 c8 k8
  have b8 := F8.binds (ps := ["schema", "demands"]) fun _ _ _ _ _ _ us hl => match us, hl with | [_, _], _ => rfl
  have F9 := fun_mk (st := s_is_void) l9 c9 k9
  have b9 := F9.binds (ps := ["schema"]) fun _ _ _ _ _ _ us hl => match us, hl with | [_], _ => rfl
  have F10 := fun_mk (st := s_need_records) l10 c10 k10
  have b10 := F10.binds (ps := ["schema"]) fun _ _ _ _ _ _ us hl => match us, hl with | [_], _ => rfl
  have F11 := fun_mk (st := s_is_record) l11 c11 k11
  have b11 := F11.binds (ps := ["schema", "thing"]) fun _ _ _ _ _ _ us hl => match us, hl with | [_, _], _ => rfl
  have F12 := fun_mk (st := s_least_record) l12 c12 k12
  have b12 := F12.binds (ps := ["schema", "demands"]) fun _ _ _ _ _ _ us hl => match us, hl with | [_, _], _ => rfl
  have F13 := fun_mk (st := s_all_records) l13 c13 k13
  have b13 := F13.binds (ps := ["schema"]) fun _ _ _ _ _ _ us hl => match us, hl with | [_], _ => rfl
  have F14 := fun_mk (st := s_dip) l14 c14 k14
  have b14 := F14.binds (ps := ["crock", "many", "place"]) fun _ _ _ _ _ _ us hl => match us, hl with | [_, _, _], _ => rfl
  have F15 := fun_mk (st := s__law_records) l15 c15 k15
  have b15 := F15.binds (ps := ["schema"]) fun _ _ _ _ _ _ us hl => match us, hl with | [_], _ => rfl
  have F16 := fun_mk (st := s__law_least) l16 c16 k16
  have b16 := F16.binds (ps := ["schema", "demands"]) fun _ _ _ _ _ _ us hl => match us, hl with | [_, _], _ => rfl
  have F17 := fun_mk (st := s__law_is_record) l17 c17 k17
  have b17 := F17.binds (ps := ["schema", "records", "thing"]) fun _ _ _ _ _ _ us hl => match us, hl with | [_, _, _], _ => rfl
  have F18 := fun_mk (st := s__law_due) l18 c18 k18
  have b18 := F18.binds (ps := ["records", "demands"]) fun _ _ _ _ _ _ us hl => match us, hl with | [_, _], _ => rfl
  have F19 := fun_mk (st := s__law_same) l19 c19 k19
  have b19 := F19.binds (ps := ["told", "due"]) fun _ _ _ _ _ _ us hl => match us, hl with | [_, _], _ => rfl
  have F20 := fun_mk (st := s__law_names) l20 c20 k20
  have b20 := F20.binds (ps := ["crock", "many"]) fun _ _ _ _ _ _ us hl => match us, hl with | [_, _], _ => rfl
  have F21 := fun_mk (st := s__law_schema) l21 c21 k21
  have b21 := F21.binds (ps := ["crock", "most_fields", "most_above", "most_ladders"]) fun _ _ _ _ _ _ us hl => match us, hl with | [_, _, _, _], _ => rfl
  have F22 := fun_mk (st := s__law_thing) l22 c22 k22
  have b22 := F22.binds (ps := ["crock", "schema", "records"]) fun _ _ _ _ _ _ us hl => match us, hl with | [_, _, _], _ => rfl
  have F23 := fun_mk (st := s__law_asked) l23 c23 k23
  have b23 := F23.binds (ps := ["crock", "schema"]) fun _ _ _ _ _ _ us hl => match us, hl with | [_, _], _ => rfl
  have F24 := fun_mk (st := s__law_great) l24 c24 k24
  have b24 := F24.binds (ps := ["crock"]) fun _ _ _ _ _ _ us hl => match us, hl with | [_], _ => rfl
  have F25 := fun_mk (st := s_crock) l25 c25 k25
  have b25 := F25.binds (ps := ["script"]) fun _ _ _ _ _ _ us hl => match us, hl with | [_], _ => rfl
  have F26 := fun_mk (st := s_law) l26 c26 k26
  have b26 := F26.binds (ps := ["script"]) fun _ _ _ _ _ _ us hl => match us, hl with | [_], _ => rfl
  have D0 : DefD K mg "is_integer" s_is_integer ["thing"] := ⟨_, _, F0, PySem.W.mg_of X G a0, b0⟩
  have D1 : DefD K mg "integer_within" s_integer_within ["thing", "low", "high"] := ⟨_, _, F1, PySem.W.mg_of X G a1, b1⟩
  have D2 : DefD K mg "tuple_of" s_tuple_of ["thing", "many"] := ⟨_, _, F2, PySem.W.mg_of X G a2, b2⟩
  have D3 : DefD K mg "lows_of" s_lows_of ["fields"] := ⟨_, _, F3, PySem.W.mg_of X G a3, b3⟩
  have D4 : DefD K mg "keeps" s_keeps ["answers", "demand"] := ⟨_, _, F4, PySem.W.mg_of X G a4, b4⟩
  have D5 : DefD K mg "are_answers" s_are_answers ["fields", "thing"] := ⟨_, _, F5, PySem.W.mg_of X G a5, b5⟩
  have D6 : DefD K mg "goes_beyond" s_goes_beyond ["schema", "answers"] := ⟨_, _, F6, PySem.W.mg_of X G a6, b6⟩
  have D7 : DefD K mg "keeps_ladders" s_keeps_ladders ["schema", "answers"] := ⟨_, _, F7, PySem.W.mg_of X G a7, b7⟩
  have D8 : DefD K mg "led_answers" s_led_answers ["schema", "demands"] := ⟨_, _, F8, PySem.W.mg_of X G a8, b8⟩
  have D9 : DefD K mg "is_void" s_is_void ["schema"] := ⟨_, _, F9, PySem.W.mg_of X G a9, b9⟩
  have D10 : DefD K mg "need_records" s_need_records ["schema"] := ⟨_, _, F10, PySem.W.mg_of X G a10, b10⟩
  have D11 : DefD K mg "is_record" s_is_record ["schema", "thing"] := ⟨_, _, F11, PySem.W.mg_of X G a11, b11⟩
  have D12 : DefD K mg "least_record" s_least_record ["schema", "demands"] := ⟨_, _, F12, PySem.W.mg_of X G a12, b12⟩
  have D13 : DefD K mg "all_records" s_all_records ["schema"] := ⟨_, _, F13, PySem.W.mg_of X G a13, b13⟩
  have D14 : DefD K mg "_law_dip" s_dip ["crock", "many", "place"] := ⟨_, _, F14, PySem.W.mg_of X G a14, b14⟩
  have D15 : DefD K mg "_law_records" s__law_records ["schema"] := ⟨_, _, F15, PySem.W.mg_of X G a15, b15⟩
  have D16 : DefD K mg "_law_least" s__law_least ["schema", "demands"] := ⟨_, _, F16, PySem.W.mg_of X G a16, b16⟩
  have D17 : DefD K mg "_law_is_record" s__law_is_record ["schema", "records", "thing"] := ⟨_, _, F17, PySem.W.mg_of X G a17, b17⟩
  have D18 : DefD K mg "_law_due" s__law_due ["records", "demands"] := ⟨_, _, F18, PySem.W.mg_of X G a18, b18⟩
  have D19 : DefD K mg "_law_same" s__law_same ["told", "due"] := ⟨_, _, F19, PySem.W.mg_of X G a19, b19⟩
  have D20 : DefD K mg "_law_names" s__law_names ["crock", "many"] := ⟨_, _, F20, PySem.W.mg_of X G a20, b20⟩
  have D21 : DefD K mg "_law_schema" s__law_schema ["crock", "most_fields", "most_above", "most_ladders"] := ⟨_, _, F21, PySem.W.mg_of X G a21, b21⟩
  have D22 : DefD K mg "_law_thing" s__law_thing ["crock", "schema", "records"] := ⟨_, _, F22, PySem.W.mg_of X G a22, b22⟩
  have D23 : DefD K mg "_law_asked" s__law_asked ["crock", "schema"] := ⟨_, _, F23, PySem.W.mg_of X G a23, b23⟩
  have D24 : DefD K mg "_law_great" s__law_great ["crock"] := ⟨_, _, F24, PySem.W.mg_of X G a24, b24⟩
  refine ⟨PySem.W.fnOf "law" "law" (defArgs s_law) (defBody s_law) (defScope s_law) .none kV26 dc26 pm26 an26 cd26 ct26, fun s v => .of_eq rfl, fun base _ _ => ?_⟩
  · have xb : XCls l.prog w K mg base "BadStep" ["word"] := xcls hB (PySem.W.mg_none_of X G n_super) XF iI iT iL iC iE iO iV iF iN iD iA
    have g_is_integer := ok_is_integer (P := l.prog) (w := w) (base := base) (T := crockT places) D0 bn 
    have g_integer_within := ok_integer_within (P := l.prog) (w := w) (base := base) (T := crockT places) D1 bn g_is_integer
    have g_tuple_of := ok_tuple_of (P := l.prog) (w := w) (base := base) (T := crockT places) D2 bn 
    have g_lows_of := ok_lows_of (P := l.prog) (w := w) (base := base) (T := crockT places) D3 bn 
    have g_keeps := ok_keeps (P := l.prog) (w := w) (base := base) (T := crockT places) D4 bn 
    have g_are_answers := ok_are_answers (P := l.prog) (w := w) (base := base) (T := crockT places) D5 bn g_tuple_of g_integer_within
    have g_goes_beyond := ok_goes_beyond (P := l.prog) (w := w) (base := base) (T := crockT places) D6 bn 
    have g_keeps_ladders := ok_keeps_ladders (P := l.prog) (w := w) (base := base) (T := crockT places) D7 bn g_keeps
    have g_led_answers := ok_led_answers (P := l.prog) (w := w) (base := base) (T := crockT places) D8 bn g_lows_of
    have g_is_void := ok_is_void (P := l.prog) (w := w) (base := base) (T := crockT places) D9 bn g_goes_beyond g_led_answers
    have g_need_records := ok_need_records (P := l.prog) (w := w) (base := base) (T := crockT places) D10 bn g_is_void xb
    have g_is_record := ok_is_record (P := l.prog) (w := w) (base := base) (T := crockT places) D11 bn g_keeps_ladders g_are_answers
    have g_least_record := ok_least_record (P := l.prog) (w := w) (base := base) (T := crockT places) D12 bn g_need_records g_led_answers g_goes_beyond xb
    have g_all_records := ok_all_records (P := l.prog) (w := w) (base := base) (T := crockT places) D13 bn g_keeps_ladders
    have g__law_dip := ok_dip (P := l.prog) (w := w) (base := base) D14 bn 
    have g__law_records := ok__law_records (P := l.prog) (w := w) (base := base) (T := crockT places) D15 bn 
    have g__law_least := ok__law_least (P := l.prog) (w := w) (base := base) (T := crockT places) D16 bn g_least_record tb
    have g__law_is_record := ok__law_is_record (P := l.prog) (w := w) (base := base) (T := crockT places) D17 bn 
    have g__law_due := ok__law_due (P := l.prog) (w := w) (base := base) (T := crockT places) D18 bn 
    have g__law_same := ok__law_same (P := l.prog) (w := w) (base := base) (T := crockT places) D19 bn 
    have g__law_names := ok__law_names (P := l.prog) (w := w) (base := base) (T := crockT places) D20 bn g__law_dip
    have g__law_schema := ok__law_schema (P := l.prog) (w := w) (base := base) (T := crockT places) D21 bn g__law_names g__law_dip
    have g__law_thing := ok__law_thing (P := l.prog) (w := w) (base := base) (T := crockT places) D22 bn g__law_dip
    have g__law_asked := ok__law_asked (P := l.prog) (w := w) (base := base) (T := crockT places) D23 bn g__law_records g__law_same g_all_records g__law_thing g_is_record g__law_is_record g__law_dip g__law_least g__law_due
    have g__law_great := ok__law_great (P := l.prog) (w := w) (base := base) (T := crockT places) D24 bn g__law_dip g__law_asked
    exact ok_law F26 bn (by decide) (ok_crock F25 bn) (PySem.W.mg_of X G a25) k25 b25 (rest_law bn g__law_asked g__law_schema g_is_record g_all_records g__law_same g__law_least g__law_records g__law_great g__law_dip _)
theorem walk {l : PySem.W.OpenLaw} {q : Program} {loose : List Str} {XP : (Str → Option Value) → Heap → Prop} {YP : World → Heap → Prop} {d : DefRec} {K : Params → PySem.W.Frag} (hn : l.most = some 63) (hdf : d.params.defaults = [])
    (hY : ∀ (w : World) (h : Heap), YP w h → (K w.params).In h)
    (F : ∀ (w : World) (mg : Str → Option Value) (fa : Addr) (h : Heap), (K w.params).In h → h.Ns mainGlobals mg → mg d.name = some (.ref fa) →
      ∃ fd : FuncData, (∀ (s : Shared) (u : Value), BindsTo s fd ⟨[u], []⟩ [("script", u)]) ∧ ∀ base : Heap, (K w.params).In base → base.Ns mainGlobals mg → FnOk l.prog w (K w.params) mg base (L2.CX l.prog w) 9 fa fd ["script"] (spLaw (K w.params))) :
    PySem.W.WalkO q loose XP YP l.row.toRowW d [] (fun f vs => PySem.call f vs) :=
  L2.walk_of (n := 63) (k := 9) (x := "script") (CX := fun w => L2.CX l.prog w) (sp := fun w => spLaw (K w.params)) hn (by decide) hdf ⟨rfl, by decide, by decide⟩ hY F (fun _ _ a ns hl _ hS => ⟨a, ns, rfl, hS, hl, fun _ => rfl⟩) fun _ _ _ _ _ ⟨_, _, _, _, _, _, _, _, _, _, _, _, z⟩ => z
end K07
open PySem PySem.W PyProof.Rows
set_option maxRecDepth 100000 in
set_option maxHeartbeats 0 in
theorem PySem.Challenge.cw_neverfalls_k07_records_holds : PySem.Challenge.rw_neverfalls_k07_records.Holds := by
  w_on; o_law; k_head; (case hw => w_witness2)
  k_fill
  refine K07.walk (l := PySem.Challenge.rw_neverfalls_k07_records) rfl rfl (fun w h Y => PySem.W.kIn_of Y) ?F
  case F =>
    intro w mg fa h KX G hmg
    refine' K07.all_mk KX G hmg ?a0 ?l0 ?c0 ?k0 ?a1 ?l1 ?c1 ?k1 ?a2 ?l2 ?c2 ?k2 ?a3 ?l3 ?c3 ?k3 ?a4 ?l4 ?c4 ?k4 ?a5 ?l5 ?c5 ?k5 ?a6 ?l6 ?c6 ?k6 ?a7 ?l7 ?c7 ?k7 ?a8 ?l8 ?c8 ?k8 ?a9 ?l9 ?c9 ?k9 ?a10 ?l10 ?c10 ?k10 ?a11 ?l11 ?c11 ?k11 ?a12 ?l12 ?c12 ?k12 ?a13 ?l13 ?c13 ?k13 ?a14 ?l14 ?c14 ?k14 ?a15 ?l15 ?c15 ?k15 ?a16 ?l16 ?c16 ?k16 ?a17 ?l17 ?c17 ?k17 ?a18 ?l18 ?c18 ?k18 ?a19 ?l19 ?c19 ?k19 ?a20 ?l20 ?c20 ?k20 ?a21 ?l21 ?c21 ?k21 ?a22 ?l22 ?c22 ?k22 ?a23 ?l23 ?c23 ?k23 ?a24 ?l24 ?c24 ?k24 ?a25 ?l25 ?c25 ?k25 ?a26 ?l26 ?c26 ?k26 ?n_len ?n_tuple ?n_list ?n_int ?n_bool ?n_str ?n_abs ?n_any ?n_all ?n_sum ?n_max ?n_min ?n_range ?n_zip ?n_enumerate ?n_isinstance ?n_sorted ?n_set ?n_super ?aB ?aS ?aL ?xL ?xR ?xsa ?xex ?xty ?xkC ?xmr ?xsu ?xve ?xno ?iI ?iT ?iL ?iC ?iE ?iO ?iV ?iF ?iN ?iD ?iA ?emB ?kiB ?emS ?kiS ?emL ?kiL ?xga ?xgg ?xhd ?xha ?xhn ?xht ?xhm
    (case a0 => k_is)
    (case l0 => k_is)
    (case c0 => k_is)
    (case k0 => k_is)
    (case a1 => k_is)
    (case l1 => k_is)
    (case c1 => k_is)
    (case k1 => k_is)
    (case a2 => k_is)
    (case l2 => k_is)
    (case c2 => k_is)
    (case k2 => k_is)
    (case a3 => k_is)
    (case l3 => k_is)
    (case c3 => k_is)
    (case k3 => k_is)
    (case a4 => k_is)
    (case l4 => k_is)
    (case c4 => k_is)
    (case k4 => k_is)
    (case a5 => k_is)
    (case l5 => k_is)
    (case c5 => k_is)
    (case k5 => k_is)
    (case a6 => k_is)
    (case l6 => k_is)
    (case c6 => k_is)
    (case k6 => k_is)
    (case a7 => k_is)
    (case l7 => k_is)
    (case c7 => k_is)
    (case k7 => k_is)
    (case a8 => k_is)
    (case l8 => k_is)
    (case c8 => k_is)
    (case k8 => k_is)
    (case a9 => k_is)
    (case l9 => k_is)
    (case c9 => k_is)
    (case k9 => k_is)
    (case a10 => k_is)
    (case l10 => k_is)
    (case c10 => k_is)
    (case k10 => k_is)
    (case a11 => k_is)
    (case l11 => k_is)
    (case c11 => k_is)
    (case k11 => k_is)
    (case a12 => k_is)
    (case l12 => k_is)
    (case c12 => k_is)
    (case k12 => k_is)
    (case a13 => k_is)
    (case l13 => k_is)
    (case c13 => k_is)
    (case k13 => k_is)
    (case a14 => k_is)
    (case l14 => k_is)
    (case c14 => k_is)
    (case k14 => k_is)
    (case a15 => k_is)
    (case l15 => k_is)
    (case c15 => k_is)
    (case k15 => k_is)
    (case a16 => k_is)
    (case l16 => k_is)
    (case c16 => k_is)
    (case k16 => k_is)
    (case a17 => k_is)
    (case l17 => k_is)
    (case c17 => k_is)
    (case k17 => k_is)
    (case a18 => k_is)
    (case l18 => k_is)
    (case c18 => k_is)
    (case k18 => k_is)
    (case a19 => k_is)
    (case l19 => k_is)
    (case c19 => k_is)
    (case k19 => k_is)
    (case a20 => k_is)
    (case l20 => k_is)
    (case c20 => k_is)
    (case k20 => k_is)
    (case a21 => k_is)
    (case l21 => k_is)
    (case c21 => k_is)
    (case k21 => k_is)
    (case a22 => k_is)
    (case l22 => k_is)
    (case c22 => k_is)
    (case k22 => k_is)
    (case a23 => k_is)
    (case l23 => k_is)
    (case c23 => k_is)
    (case k23 => k_is)
    (case a24 => k_is)
    (case l24 => k_is)
    (case c24 => k_is)
    (case k24 => k_is)
    (case a25 => k_is)
    (case l25 => k_is)
    (case c25 => k_is)
    (case k25 => k_is)
    (case a26 => k_is)
    (case l26 => k_is)
    (case c26 => k_is)
    (case k26 => k_is)
    (case n_len => k_is)
    (case n_tuple => k_is)
    (case n_list => k_is)
    (case n_int => k_is)
    (case n_bool => k_is)
    (case n_str => k_is)
    (case n_abs => k_is)
    (case n_any => k_is)
    (case n_all => k_is)
    (case n_sum => k_is)
    (case n_max => k_is)
    (case n_min => k_is)
    (case n_range => k_is)
    (case n_zip => k_is)
    (case n_enumerate => k_is)
    (case n_isinstance => k_is)
    (case n_sorted => k_is)
    (case n_set => k_is)
    (case n_super => k_is)
    (case aB => k_is)
    (case aS => k_is)
    (case aL => k_is)
    (case xL => k_is)
    (case xR => first | rfl | decide +kernel | k_is)
    (case xsa => k_is)
    (case xex => k_is)
    (case xty => k_is)
    (case xkC => k_is)
    (case xmr => k_is)
    (case xsu => ks_is)
    (case xve => k_is)
    (case xno => k_is)
    (case iI => k_is)
    (case iT => k_is)
    (case iL => k_is)
    (case iC => k_is)
    (case iE => k_is)
    (case iO => k_is)
    (case iV => first | rfl | decide +kernel | k_is)
    (case iF => first | rfl | decide +kernel | k_is)
    (case iN => first | rfl | decide +kernel | k_is)
    (case iD => k_is)
    (case iA => k_is)
    (case emB => kts_exm)
    (case kiB => kit_is)
    (case emS => kts_exm)
    (case kiS => kit_is)
    (case emL => kts_exm)
    (case kiL => kit_is)
    (case xga => k_is)
    (case xgg => k_is)
    (case xhd => k_is)
    (case xha => k_is)
    (case xhn => k_is)
    (case xht => k_is)
    (case xhm => k_is)
#print axioms PySem.Challenge.cw_neverfalls_k07_records_holds

