import PyProof.Rows.All
import Wide.All
import OpenK.AllK
import Wide.FinOn
import KE.DatumOrd
import KE.DatumMoreOrd
import HandS.ForMost
import HandS.Evl
import HandS.IsInst
import HandS.SetKeys
import HandS.Zip
import HandS.Defaults
import KE.DataAny
import KE.KDictKeyed
import KE.KDictCopyH
import HandS.Dict
import KE.SortData
import HandS.Set
import HandS.SetFor
import HandS.Strs
import HandS.More
import HandS.DictTup
import KE.SortKeyHeap
import KE.KSortKey
import HandS.SortKw
import HandS.Keys
import KE.GoesEnum
import HandS.Iter
import HandS.RevTup
import HandS.Style
import HandS.WordsDict
import PySem.Challenge.RW_markedrows_k68_whole_stars_and_rows_by_f
import KE.KStateDown
import Lean
import HandS.Head0
import HandS.Head1
import HandS.Head2
import HandS.HeadEnd
import HandS.HeadHook1
import HandS.HeadHook2
import HandS.HeadHook3
import HandS.HeadHook4
import HandS.Words
set_option Elab.async false
set_option linter.all false
set_option maxRecDepth 100000
set_option maxHeartbeats 4000000
/-! DL: data with Lean types over the hand layer: a stable part S of the abstract heap H, on which facts of data lean; what evaluates to what. -/
namespace DL
open PySem L2
open PySem.W (Datum Tup)
abbrev Ex := Evl.Ex

/-! ### the stable part and the heap, from one state to a later one -/
structure Ok (S0 H0 S H : Hp) : Prop where
  ss : Ex S0 S
  sh : Ex S H
  hh : Ex H0 H
  av : ∀ a o, S0 a = none → H0 a = some o → S a = none
section
variable {S0 H0 S H S' H' : Hp} {p : Addr} {o : HO}
theorem Ok.refl (e : Ex S H) : Ok S H S H := ⟨Evl.Ex.refl S, e, Evl.Ex.refl H, fun _ _ h _ => h⟩
theorem Ok.trans (a : Ok S0 H0 S H) (b : Ok S H S' H') : Ok S0 H0 S' H' :=
  ⟨a.ss.trans b.ss, b.sh, a.hh.trans b.hh, fun c u h1 h2 => b.av c u (a.av c u h1 h2) (a.hh c u h2)⟩
theorem none_of {S H : Hp} (e : Ex S H) (h : H p = none) : S p = none := Evl.fresh_back e h
theorem ex_upd {S H : Hp} (e : Ex S H) (h : S p = none) : Ex S (upd H p o) := Evl.Ex.mut e h
theorem ex_both {S H : Hp} (e : Ex S H) : Ex (upd S p o) (upd H p o) := fun a u q => by
  by_cases ha : a = p
  · subst ha; rw [upd_same] at q ⊢; exact q
  · rw [upd_ne ha] at q ⊢; exact e a u q
/-- a new object, stable -/
theorem Ok.new (a : Ok S0 H0 S H) (h : H p = none) : Ok S0 H0 (upd S p o) (upd H p o) :=
  ⟨a.ss.trans (Evl.Ex.new (none_of a.sh h)), ex_both a.sh, a.hh.trans (Evl.Ex.new h), fun c u h1 h2 => by
    rw [upd_ne (ne_of_none (a.hh c u h2) h)]; exact a.av c u h1 h2⟩
/-- a new object that will change -/
theorem Ok.newH (a : Ok S0 H0 S H) (h : H p = none) : Ok S0 H0 S (upd H p o) :=
  ⟨a.ss, ex_upd a.sh (none_of a.sh h), a.hh.trans (Evl.Ex.new h), a.av⟩
/-- an object of ours changes -/
theorem Ok.mut (a : Ok S0 H0 S H) (h0 : H0 p = none) (h : S p = none) : Ok S0 H0 S (upd H p o) :=
  ⟨a.ss, ex_upd a.sh h, ex_upd a.hh h0, a.av⟩
/-- an object of ours changes no more -/
theorem Ok.freeze (a : Ok S0 H0 S H) (h0 : H0 p = none) (h : S p = none) (hp : H p = some o) : Ok S0 H0 (upd S p o) H :=
  ⟨a.ss.trans (Evl.Ex.new h), fun c u q => by
    by_cases hc : c = p
    · subst hc; rw [upd_same] at q; rw [hp]; exact q
    · rw [upd_ne hc] at q; exact a.sh c u q, a.hh, fun c u h1 h2 => by
    rw [upd_ne (fun z => by subst z; rw [h0] at h2; cases h2)]; exact a.av c u h1 h2⟩
theorem ex_freeze {S H : Hp} (e : Ex S H) (h : S p = none) (hp : H p = some o) : Ex (upd S p o) H := fun c u q => by
    by_cases hc : c = p
    · subst hc; rw [upd_same] at q; rw [hp]; exact q
    · rw [upd_ne hc] at q; exact e c u q
/-- the heap without one address -/
def rm (S : Hp) (p : Addr) : Hp := fun a => if a = p then none else S a
theorem rm_same : rm S p p = none := by unfold rm; rw [if_pos rfl]
theorem rm_ne {a : Addr} (h : a ≠ p) : rm S p a = S a := by unfold rm; rw [if_neg h]
theorem rm_ex : Ex (rm S p) S := fun a u q => by
  by_cases h : a = p
  · subst h; rw [rm_same] at q; cases q
  · rw [rm_ne h] at q; exact q
/-- an object of ours is read for a while -/
theorem Ok.read {S1 H1 : Hp} (h : S p = none) (hp : H p = some o) (a : Ok (upd S p o) H S1 H1) : Ok S H (rm S1 p) H1 ∧ H1 p = some o :=
  ⟨⟨fun c u q => by
      have hc : c ≠ p := fun z => by subst z; rw [h] at q; cases q
      rw [rm_ne hc]; exact a.ss c u (by rw [upd_ne hc]; exact q), rm_ex.trans a.sh, a.hh, fun c u h1 h2 => by
      by_cases hc : c = p
      · subst hc; exact rm_same
      · rw [rm_ne hc]; exact a.av c u (by rw [upd_ne hc]; exact h1) h2⟩, a.hh p o hp⟩
end

/-! ### data in the stable part -/
section
variable {K : PySem.W.Frag} {S S' : Hp}
mutual
theorem dp_ex (e : Ex S S') : ∀ (d : PyData) (v : V), Dp K S v d → Dp K S' v d
  | .none, _, h => by cases h; exact .non
  | .bool b, _, h => by cases h; exact .bl b
  | .int i, _, h => by cases h; exact .int i
  | .str x, _, h => by cases h; exact .str x
  | .list ds, _, h => by
    cases h with
    | lst hs ha => exact .lst (Evl.ex_l e hs) (dps_ex e ds _ ha)
  | .tuple ds, _, h => by
    cases h with
    | tup hs ha => exact .tup (Evl.ex_t e hs) (dps_ex e ds _ ha)
  | .dict _, _, h => by cases h
theorem dps_ex (e : Ex S S') : ∀ (ds : List PyData) (vs : List V), DpAll K S vs ds → DpAll K S' vs ds
  | [], _, h => by cases h; exact .nil
  | d :: ds, _, h => by
    cases h with
    | cons h1 h2 => exact .cons (dp_ex e d _ h1) (dps_ex e ds _ h2)
end
end
section
variable {α β γ : Type} [DecidableEq α] [Datum α] [DecidableEq β] [Datum β] [DecidableEq γ] [Datum γ] {K : PySem.W.Frag} {S S' H : Hp} {v : V} {vs ws : List V} {x : α} {xs ys : List α}
/-- v is the datum x in the stable part S -/
def At (K : PySem.W.Frag) (S : Hp) (v : V) (x : α) : Prop := Dp K S v (Datum.toD x)
def Ats (K : PySem.W.Frag) (S : Hp) (vs : List V) (xs : List α) : Prop := DpAll K S vs (xs.map Datum.toD)
theorem At.ex (e : Ex S S') (h : At K S v x) : At K S' v x := dp_ex e _ _ h
theorem Ats.ex (e : Ex S S') (h : Ats K S vs xs) : Ats K S' vs xs := dps_ex e _ _ h
theorem Ats.nil : Ats K S [] ([] : List α) := DpAll.nil
theorem Ats.cons (h : At K S v x) (t : Ats K S vs xs) : Ats K S (v :: vs) (x :: xs) := DpAll.cons h t
theorem Ats.uncons (h : Ats K S (v :: vs) (x :: xs)) : At K S v x ∧ Ats K S vs xs := by
  cases h with
  | cons a b => exact ⟨a, b⟩
theorem Ats.length : ∀ {vs : List V} {xs : List α}, Ats K S vs xs → vs.length = xs.length
  | [], [], _ => rfl
  | [], _ :: _, h => by cases h
  | _ :: _, [], h => by cases h
  | _ :: vs, _ :: xs, h => by rw [List.length_cons, List.length_cons, Ats.length h.uncons.2]
theorem Ats.append : ∀ {vs : List V} {xs : List α}, Ats K S vs xs → Ats K S ws ys → Ats K S (vs ++ ws) (xs ++ ys)
  | [], [], _, k => k
  | [], _ :: _, h, _ => by cases h
  | _ :: _, [], h, _ => by cases h
  | _ :: _, _ :: _, h, k => .cons h.uncons.1 (Ats.append h.uncons.2 k)
theorem Ats.get : ∀ {vs : List V} {xs : List α} {i : Nat} {v : V}, Ats K S vs xs → vs[i]? = some v → ∃ x, xs[i]? = some x ∧ At K S v x
  | [], _, i, v, _, e => by simp at e
  | _ :: _, [], _, _, h, _ => by cases h
  | w :: vs, x :: xs, 0, v, h, e => by
    have e' : w = v := Option.some.inj (show some w = some v from e)
    subst e'
    exact ⟨x, rfl, h.uncons.1⟩
  | _ :: vs, _ :: xs, i + 1, v, h, e => Ats.get (i := i) h.uncons.2 (by simpa using e)
theorem Ats.get' : ∀ {vs : List V} {xs : List α} {i : Nat} {x : α}, Ats K S vs xs → xs[i]? = some x → ∃ v, vs[i]? = some v ∧ At K S v x
  | _, [], i, x, _, e => by simp at e
  | [], _ :: _, _, _, h, _ => by cases h
  | w :: vs, y :: xs, 0, x, h, e => by
    have e' : y = x := Option.some.inj (show some y = some x from e)
    subst e'
    exact ⟨w, rfl, h.uncons.1⟩
  | _ :: vs, _ :: xs, i + 1, x, h, e => Ats.get' (i := i) h.uncons.2 (by simpa using e)
theorem Ats.take : ∀ {vs : List V} {xs : List α} (n : Nat), Ats K S vs xs → Ats K S (vs.take n) (xs.take n)
  | _, _, 0, _ => by rw [List.take_zero, List.take_zero]; exact .nil
  | [], [], _ + 1, h => h
  | [], _ :: _, _ + 1, h => by cases h
  | _ :: _, [], _ + 1, h => by cases h
  | _ :: _, _ :: _, n + 1, h => .cons h.uncons.1 (Ats.take n h.uncons.2)
theorem Ats.drop : ∀ {vs : List V} {xs : List α} (n : Nat), Ats K S vs xs → Ats K S (vs.drop n) (xs.drop n)
  | _, _, 0, h => h
  | [], [], _ + 1, h => h
  | [], _ :: _, _ + 1, h => by cases h
  | _ :: _, [], _ + 1, h => by cases h
  | _ :: _, _ :: _, n + 1, h => Ats.drop n h.uncons.2
theorem Ats.eraseIdx : ∀ {vs : List V} {xs : List α} (n : Nat), Ats K S vs xs → Ats K S (vs.eraseIdx n) (xs.eraseIdx n)
  | [], [], _, h => by rw [List.eraseIdx_nil, List.eraseIdx_nil]; exact h
  | [], _ :: _, _, h => by cases h
  | _ :: _, [], _, h => by cases h
  | _ :: _, _ :: _, 0, h => h.uncons.2
  | _ :: _, _ :: _, n + 1, h => .cons h.uncons.1 (Ats.eraseIdx n h.uncons.2)
theorem Ats.reverse : ∀ {vs : List V} {xs : List α}, Ats K S vs xs → Ats K S vs.reverse xs.reverse
  | [], [], h => h
  | [], _ :: _, h => by cases h
  | _ :: _, [], h => by cases h
  | _ :: _, _ :: _, h => by
    rw [List.reverse_cons, List.reverse_cons]
    exact (Ats.reverse h.uncons.2).append (.cons h.uncons.1 .nil)

theorem at_int {i : Int} : At K S v i ↔ v = .int i := ⟨fun h => by cases h; rfl, fun h => by subst h; exact .int i⟩
theorem at_bl {b : Bool} : At K S v b ↔ v = .bl b := ⟨fun h => by cases h; rfl, fun h => by subst h; exact .bl b⟩
theorem at_str {z : Str} : At K S v z ↔ v = .str z := ⟨fun h => by cases h; rfl, fun h => by subst h; exact .str z⟩
theorem at_unit {z : Unit} : At K S v z ↔ v = .non := ⟨fun h => by cases h; rfl, fun h => by subst h; exact .non⟩
theorem at_list : At K S v xs ↔ ∃ a vs, v = .ref a ∧ SqL K S a vs ∧ Ats K S vs xs := ⟨fun h => by
    cases h with
    | lst hs ha => exact ⟨_, _, rfl, hs, ha⟩, fun ⟨a, vs, e, hs, ha⟩ => by subst e; exact .lst hs ha⟩
theorem at_tup {t : Tup α} : At K S v t ↔ ∃ a vs, v = .ref a ∧ SqT K S a vs ∧ Ats K S vs t.items := ⟨fun h => by
    cases h with
    | tup hs ha => exact ⟨_, _, rfl, hs, ha⟩, fun ⟨a, vs, e, hs, ha⟩ => by subst e; exact .tup hs ha⟩
theorem at_pair {p : α × β} : At K S v p ↔ ∃ a v1 v2, v = .ref a ∧ SqT K S a [v1, v2] ∧ At K S v1 p.1 ∧ At K S v2 p.2 := ⟨fun h => by
    cases h with
    | tup hs ha =>
      cases ha with
      | cons h1 h2 =>
        cases h2 with
        | cons h2 h3 => cases h3; exact ⟨_, _, _, rfl, hs, h1, h2⟩, fun ⟨a, v1, v2, e, hs, h1, h2⟩ => by subst e; exact .tup hs (.cons h1 (.cons h2 .nil))⟩
end

section
variable {α β γ : Type} [DecidableEq α] [Datum α] [DecidableEq β] [Datum β] [DecidableEq γ] [Datum γ] {K : PySem.W.Frag} {S : Hp} {v : V}
theorem at_t3 {p : PySem.W.T3 α β γ} : At K S v p ↔ ∃ a v1 v2 v3, v = .ref a ∧ SqT K S a [v1, v2, v3] ∧ At K S v1 p.a ∧ At K S v2 p.b ∧ At K S v3 p.c := ⟨fun h => by
    cases h with
    | tup hs ha =>
      cases ha with
      | cons h1 h2 =>
        cases h2 with
        | cons h2 h3 =>
          cases h3 with
          | cons h3 h4 => cases h4; exact ⟨_, _, _, _, rfl, hs, h1, h2, h3⟩, fun ⟨a, v1, v2, v3, e, hs, h1, h2, h3⟩ => by subst e; exact .tup hs (.cons h1 (.cons h2 (.cons h3 .nil)))⟩
end
/-! ### any data -/
section
variable {K : PySem.W.Frag} {S : Hp}
mutual
theorem dp_plain : ∀ (d : PyData) (v : V), Dp K S v d → d.plain = true
  | .none, _, _ => rfl
  | .bool _, _, _ => rfl
  | .int _, _, _ => rfl
  | .str _, _, _ => rfl
  | .list ds, _, h => by
    cases h with
    | lst hs ha => rw [PyData.plain]; exact dps_plain ds _ ha
  | .tuple ds, _, h => by
    cases h with
    | tup hs ha => rw [PyData.plain]; exact dps_plain ds _ ha
  | .dict _, _, h => by cases h
theorem dps_plain : ∀ (ds : List PyData) (vs : List V), DpAll K S vs ds → PyData.plainAll ds = true
  | [], _, _ => rfl
  | d :: ds, _, h => by
    cases h with
    | cons h1 h2 => rw [PyData.plainAll, dp_plain d _ h1, dps_plain ds _ h2]; rfl
end
theorem dps_len : ∀ {ds : List PyData} {vs : List V}, DpAll K S vs ds → vs.length = ds.length
  | [], _, h => by cases h; rfl
  | d :: ds, _, h => by
    cases h with
    | cons h1 h2 => rw [List.length_cons, List.length_cons, dps_len h2]
theorem dps_get : ∀ {ds : List PyData} {vs : List V} {i : Nat} {v : V}, DpAll K S vs ds → vs[i]? = some v → ∃ d, ds[i]? = some d ∧ Dp K S v d
  | [], _, i, v, h, e => by cases h; simp at e
  | d :: ds, _, 0, v, h, e => by
    cases h with
    | cons h1 h2 =>
      have e' := Option.some.inj (show some _ = some v from e)
      subst e'
      exact ⟨d, rfl, h1⟩
  | d :: ds, _, i + 1, v, h, e => by
    cases h with
    | cons h1 h2 => exact dps_get (i := i) h2 (by simpa using e)
theorem dps_get' : ∀ {ds : List PyData} {vs : List V} {i : Nat} {d : PyData}, DpAll K S vs ds → ds[i]? = some d → ∃ v, vs[i]? = some v ∧ Dp K S v d
  | [], _, i, v, h, e => by simp at e
  | d :: ds, _, 0, d', h, e => by
    cases h with
    | cons h1 h2 =>
      have e' := Option.some.inj (show some d = some d' from e)
      subst e'
      exact ⟨_, rfl, h1⟩
  | d :: ds, _, i + 1, d', h, e => by
    cases h with
    | cons h1 h2 => exact dps_get' (i := i) h2 (by simpa using e)
theorem dp_tuple {ds : List PyData} {v : V} : Dp K S v (.tuple ds) ↔ ∃ a vs, v = .ref a ∧ SqT K S a vs ∧ DpAll K S vs ds := ⟨fun h => by
    cases h with
    | tup hs ha => exact ⟨_, _, rfl, hs, ha⟩, fun ⟨a, vs, e, hs, ha⟩ => by subst e; exact .tup hs ha⟩
theorem dp_list {ds : List PyData} {v : V} : Dp K S v (.list ds) ↔ ∃ a vs, v = .ref a ∧ SqL K S a vs ∧ DpAll K S vs ds := ⟨fun h => by
    cases h with
    | lst hs ha => exact ⟨_, _, rfl, hs, ha⟩, fun ⟨a, vs, e, hs, ha⟩ => by subst e; exact .lst hs ha⟩
end
end DL


set_option Elab.async false
set_option linter.all false
set_option maxRecDepth 100000
set_option maxHeartbeats 4000000
/-! DL1: operators over data of any kind; what evaluates to what (Ev, EvT, EvA). -/
namespace DL
open PySem L2 PySem.Spec PyProof.Rows
open PySem.W (Datum Tup)

/-! ### operators -/
section
variable {X : Cx}
def uEq (K : PySem.W.Frag) : R2 := fun x y H Q => ∃ d e, Dp K H x d ∧ Dp K H y e ∧ min d.depth e.depth ≤ 60 ∧ Q (.bl (PyData.eqv d e)) H
def uNe (K : PySem.W.Frag) : R2 := fun x y H Q => ∃ d e, Dp K H x d ∧ Dp K H y e ∧ min d.depth e.depth ≤ 60 ∧ Q (.bl (!PyData.eqv d e)) H
theorem op_uEq (hu : X.A.units + 64 < cLine) : OpR X (compareOp .Eq) (uEq X.K) := by
  intro pins s σ H x y v u Q I rx ry h
  obtain ⟨d, e, hd, he, hm, q⟩ := h
  obtain ⟨as, r1⟩ := Dp.reads I d x v hd rx
  obtain ⟨bs, r2⟩ := Dp.reads I e y u he ry
  exact SeqAt.eq_plain r1 r2 (dp_plain _ _ hd) (dp_plain _ _ he) (by omega) ⟨.bl _, H, I, rfl, q⟩
theorem op_uNe (hu : X.A.units + 64 < cLine) : OpR X (compareOp .NotEq) (uNe X.K) := by
  intro pins s σ H x y v u Q I rx ry h
  obtain ⟨d, e, hd, he, hm, q⟩ := h
  obtain ⟨as, r1⟩ := Dp.reads I d x v hd rx
  obtain ⟨bs, r2⟩ := Dp.reads I e y u he ry
  exact SeqAt.ne_plain r1 r2 (dp_plain _ _ hd) (dp_plain _ _ he) (by omega) ⟨.bl _, H, I, rfl, q⟩
/-- x in xs, xs a list or tuple of data; or a text in a text -/
def uIn (K : PySem.W.Frag) : R2 := fun x y H Q =>
  (∃ d ds, Dp K H x d ∧ (Dp K H y (.list ds) ∨ Dp K H y (.tuple ds)) ∧ min (PyData.depthAll ds) d.depth ≤ 60 ∧ Q (.bl (ds.any fun z => PyData.eqv z d)) H) ∨
  (∃ i j, x = .str i ∧ y = .str j ∧ Q (.bl (!(Builtin.Str.occurrences j i 0 j.length 1).isEmpty)) H)
def uNotIn (K : PySem.W.Frag) : R2 := fun x y H Q =>
  (∃ d ds, Dp K H x d ∧ (Dp K H y (.list ds) ∨ Dp K H y (.tuple ds)) ∧ min (PyData.depthAll ds) d.depth ≤ 60 ∧ Q (.bl (!ds.any fun z => PyData.eqv z d)) H) ∨
  (∃ i j, x = .str i ∧ y = .str j ∧ Q (.bl (!(!(Builtin.Str.occurrences j i 0 j.length 1).isEmpty))) H)
theorem op_uIn (hu : X.A.units + 64 < cLine) : OpR X (compareOp .In) (uIn X.K) := by
  refine OpR.or ?_ op_in_str
  intro pins s σ H x y v u Q I rx ry h
  obtain ⟨d, ds, hd, he, hm, q⟩ := h
  obtain ⟨as, r1⟩ := Dp.reads I d x v hd rx
  rcases he with he | he
  · obtain ⟨bs, r2⟩ := Dp.reads I _ y u he ry
    exact SeqAt.in_list_data r2 r1 (by have := dp_plain _ _ he; rwa [PyData.plain] at this) (dp_plain _ _ hd) (by omega) ⟨.bl _, H, I, rfl, q⟩
  · obtain ⟨bs, r2⟩ := Dp.reads I _ y u he ry
    exact SeqAt.in_tuple_data r2 r1 (by have := dp_plain _ _ he; rwa [PyData.plain] at this) (dp_plain _ _ hd) (by omega) ⟨.bl _, H, I, rfl, q⟩
theorem op_uNotIn (hu : X.A.units + 64 < cLine) : OpR X (compareOp .NotIn) (uNotIn X.K) := by
  refine OpR.or ?_ op_notin_str
  intro pins s σ H x y v u Q I rx ry h
  obtain ⟨d, ds, hd, he, hm, q⟩ := h
  obtain ⟨as, r1⟩ := Dp.reads I d x v hd rx
  rcases he with he | he
  · obtain ⟨bs, r2⟩ := Dp.reads I _ y u he ry
    exact SeqAt.notIn_list_data r2 r1 (by have := dp_plain _ _ he; rwa [PyData.plain] at this) (dp_plain _ _ hd) (by omega) ⟨.bl _, H, I, rfl, q⟩
  · obtain ⟨bs, r2⟩ := Dp.reads I _ y u he ry
    exact SeqAt.notIn_tuple_data r2 r1 (by have := dp_plain _ _ he; rwa [PyData.plain] at this) (dp_plain _ _ hd) (by omega) ⟨.bl _, H, I, rfl, q⟩
/-- < of data that are alike -/
def uLt (K : PySem.W.Frag) : R2 := fun x y H Q => ∃ d e, Dp K H x d ∧ Dp K H y e ∧ PySem.W.alike d e = true ∧ d ≠ .none ∧ min d.depth e.depth ≤ 60 ∧ Q (.bl (PySem.W.dataLt d e)) H
theorem op_uLt (hu : X.A.units + 64 < cLine) : OpR X (compareOp .Lt) (uLt X.K) := by
  intro pins s σ H x y v u Q I rx ry h
  obtain ⟨d, e, hd, he, ha, hn, hm, q⟩ := h
  obtain ⟨as, r1⟩ := Dp.reads I d x v hd rx
  obtain ⟨bs, r2⟩ := Dp.reads I e y u he ry
  exact PySem.W.lt_data r1 r2 ha hn (by omega) ⟨.bl _, H, I, rfl, q⟩
/-- two rules for one expression -/
theorem pe_or2 {e : Expr} {t u : TE} (h1 : PE X e t) (h2 : PE X e u) : PE X e (fun σ H Q => t σ H Q ∨ u σ H Q) :=
  ⟨fun pins s σ H Q I h => h.elim (fun q => h1.run pins s σ H Q I q) fun q => h2.run pins s σ H Q I q⟩
def tNeverE : TE := fun _ _ _ => False
def tNeverT : TT := fun _ _ _ => False
theorem pe_never {e : Expr} : PE X e tNeverE := ⟨fun _ _ _ _ _ _ h => h.elim⟩
theorem pt_never {e : Expr} : PT X e tNeverT := ⟨fun _ _ _ _ _ _ h => h.elim⟩
def tyName : PyData → String
  | .none => "NoneType" | .bool _ => "bool" | .int _ => "int" | .str _ => "str" | .list _ => "list" | .tuple _ => "tuple" | .dict _ => "dict"
theorem tyX_rdL {K : PySem.W.Frag} {H : Hp} {a : Addr} {vs : List V} (h : SqL K H a vs) : TyX K H (.ref a) (.type "list") := by
  rcases h with (h | ⟨o, h⟩) | ⟨o, its, n, hk, hc, _⟩
  · exact .base (.lst h)
  · exact .base (.frz h)
  · exact .kList hk hc
theorem tyX_rdT {K : PySem.W.Frag} {H : Hp} {a : Addr} {vs : List V} (h : SqT K H a vs) : TyX K H (.ref a) (.type "tuple") := by
  rcases h with (h | ⟨o, h⟩) | ⟨o, its, n, hk, hc, _⟩
  · exact .base (.tup h)
  · exact .fTuple h
  · exact .kTuple hk hc
theorem dp_tyX {K : PySem.W.Frag} {H : Hp} {v : V} {d : PyData} (h : Dp K H v d) : TyX K H v (.type (tyName d)) := by
  cases h with
  | non => exact .base .non
  | bl b => exact .base (.bl b)
  | int i => exact .base (.int i)
  | str x => exact .base (.str x)
  | lst hs _ => exact tyX_rdL hs
  | tup hs _ => exact tyX_rdT hs
end

/-! ### what evaluates to what -/
/-- P, and from now on -/
def Per (P : Hp → V → Prop) (S : Hp) (v : V) : Prop := ∀ S1, Ex S S1 → P S1 v
def PerA (P : Hp → List V → Prop) (S : Hp) (vs : List V) : Prop := ∀ S1, Ex S S1 → P S1 vs
def Ev (te : TE) (σ : L2.St) (S : Hp) (P : Hp → V → Prop) : Prop :=
  ∀ S1 H1, Ex S S1 → Ex S1 H1 → ∀ Q : VK, (∀ v S2 H2, Ok S1 H1 S2 H2 → Per P S2 v → Q v H2) → te σ H1 Q
def EvT (tt : TT) (σ : L2.St) (S : Hp) (b : Bool) : Prop :=
  ∀ S1 H1, Ex S S1 → Ex S1 H1 → ∀ Q : Bool → Hp → Prop, (∀ S2 H2, Ok S1 H1 S2 H2 → Q b H2) → tt σ H1 Q
def EvA (ta : TA) (σ : L2.St) (S : Hp) (P : Hp → List V → Prop) : Prop :=
  ∀ S1 H1, Ex S S1 → Ex S1 H1 → ∀ Q : List V → Hp → Prop, (∀ vs S2 H2, Ok S1 H1 S2 H2 → PerA P S2 vs → Q vs H2) → ta σ H1 Q
abbrev IsV (w : V) : Hp → V → Prop := fun _ v => v = w
abbrev IsD (K : PySem.W.Frag) (d : PyData) : Hp → V → Prop := fun S v => Dp K S v d
abbrev IsA {α : Type} [DecidableEq α] [Datum α] (K : PySem.W.Frag) (x : α) : Hp → V → Prop := fun S v => At K S v x
section
variable {K : PySem.W.Frag} {σ : L2.St} {S S' H H' : Hp} {ta tb te tc : TE} {tt tu : TT} {P P' P1 P2 : Hp → V → Prop} {v w : V} {r : R2} {d e : PyData}
theorem perD (h : Dp K S v d) : Per (IsD K d) S v := fun _ q => dp_ex q _ _ h
theorem perV : Per (IsV v) S v := fun _ _ => rfl
theorem Per.now (h : Per P S v) : P S v := h S (Evl.Ex.refl S)
theorem Per.ex (h : Per P S v) (e : Ex S S') : Per P S' v := fun S1 q => h S1 (e.trans q)
theorem Per.imp (h : Per P S v) (f : ∀ S1 v, P S1 v → P' S1 v) : Per P' S v := fun S1 q => f S1 v (h S1 q)
theorem Ev.ex (h : Ev te σ S P) (e : Ex S S') : Ev te σ S' P := fun S1 H1 a b Q q => h S1 H1 (e.trans a) b Q q
theorem EvT.ex {b : Bool} (h : EvT tt σ S b) (e : Ex S S') : EvT tt σ S' b := fun S1 H1 a c Q q => h S1 H1 (e.trans a) c Q q
theorem Ev.imp (h : Ev te σ S P) (f : ∀ S1 v, P S1 v → P' S1 v) : Ev te σ S P' := fun S1 H1 a b Q q => h S1 H1 a b Q fun v S2 H2 ok p => q v S2 H2 ok (p.imp f)
theorem ev_var {i : Nat} (h : σ[i]? = some (some v)) (p : Per P S v) : Ev (tVar i) σ S P := fun S1 H1 a b Q q => ⟨v, h, q v S1 H1 (Ok.refl b) (p.ex a)⟩
theorem ev_varD {i : Nat} (h : σ[i]? = some (some v)) (p : Dp K S v d) : Ev (tVar i) σ S (IsD K d) := ev_var h (perD p)
theorem ev_c (p : Per P S v) : Ev (tC v) σ S P := fun S1 H1 a b Q q => q v S1 H1 (Ok.refl b) (p.ex a)
theorem ev_int {i : Int} : Ev (tC (.int i)) σ S (IsD K (.int i)) := ev_c (perD (.int i))
theorem ev_str {x : Str} : Ev (tC (.str x)) σ S (IsD K (.str x)) := ev_c (perD (.str x))
theorem ev_bl {x : Bool} : Ev (tC (.bl x)) σ S (IsD K (.bool x)) := ev_c (perD (.bl x))
theorem ev_non : Ev (tC .non) σ S (IsD K .none) := ev_c (perD .non)
/-- a two-place operation that makes nothing -/
theorem ev_op (ha : Ev ta σ S P1) (hb : Ev tb σ S P2) (hr : ∀ S1 H1 x y Q, Ex S S1 → Ex S1 H1 → P1 S1 x → P2 S1 y → (∀ z, Per P S1 z → Q z H1) → r x y H1 Q) : Ev (tOp r ta tb) σ S P :=
  fun S1 H1 a b Q q => ha S1 H1 a b _ fun x S2 H2 ok2 p2 => hb S2 H2 (a.trans ok2.ss) ok2.sh _ fun y S3 H3 ok3 p3 =>
    hr S3 H3 x y Q ((a.trans ok2.ss).trans ok3.ss) ok3.sh (p2 S3 ok3.ss) p3.now fun z pz => q z S3 H3 (ok2.trans ok3) pz
theorem dpE (e : Ex S H) (h : Dp K S v d) : Dp K H v d := dp_ex e _ _ h
theorem ev_uEq (ha : Ev ta σ S (IsD K d)) (hb : Ev tb σ S (IsD K e)) (hm : min d.depth e.depth ≤ 60) : Ev (tOp (uEq K) ta tb) σ S (IsD K (.bool (PyData.eqv d e))) :=
  ev_op ha hb fun S1 H1 x y Q _ b p1 p2 q => ⟨d, e, dpE b p1, dpE b p2, hm, q _ (perD (.bl _))⟩
theorem ev_uNe (ha : Ev ta σ S (IsD K d)) (hb : Ev tb σ S (IsD K e)) (hm : min d.depth e.depth ≤ 60) : Ev (tOp (uNe K) ta tb) σ S (IsD K (.bool (!PyData.eqv d e))) :=
  ev_op ha hb fun S1 H1 x y Q _ b p1 p2 q => ⟨d, e, dpE b p1, dpE b p2, hm, q _ (perD (.bl _))⟩
theorem ev_uLt (ha : Ev ta σ S (IsD K d)) (hb : Ev tb σ S (IsD K e)) (hl : PySem.W.alike d e = true) (hn : d ≠ .none) (hm : min d.depth e.depth ≤ 60) : Ev (tOp (uLt K) ta tb) σ S (IsD K (.bool (PySem.W.dataLt d e))) :=
  ev_op ha hb fun S1 H1 x y Q _ b p1 p2 q => ⟨d, e, dpE b p1, dpE b p2, hl, hn, hm, q _ (perD (.bl _))⟩
theorem ev_uInL {ds : List PyData} (ha : Ev ta σ S (IsD K d)) (hb : Ev tb σ S (IsD K (.list ds))) (hm : min (PyData.depthAll ds) d.depth ≤ 60) : Ev (tOp (uIn K) ta tb) σ S (IsD K (.bool (ds.any fun z => PyData.eqv z d))) :=
  ev_op ha hb fun S1 H1 x y Q _ b p1 p2 q => .inl ⟨d, ds, dpE b p1, .inl (dpE b p2), hm, q _ (perD (.bl _))⟩
theorem ev_uInT {ds : List PyData} (ha : Ev ta σ S (IsD K d)) (hb : Ev tb σ S (IsD K (.tuple ds))) (hm : min (PyData.depthAll ds) d.depth ≤ 60) : Ev (tOp (uIn K) ta tb) σ S (IsD K (.bool (ds.any fun z => PyData.eqv z d))) :=
  ev_op ha hb fun S1 H1 x y Q _ b p1 p2 q => .inl ⟨d, ds, dpE b p1, .inr (dpE b p2), hm, q _ (perD (.bl _))⟩
theorem ev_uInS {i j : Str} (ha : Ev ta σ S (IsD K (.str i))) (hb : Ev tb σ S (IsD K (.str j))) : Ev (tOp (uIn K) ta tb) σ S (IsD K (.bool (!(Builtin.Str.occurrences j i 0 j.length 1).isEmpty))) :=
  ev_op ha hb fun S1 H1 x y Q _ b p1 p2 q => by cases p1; cases p2; exact .inr ⟨i, j, rfl, rfl, q _ (perD (.bl _))⟩
theorem ev_uNotInL {ds : List PyData} (ha : Ev ta σ S (IsD K d)) (hb : Ev tb σ S (IsD K (.list ds))) (hm : min (PyData.depthAll ds) d.depth ≤ 60) : Ev (tOp (uNotIn K) ta tb) σ S (IsD K (.bool (!ds.any fun z => PyData.eqv z d))) :=
  ev_op ha hb fun S1 H1 x y Q _ b p1 p2 q => .inl ⟨d, ds, dpE b p1, .inl (dpE b p2), hm, q _ (perD (.bl _))⟩
theorem ev_uNotInT {ds : List PyData} (ha : Ev ta σ S (IsD K d)) (hb : Ev tb σ S (IsD K (.tuple ds))) (hm : min (PyData.depthAll ds) d.depth ≤ 60) : Ev (tOp (uNotIn K) ta tb) σ S (IsD K (.bool (!ds.any fun z => PyData.eqv z d))) :=
  ev_op ha hb fun S1 H1 x y Q _ b p1 p2 q => .inl ⟨d, ds, dpE b p1, .inr (dpE b p2), hm, q _ (perD (.bl _))⟩
theorem ev_uNotInS {i j : Str} (ha : Ev ta σ S (IsD K (.str i))) (hb : Ev tb σ S (IsD K (.str j))) : Ev (tOp (uNotIn K) ta tb) σ S (IsD K (.bool (!(!(Builtin.Str.occurrences j i 0 j.length 1).isEmpty)))) :=
  ev_op ha hb fun S1 H1 x y Q _ b p1 p2 q => by cases p1; cases p2; exact .inr ⟨i, j, rfl, rfl, q _ (perD (.bl _))⟩
/-- ints -/
theorem ev_I0 {g : Int → Int → V} {i j : Int} (ha : Ev ta σ S (IsD K (.int i))) (hb : Ev tb σ S (IsD K (.int j))) (p : Per P S (g i j)) : Ev (tOp (rI0 g) ta tb) σ S P :=
  ev_op ha hb fun S1 H1 x y Q a b p1 p2 q => by cases p1; cases p2; exact ⟨i, j, rfl, rfl, q _ (p.ex a)⟩
theorem ev_I {C : Int → Int → Prop} {g : Int → Int → V} {i j : Int} (ha : Ev ta σ S (IsD K (.int i))) (hb : Ev tb σ S (IsD K (.int j))) (hc : C i j) (p : Per P S (g i j)) : Ev (tOp (rI C g) ta tb) σ S P :=
  ev_op ha hb fun S1 H1 x y Q a b p1 p2 q => by cases p1; cases p2; exact ⟨i, j, rfl, rfl, hc, q _ (p.ex a)⟩
/-- x is None -/
theorem ev_isN {b : Bool} (ha : Ev ta σ S P1) (hb : ∀ S1 x, P1 S1 x → decide (x = V.non) = b) : Ev (tIsN ta) σ S (IsD K (.bool b)) := fun S1 H1 a c Q q =>
  ha S1 H1 a c _ fun x S2 H2 ok p => by rw [hb S2 x p.now]; exact q _ S2 H2 ok (perD (.bl b))
theorem ev_notN {b : Bool} (ha : Ev ta σ S P1) (hb : ∀ S1 x, P1 S1 x → (!decide (x = V.non)) = b) : Ev (tNotN ta) σ S (IsD K (.bool b)) := fun S1 H1 a c Q q =>
  ha S1 H1 a c _ fun x S2 H2 ok p => by rw [hb S2 x p.now]; exact q _ S2 H2 ok (perD (.bl b))
/-! tests -/
theorem et_B {b : Bool} (h : Ev te σ S (IsD K (.bool b))) : EvT (tB te) σ S b := fun S1 H1 a c Q q => h S1 H1 a c _ fun v S2 H2 ok p => by
  have e := p.now; cases e; exact ⟨b, rfl, q S2 H2 ok⟩
theorem et_test {b : Bool} (h : Ev te σ S (IsD K (.bool b))) : EvT (tTest te) σ S b := fun S1 H1 a c Q q => h S1 H1 a c _ fun v S2 H2 ok p => by
  have e := p.now; cases e; exact ⟨b, rfl, q S2 H2 ok⟩
theorem et_and {a b : Bool} (h1 : EvT tt σ S a) (h2 : a = true → EvT tu σ S b) : EvT (tAnd tt tu) σ S (a && b) := fun S1 H1 e c Q q => h1 S1 H1 e c _ fun S2 H2 ok => by
  cases a with
  | true => exact h2 rfl S2 H2 (e.trans ok.ss) ok.sh Q fun S3 H3 ok3 => q S3 H3 (ok.trans ok3)
  | false => exact q S2 H2 ok
theorem et_or {a b : Bool} (h1 : EvT tt σ S a) (h2 : a = false → EvT tu σ S b) : EvT (tOr tt tu) σ S (a || b) := fun S1 H1 e c Q q => h1 S1 H1 e c _ fun S2 H2 ok => by
  cases a with
  | true => exact q S2 H2 ok
  | false => exact h2 rfl S2 H2 (e.trans ok.ss) ok.sh Q fun S3 H3 ok3 => q S3 H3 (ok.trans ok3)
theorem et_not {a : Bool} (h1 : EvT tt σ S a) : EvT (tNot tt) σ S (!a) := fun S1 H1 e c Q q => h1 S1 H1 e c _ fun S2 H2 ok => q S2 H2 ok
theorem et_is {a b : Bool} (h : EvT tt σ S a) (e : a = b) : EvT tt σ S b := e ▸ h
theorem ev_is (h : Ev te σ S (IsD K d)) (q : d = e) : Ev te σ S (IsD K e) := q ▸ h
theorem ev_andV {a b : Bool} (h1 : Ev ta σ S (IsD K (.bool a))) (h2 : a = true → Ev tb σ S (IsD K (.bool b))) : Ev (tAndV ta tb) σ S (IsD K (.bool (a && b))) := fun S1 H1 e c Q q => h1 S1 H1 e c _ fun v S2 H2 ok p => by
  have z := p.now; cases z
  refine ⟨a, rfl, ?_⟩
  cases a with
  | true => exact h2 rfl S2 H2 (e.trans ok.ss) ok.sh Q fun v S3 H3 ok3 p3 => q v S3 H3 (ok.trans ok3) p3
  | false => exact q _ S2 H2 ok (perD (.bl false))
theorem ev_orV {a b : Bool} (h1 : Ev ta σ S (IsD K (.bool a))) (h2 : a = false → Ev tb σ S (IsD K (.bool b))) : Ev (tOrV ta tb) σ S (IsD K (.bool (a || b))) := fun S1 H1 e c Q q => h1 S1 H1 e c _ fun v S2 H2 ok p => by
  have z := p.now; cases z
  refine ⟨a, rfl, ?_⟩
  cases a with
  | true => exact q _ S2 H2 ok (perD (.bl true))
  | false => exact h2 rfl S2 H2 (e.trans ok.ss) ok.sh Q fun v S3 H3 ok3 p3 => q v S3 H3 (ok.trans ok3) p3
theorem ev_notV {a : Bool} (h1 : Ev ta σ S (IsD K (.bool a))) : Ev (tNotV ta) σ S (IsD K (.bool (!a))) := fun S1 H1 e c Q q => h1 S1 H1 e c _ fun v S2 H2 ok p => by
  have z := p.now; cases z
  exact ⟨a, rfl, q _ S2 H2 ok (perD (.bl _))⟩
theorem ev_if {b : Bool} (h : EvT tt σ S b) (h1 : b = true → Ev ta σ S P) (h2 : b = false → Ev tb σ S P) : Ev (tIf tt ta tb) σ S P := fun S1 H1 e c Q q => h S1 H1 e c _ fun S2 H2 ok => by
  cases b with
  | true => exact h1 rfl S2 H2 (e.trans ok.ss) ok.sh Q fun v S3 H3 ok3 p3 => q v S3 H3 (ok.trans ok3) p3
  | false => exact h2 rfl S2 H2 (e.trans ok.ss) ok.sh Q fun v S3 H3 ok3 p3 => q v S3 H3 (ok.trans ok3) p3
theorem ev_inl {tl tr : TE} (h : Ev tl σ S P) : Ev (fun σ H Q => tl σ H Q ∨ tr σ H Q) σ S P := fun S1 H1 e c Q q => .inl (h S1 H1 e c Q q)
theorem ev_inr {tl tr : TE} (h : Ev tr σ S P) : Ev (fun σ H Q => tl σ H Q ∨ tr σ H Q) σ S P := fun S1 H1 e c Q q => .inr (h S1 H1 e c Q q)
/-! argument lists -/
theorem ea_nil : EvA tNil σ S (fun _ vs => vs = []) := fun S1 H1 a b Q q => q [] S1 H1 (Ok.refl b) fun _ _ => rfl
abbrev ConsP (P : Hp → V → Prop) (R : Hp → List V → Prop) : Hp → List V → Prop := fun S vs => ∃ v r, vs = v :: r ∧ P S v ∧ R S r
abbrev NilP : Hp → List V → Prop := fun _ vs => vs = []
theorem ea_cons {tr : TA} {R : Hp → List V → Prop} (h : Ev te σ S P) (hr : EvA tr σ S R) : EvA (tCons te tr) σ S (ConsP P R) := fun S1 H1 a b Q q =>
  h S1 H1 a b _ fun v S2 H2 ok p => hr S2 H2 (a.trans ok.ss) ok.sh _ fun vs S3 H3 ok3 p3 => q _ S3 H3 (ok.trans ok3) fun S4 e => ⟨v, vs, rfl, p S4 (ok3.ss.trans e), p3 S4 e⟩
theorem ea1 (h : Ev te σ S P) : EvA (tCons te tNil) σ S (ConsP P NilP) := ea_cons h ea_nil
theorem ea2 (h : Ev ta σ S P1) (h2 : Ev tb σ S P2) : EvA (tCons ta (tCons tb tNil)) σ S (ConsP P1 (ConsP P2 NilP)) := ea_cons h (ea_cons h2 ea_nil)
theorem ea3 {P3 : Hp → V → Prop} (h : Ev ta σ S P1) (h2 : Ev tb σ S P2) (h3 : Ev tc σ S P3) : EvA (tCons ta (tCons tb (tCons tc tNil))) σ S (ConsP P1 (ConsP P2 (ConsP P3 NilP))) := ea_cons h (ea_cons h2 (ea_cons h3 ea_nil))
/-- a call of a built-in by values that makes nothing -/
theorem ev_cb {r : List V → Hp → VK → Prop} {t : TA} {R : Hp → List V → Prop} (h : EvA t σ S R) (hr : ∀ S1 H1 vs Q, Ex S S1 → Ex S1 H1 → R S1 vs → (∀ z, Per P S1 z → Q z H1) → r vs H1 Q) : Ev (tCB r t) σ S P := fun S1 H1 a b Q q =>
  h S1 H1 a b _ fun vs S2 H2 ok p => hr S2 H2 vs Q (a.trans ok.ss) ok.sh (p S2 (Evl.Ex.refl S2)) fun z pz => q z S2 H2 ok pz
/-- .. that makes one object -/
theorem ev_cbN {r : List V → Hp → VK → Prop} {t : TA} {R : Hp → List V → Prop} (o : HO) (h : EvA t σ S R) (hr : ∀ S1 H1 vs Q, Ex S S1 → Ex S1 H1 → R S1 vs → (∀ p o, H1 p = none → Per P (upd S1 p o) (.ref p) → Q (.ref p) (upd H1 p o)) → r vs H1 Q) : Ev (tCB r t) σ S P := fun S1 H1 a b Q q =>
  h S1 H1 a b _ fun vs S2 H2 ok p => hr S2 H2 vs Q (a.trans ok.ss) ok.sh (p S2 (Evl.Ex.refl S2)) fun p o hp pz => q _ _ _ (ok.new hp) pz
/-- a new tuple -/
theorem ev_tup {t : TA} {R : Hp → List V → Prop} (h : EvA t σ S R) (hl : ∀ S1 vs, R S1 vs → vs.length ≤ 100000) (hp : ∀ S1 vs p, PerA R S1 vs → Per P (upd S1 p (.tup vs)) (.ref p) ∨ S1 p ≠ none) : Ev (tTup t) σ S P := fun S1 H1 a b Q q =>
  h S1 H1 a b _ fun vs S2 H2 ok pr => ⟨Evl.sz_of (hl S2 vs (pr S2 (Evl.Ex.refl S2))), fun p hn => q _ _ _ (ok.new hn) ((hp S2 vs p pr).resolve_right fun z => z (none_of ok.sh hn))⟩
end
end DL


set_option Elab.async false
set_option linter.all false
set_option maxRecDepth 100000
set_option maxHeartbeats 4000000
/-! DL2: new lists, walks, comprehensions, calls, statements, loops. -/
namespace DL
open PySem L2 PySem.Spec PyProof.Rows
open PySem.W (Datum Tup)

/-! ### new lists -/
def EvL (te : TE) (σ : L2.St) (S : Hp) (R : Hp → List V → Prop) : Prop :=
  ∀ S1 H1, Ex S S1 → Ex S1 H1 → ∀ Q : VK, (∀ l S2 H2 vs, Ok S1 H1 S2 H2 → H1 l = none → S2 l = none → H2 l = some (.lst vs) → PerA R S2 vs → vs.length ≤ 100000 → Q (.ref l) H2) → te σ H1 Q
abbrev AreD (K : PySem.W.Frag) (ds : List PyData) : Hp → List V → Prop := fun S vs => DpAll K S vs ds
def AllP {κ : Type} (P : κ → Hp → V → Prop) (ks : List κ) : Hp → List V → Prop := fun S vs => Paired (fun v k => P k S v) vs ks
section
variable {K : PySem.W.Frag} {σ : L2.St} {S S' H H' : Hp} {ta tb te tc : TE} {tt tu : TT} {P P' P1 P2 : Hp → V → Prop} {R R' : Hp → List V → Prop} {v w : V} {vs : List V} {d e : PyData} {ds : List PyData}
theorem PerA.now (h : PerA R S vs) : R S vs := h S (Evl.Ex.refl S)
theorem PerA.ex (h : PerA R S vs) (e : Ex S S') : PerA R S' vs := fun S1 q => h S1 (e.trans q)
theorem PerA.imp (h : PerA R S vs) (f : ∀ S1 vs, R S1 vs → R' S1 vs) : PerA R' S vs := fun S1 q => f S1 vs (h S1 q)
theorem perDs (h : DpAll K S vs ds) : PerA (AreD K ds) S vs := fun _ q => dps_ex q _ _ h
theorem EvL.ex (h : EvL te σ S R) (e : Ex S S') : EvL te σ S' R := fun S1 H1 a b Q q => h S1 H1 (e.trans a) b Q q
theorem EvL.imp (h : EvL te σ S R) (f : ∀ S1 vs, R S1 vs → R' S1 vs) : EvL te σ S R' := fun S1 H1 a b Q q => h S1 H1 a b Q fun l S2 H2 vs ok h1 h2 h3 p z => q l S2 H2 vs ok h1 h2 h3 (p.imp f) z
theorem paired_dps : ∀ {vs : List V} {ds : List PyData}, Paired (fun v d => Dp K S v d) vs ds → DpAll K S vs ds
  | _, _, .nil => .nil
  | _, _, .cons h t => .cons h (paired_dps t)
theorem paired_map {κ : Type} {F : V → PyData → Prop} {G : V → κ → Prop} {f : κ → PyData} (h : ∀ v k, G v k → F v (f k)) : ∀ {vs : List V} {ks : List κ}, Paired G vs ks → Paired F vs (ks.map f)
  | _, _, .nil => .nil
  | _, _, .cons a t => .cons (h _ _ a) (paired_map h t)
theorem allP_dps {κ : Type} {f : κ → PyData} {ks : List κ} (h : AllP (fun k => IsD K (f k)) ks S vs) : DpAll K S vs (ks.map f) := paired_dps (paired_map (G := fun v k => Dp K S v (f k)) (fun _ _ q => q) h)
theorem dps_bools : ∀ (bs : List Bool) (ws : List V), DpAll K S ws (bs.map PyData.bool) → ws = bs.map V.bl
  | [], _, h => by cases h; rfl
  | c :: cs, _, h => by
    cases h with
    | cons x y => cases x; rw [List.map_cons, dps_bools cs _ y]
/-- a new list as a value that will not change -/
theorem EvL.ev (h : EvL te σ S R) (hp : ∀ S1 l vs, S1 l = some (.lst vs) → PerA R S1 vs → Per P S1 (.ref l)) : Ev te σ S P := fun S1 H1 a b Q q =>
  h S1 H1 a b Q fun l S2 H2 vs ok h1 h2 h3 p _ => q _ _ _ (ok.freeze h1 h2 h3) (hp _ l vs upd_same (p.ex (Evl.Ex.new h2)))
theorem EvL.evD (h : EvL te σ S (AreD K ds)) : Ev te σ S (IsD K (.list ds)) := h.ev fun S1 l vs h1 p => perD (.lst (SqL.of h1) p.now)
theorem dps_cons_of {P : Hp → V → Prop} {R : Hp → List V → Prop} (hp : ∀ S v, P S v → Dp K S v d) (hr : ∀ S vs, R S vs → DpAll K S vs ds) : ∀ S vs, ConsP P R S vs → DpAll K S vs (d :: ds) := fun S vs ⟨v, r, e, h1, h2⟩ => by
  subst e; exact .cons (hp S v h1) (hr S r h2)
/-! displays of data -/
theorem EvA.imp {t : TA} (h : EvA t σ S R) (f : ∀ S1 vs, R S1 vs → R' S1 vs) : EvA t σ S R' := fun S1 H1 a b Q q => h S1 H1 a b Q fun vs S2 H2 ok p => q vs S2 H2 ok (p.imp f)
theorem EvA.ex {t : TA} (h : EvA t σ S R) (e : Ex S S') : EvA t σ S' R := fun S1 H1 a b Q q => h S1 H1 (e.trans a) b Q q
theorem ead_nil : EvA tNil σ S (AreD K []) := ea_nil.imp fun _ _ e => by subst e; exact .nil
theorem ead_cons {t : TA} (h : Ev te σ S (IsD K d)) (hr : EvA t σ S (AreD K ds)) : EvA (tCons te t) σ S (AreD K (d :: ds)) := (ea_cons h hr).imp (dps_cons_of (fun _ _ q => q) fun _ _ q => q)
theorem ev_tupD {t : TA} (h : EvA t σ S (AreD K ds)) (hl : ds.length ≤ 100000) : Ev (tTup t) σ S (IsD K (.tuple ds)) :=
  ev_tup h (fun S1 vs r => by rw [dps_len r]; exact hl) fun S1 vs p r => by
    by_cases hn : S1 p = none
    · exact .inl (perD (.tup (SqT.of upd_same) (dps_ex (Evl.Ex.new hn) _ _ r.now)))
    · exact .inr hn
theorem el_lst {t : TA} (h : EvA t σ S R) (hl : ∀ S1 vs, R S1 vs → vs.length ≤ 100000) : EvL (tLst t) σ S R := fun S1 H1 a b Q q =>
  h S1 H1 a b _ fun vs S2 H2 ok pr => ⟨Evl.sz_of (hl S2 vs pr.now), fun p hn => q p S2 _ vs (ok.newH hn) (none_of ok.hh hn) (none_of ok.sh hn) upd_same pr (hl S2 vs pr.now)⟩
theorem el_lstD {t : TA} (h : EvA t σ S (AreD K ds)) (hl : ds.length ≤ 100000) : EvL (tLst t) σ S (AreD K ds) := el_lst h fun S1 vs r => by rw [dps_len r]; exact hl

/-! ### what is walked -/
structure Yields {ι : Type} (J : It) (S : Hp) (ys : List ι) (Z : ι → Hp → V → Prop) : Prop where
  stop : ∀ i H, ys.length ≤ i → Ex S H → J.stop i H
  go : ∀ i H, i < ys.length → Ex S H → J.go i H
  yld : ∀ i y S1 H x H', ys[i]? = some y → Ex S S1 → Ex S1 H → J.yld i H x H' → ∃ S2, Ok S1 H S2 H' ∧ Per (Z y) S2 x
def EvI {ι : Type} (wi : TI) (σ : L2.St) (S : Hp) (ys : List ι) (Z : ι → Hp → V → Prop) : Prop :=
  ∀ S1 H1, Ex S S1 → Ex S1 H1 → ∀ Rr : It → Hp → Prop, (∀ J S2 H2, Ok S1 H1 S2 H2 → Yields J S2 ys Z → Rr J H2) → wi σ H1 Rr
theorem EvI.ex {ι : Type} {wi : TI} {ys : List ι} {Z : ι → Hp → V → Prop} (h : EvI wi σ S ys Z) (e : Ex S S') : EvI wi σ S' ys Z := fun S1 H1 a b Q q => h S1 H1 (e.trans a) b Q q
theorem yields_list {ι : Type} {ys : List ι} {Z : ι → Hp → V → Prop} {a : Addr} (h : SqL K S a vs) (hz : PerA (AllP Z ys) S vs) (hl : vs.length = ys.length) : Yields (Itl K a) S ys Z where
  stop := fun i H hi e => ⟨vs, Evl.ex_l e h, by omega⟩
  go := fun i H hi e => by
    obtain ⟨x, hx⟩ : ∃ x, vs[i]? = some x := ⟨vs[i]'(by omega), List.getElem?_eq_getElem _⟩
    exact ⟨vs, x, Evl.ex_l e h, hx⟩
  yld := fun i y S1 H x H' hy a b yl => by
    obtain ⟨rfl, f⟩ := yl
    have hx := f vs (Evl.ex_l (a.trans b) h)
    refine ⟨S1, Ok.refl b, fun S3 e3 => ?_⟩
    have q : Paired (fun v k => Z k S3 v) vs ys := hz S3 (a.trans e3)
    obtain ⟨k, hk, r⟩ := paired_get q hx
    rw [hy] at hk; cases hk
    exact r
theorem yields_tup {ι : Type} {ys : List ι} {Z : ι → Hp → V → Prop} {a : Addr} (h : SqT K S a vs) (hz : PerA (AllP Z ys) S vs) (hl : vs.length = ys.length) : Yields (Itt K a) S ys Z where
  stop := fun i H hi e => ⟨vs, Evl.ex_t e h, by omega⟩
  go := fun i H hi e => by
    obtain ⟨x, hx⟩ : ∃ x, vs[i]? = some x := ⟨vs[i]'(by omega), List.getElem?_eq_getElem _⟩
    exact ⟨vs, x, Evl.ex_t e h, hx⟩
  yld := fun i y S1 H x H' hy a b yl => by
    obtain ⟨rfl, f⟩ := yl
    have hx := f vs (Evl.ex_t (a.trans b) h)
    refine ⟨S1, Ok.refl b, fun S3 e3 => ?_⟩
    have q : Paired (fun v k => Z k S3 v) vs ys := hz S3 (a.trans e3)
    obtain ⟨k, hk, r⟩ := paired_get q hx
    rw [hy] at hk; cases hk
    exact r
theorem dps_paired : ∀ {vs : List V} {ds : List PyData}, DpAll K S vs ds → Paired (fun v d => Dp K S v d) vs ds
  | _, [], h => by cases h; exact .nil
  | _, d :: ds, h => by
    cases h with
    | cons h1 h2 => exact .cons h1 (dps_paired h2)
theorem per_dps (h : DpAll K S vs ds) : PerA (AllP (IsD K) ds) S vs := fun _ q => dps_paired (dps_ex q _ _ h)
theorem ei_tup (h : Ev te σ S (IsD K (.tuple ds))) : EvI (iTup K te) σ S ds (IsD K) := fun S1 H1 a b Rr q => h S1 H1 a b _ fun v S2 H2 ok p => by
  obtain ⟨ad, vs, rfl, hs, ha⟩ := dp_tuple.mp p.now
  exact ⟨ad, rfl, ⟨vs, Evl.ex_t ok.sh hs⟩, q _ S2 H2 ok (yields_tup hs (per_dps ha) (dps_len ha))⟩
theorem ei_list (h : Ev te σ S (IsD K (.list ds))) : EvI (iList K te) σ S ds (IsD K) := fun S1 H1 a b Rr q => h S1 H1 a b _ fun v S2 H2 ok p => by
  obtain ⟨ad, vs, rfl, hs, ha⟩ := dp_list.mp p.now
  exact ⟨ad, rfl, ⟨vs, Evl.ex_l ok.sh hs⟩, q _ S2 H2 ok (yields_list hs (per_dps ha) (dps_len ha))⟩
/-- over a new list of anything -/
theorem ei_listP {ι : Type} {ys : List ι} {Z : ι → Hp → V → Prop} (h : Ev te σ S (fun S v => ∃ a vs, v = V.ref a ∧ SqL K S a vs ∧ PerA (AllP Z ys) S vs ∧ vs.length = ys.length)) : EvI (iList K te) σ S ys Z := fun S1 H1 a b Rr q => h S1 H1 a b _ fun v S2 H2 ok p => by
  obtain ⟨ad, vs, rfl, hs, ha, hl⟩ := p.now
  exact ⟨ad, rfl, ⟨vs, Evl.ex_l ok.sh hs⟩, q _ S2 H2 ok (yields_list hs ha hl)⟩
theorem ei_str {x : Str} (h : Ev te σ S (IsD K (.str x))) : EvI (iStr te) σ S (x.cps.toList) (fun c => IsD K (.str ⟨#[c]⟩)) := fun S1 H1 a b Rr q => h S1 H1 a b _ fun v S2 H2 ok p => by
  have e := p.now; cases e
  refine ⟨x, rfl, q _ S2 H2 ok ⟨fun i H hi _ => ?_, fun i H hi _ => ?_, fun i y S3 H x' H' hy a b yl => ?_⟩⟩
  · show x.cps.size ≤ i
    simpa using hi
  · show i < x.cps.size
    simpa using hi
  · obtain ⟨rfl, c, hc, rfl⟩ := yl
    refine ⟨S3, Ok.refl b, ?_⟩
    have : y = c := by
      rw [Array.getElem?_toList, hc] at hy
      exact (Option.some.inj hy).symm
    subst this
    exact perD (.str _)
theorem ei_rng1 {t : TA} {n : Nat} (h : EvA t σ S (AreD K [.int n])) (hn : n ≤ 100000) : EvI (iRng1 t) σ S (List.range n) (fun i => IsD K (.int (i : Int))) := fun S1 H1 a b Rr q => h S1 H1 a b _ fun vs S2 H2 ok p => by
  have e := p.now
  cases e with
  | cons h1 h2 =>
    cases h2; cases h1
    refine ⟨n, rfl, by omega, by omega, q _ S2 H2 ok ⟨fun i H hi _ => ?_, fun i H hi _ => ?_, fun i y S3 H x' H' hy a b yl => ?_⟩⟩
    · show (n : Int).toNat ≤ i
      rw [List.length_range] at hi
      omega
    · show i < (n : Int).toNat
      rw [List.length_range] at hi
      omega
    · obtain ⟨rfl, rfl⟩ := yl
      refine ⟨S3, Ok.refl b, ?_⟩
      have hi : i < n := by
        have := (List.getElem?_eq_some_iff.mp hy).1
        rwa [List.length_range] at this
      have : y = i := by
        rw [List.getElem?_range hi] at hy
        exact (Option.some.inj hy).symm
      subst this
      rw [Int.zero_add]
      exact perD (.int _)

/-! ### targets -/
def EvG (g : TG) (x : V) (σ : L2.St) (S : Hp) (σ2 : L2.St) : Prop := ∀ H1, Ex S H1 → ∀ Q, Q σ2 H1 → g x σ H1 Q
theorem eg_name {i : Nat} {x : V} : EvG (gName i) x σ S (σ.set i (some x)) := fun _ _ _ q => q
def EvGs (g : TGs) (xs : List V) (σ : L2.St) (S : Hp) (σ2 : L2.St) : Prop := ∀ H1, Ex S H1 → ∀ Q, Q σ2 H1 → g xs σ H1 Q
theorem egs_nil : EvGs gNil [] σ S σ := fun _ _ _ q => ⟨rfl, q⟩
theorem egs_cons {g : TG} {gs : TGs} {x : V} {xs : List V} {σ1 σ2 : L2.St} (h : EvG g x σ S σ1) (hr : EvGs gs xs σ1 S σ2) : EvGs (gCons g gs) (x :: xs) σ S σ2 := fun H1 e Q q => ⟨x, xs, rfl, h H1 e _ (hr H1 e Q q)⟩
theorem eg_tup {n : Nat} {gs : TGs} {a : Addr} {xs : List V} {σ2 : L2.St} (h : SqT K S a xs) (hl : xs.length = n) (hg : EvGs gs xs σ S σ2) : EvG (gTup K n gs) (.ref a) σ S σ2 := fun H1 e Q q => ⟨a, xs, rfl, Evl.ex_t e h, hl, hg H1 e Q q⟩
theorem EvG.ex {g : TG} {x : V} {σ2 : L2.St} (h : EvG g x σ S σ2) (e : Ex S S') : EvG g x σ S' σ2 := fun H1 a Q q => h H1 (e.trans a) Q q

/-! ### comprehensions -/
theorem paired_snoc {α β : Type} {F : α → β → Prop} {a : α} {b : β} : ∀ {xs : List α} {ys : List β}, Paired F xs ys → F a b → Paired F (xs ++ [a]) (ys ++ [b])
  | _, _, .nil, h => .cons h .nil
  | _, _, .cons r t, h => .cons r (paired_snoc t h)
theorem paired_len {α β : Type} {F : α → β → Prop} {xs : List α} {ys : List β} (h : Paired F xs ys) : xs.length = ys.length := Paired.length h
theorem el_lc {ι κ : Type} {wi : TI} {g : TG} {vs : List Nat} {ys : List ι} {Z : ι → Hp → V → Prop} {Pk : κ → Hp → V → Prop} (b : ι → Bool) (f : ι → κ) (h : EvI wi σ S ys Z) (hn : ys.length ≤ 50000)
    (hel : ∀ y S1 x, y ∈ ys → Ex S S1 → Per (Z y) S1 x → ∃ σ2, EvG g x (wipe σ vs) S1 σ2 ∧ wipe σ2 vs = wipe σ vs ∧ EvT tt σ2 S1 (b y) ∧ (b y = true → Ev te σ2 S1 (Pk (f y)))) :
    EvL (tLc wi g tt te vs) σ S (AllP Pk ((ys.filter b).map f)) := fun S1 H1 a1 b1 Q q => h S1 H1 a1 b1 _ fun J S2 H2 ok2 yl D hD => by
  have hS2 : S2 D = none := none_of ok2.sh hD
  refine ⟨fun i m H => m = ys.length - i ∧ i ≤ ys.length ∧ ∃ S' acc, Ok S2 H2 S' H ∧ S' D = none ∧ H D = some (.lst acc) ∧ PerA (AllP Pk (((ys.take i).filter b).map f)) S' acc, ⟨ys.length, rfl, Nat.zero_le _, S2, [], (Ok.refl ok2.sh).newH hD, hS2, upd_same, fun _ _ => ?_⟩, ?_⟩
  · rw [List.take_zero]; exact .nil
  rintro i m H ⟨rfl, hi, S', acc, ok', hSD, hHD, hacc⟩
  by_cases hlt : i < ys.length
  · refine .inr ⟨yl.go i H hlt (ok'.ss.trans ok'.sh), fun H' => i + 1 ≤ ys.length ∧ ∃ S' acc, Ok S2 H2 S' H' ∧ S' D = none ∧ H' D = some (.lst acc) ∧ PerA (AllP Pk (((ys.take (i + 1)).filter b).map f)) S' acc, fun H' ⟨p1, p2⟩ => ⟨ys.length - (i + 1), by omega, rfl, p1, p2⟩, fun x H' yx => ?_⟩
    have hy : ys[i]? = some ys[i] := List.getElem?_eq_getElem hlt
    obtain ⟨S3, ok3, pz⟩ := yl.yld i ys[i] S' H x H' hy ok'.ss ok'.sh yx
    obtain ⟨σ2, eg, hw, et, ee⟩ := hel ys[i] S3 x (List.getElem_mem hlt) ((a1.trans ok2.ss).trans (ok'.ss.trans ok3.ss)) pz
    have okk := ok'.trans ok3
    have hSD3 : S3 D = none := ok3.av D _ hSD hHD
    have hHD3 : H' D = some (.lst acc) := ok3.hh D _ hHD
    refine eg H' ok3.sh _ ⟨hw, et S3 H' (Evl.Ex.refl S3) ok3.sh _ fun S4 H4 ok4 => ?_⟩
    have htk : ys.take (i + 1) = ys.take i ++ [ys[i]] := by rw [List.take_succ, hy]; rfl
    cases hb : b ys[i] with
    | true =>
      rw [if_pos rfl]
      refine ee hb S4 H4 ok4.ss ok4.sh _ fun y S5 H5 ok5 py => ?_
      have okf := okk.trans (ok4.trans ok5)
      have hSD5 : S5 D = none := ok5.av D _ (ok4.av D _ hSD3 hHD3) (ok4.hh D _ hHD3)
      have hHD5 : H5 D = some (.lst acc) := ok5.hh D _ (ok4.hh D _ hHD3)
      have hal : acc.length ≤ ys.length := by
        have h1 := paired_len hacc.now
        rw [List.length_map] at h1
        have h2 := List.length_filter_le b (ys.take i)
        rw [List.length_take] at h2
        omega
      refine ⟨acc, hHD5, Evl.sz_lt (by omega), hlt, S5, acc ++ [y], okf.mut hD hSD5, hSD5, upd_same, fun S6 e6 => ?_⟩
      rw [htk, List.filter_append, List.map_append, List.filter_cons, if_pos hb]
      exact paired_snoc (hacc S6 ((ok3.ss.trans (ok4.ss.trans ok5.ss)).trans e6)) (py S6 e6)
    | false =>
      rw [if_neg Bool.false_ne_true]
      refine ⟨hlt, S4, acc, okk.trans ok4, ok4.av D _ hSD3 hHD3, ok4.hh D _ hHD3, fun S6 e6 => ?_⟩
      rw [htk, List.filter_append, List.map_append, List.filter_cons, if_neg (by rw [hb]; exact Bool.false_ne_true)]
      rw [List.filter_nil, List.map_nil, List.append_nil]
      exact hacc S6 ((ok3.ss.trans ok4.ss).trans e6)
  · have e : i = ys.length := by omega
    subst e
    rw [List.take_length] at hacc
    refine .inl ⟨yl.stop _ H (Nat.le_refl _) (ok'.ss.trans ok'.sh), q D S' H acc (ok2.trans ok') (none_of ok2.hh hD) hSD hHD hacc ?_⟩
    have h1 := paired_len hacc.now
    rw [List.length_map] at h1
    have h2 := List.length_filter_le b ys
    omega
/-- .. of data -/
theorem el_lcD {ι : Type} {wi : TI} {g : TG} {vs : List Nat} {ys : List ι} {Z : ι → Hp → V → Prop} (b : ι → Bool) (f : ι → PyData) (h : EvI wi σ S ys Z) (hn : ys.length ≤ 50000)
    (hel : ∀ y S1 x, y ∈ ys → Ex S S1 → Per (Z y) S1 x → ∃ σ2, EvG g x (wipe σ vs) S1 σ2 ∧ wipe σ2 vs = wipe σ vs ∧ EvT tt σ2 S1 (b y) ∧ (b y = true → Ev te σ2 S1 (IsD K (f y)))) :
    EvL (tLc wi g tt te vs) σ S (AreD K ((ys.filter b).map f)) := (el_lc (Pk := fun d => IsD K d) b f h hn hel).imp fun _ _ q => paired_dps q
theorem et_yes : EvT tYes σ S true := fun S1 H1 _ b Q q => q S1 H1 (Ok.refl b)

/-! ### calls of defs -/
def SpOf {ι : Type} (A : ι → Hp → List V → Prop) (P : ι → Hp → V → Prop) : Sp := fun vs H Q _ => ∃ i S, Ex S H ∧ PerA (A i) S vs ∧ ∀ v S' H', Ok S H S' H' → Per (P i) S' v → Q v H'
theorem ev_call {ι : Type} {A : ι → Hp → List V → Prop} {Pf : ι → Hp → V → Prop} {E : XK} {t : TA} (i : ι) (h : EvA t σ S (A i)) : Ev (tCall (SpOf A Pf) [] E t) σ S (Pf i) := fun S1 H1 a b Q q => h S1 H1 a b _ fun vs S2 H2 ok p => by
  rw [List.append_nil]
  exact ⟨i, S2, ok.sh, p, fun v S3 H3 ok3 p3 => q v S3 H3 (ok.trans ok3) p3⟩
/-- a def of data: arguments ds under pre, the answer f ds -/
def SpD (K : PySem.W.Frag) (pre : List PyData → Prop) (f : List PyData → PyData) : Sp := SpOf (ι := { ds : List PyData // pre ds }) (fun i => AreD K i.1) (fun i => IsD K (f i.1))
theorem ev_callD {pre : List PyData → Prop} {f : List PyData → PyData} {E : XK} {t : TA} (h : EvA t σ S (AreD K ds)) (hp : pre ds) : Ev (tCall (SpD K pre f) [] E t) σ S (IsD K (f ds)) := ev_call (ι := { ds : List PyData // pre ds }) ⟨ds, hp⟩ h

/-! ### built-ins -/
theorem ev_all {t : TA} {bs : List Bool} (h : EvA t σ S (AreD K [.list (bs.map PyData.bool)])) : Ev (tCB (rAll K) t) σ S (IsD K (.bool (bs.all id))) :=
  ev_cb h fun S1 H1 vs Q a b r q => by
    cases r with
    | cons h1 h2 =>
      cases h2
      obtain ⟨ad, ws, rfl, hs, ha⟩ := dp_list.mp h1
      refine ⟨ad, bs, rfl, ?_, q _ (perD (.bl _))⟩
      have e := dps_bools bs ws ha
      rw [← e]; exact Evl.ex_l b hs
theorem ev_any {t : TA} {bs : List Bool} (h : EvA t σ S (AreD K [.list (bs.map PyData.bool)])) : Ev (tCB (rAny K) t) σ S (IsD K (.bool (bs.any id))) :=
  ev_cb h fun S1 H1 vs Q a b r q => by
    cases r with
    | cons h1 h2 =>
      cases h2
      obtain ⟨ad, ws, rfl, hs, ha⟩ := dp_list.mp h1
      refine ⟨ad, bs, rfl, ?_, q _ (perD (.bl _))⟩
      have e := dps_bools bs ws ha
      rw [← e]; exact Evl.ex_l b hs
/-- len of data: a text, a list, a tuple -/
def rLenU (K : PySem.W.Frag) : List V → Hp → VK → Prop := fun xs H Q => ∃ x n, xs = [x] ∧ LenV K x H n ∧ Q (.int n) H
theorem call_lenU {X : Cx} : CallR X (.builtin "len") (rLenU X.K) := call_len
theorem ev_lenS {t : TA} {x : Str} (h : EvA t σ S (AreD K [.str x])) (hx : x.length ≤ 100000) : Ev (tCB (rLenU K) t) σ S (IsD K (.int x.length)) :=
  ev_cb h fun S1 H1 vs Q a b r q => by
    cases r with
    | cons h1 h2 =>
      cases h2; cases h1
      exact ⟨_, _, rfl, ⟨Evl.sz_of hx, rfl⟩, q _ (perD (.int _))⟩
theorem ev_lenT {t : TA} (h : EvA t σ S (AreD K [.tuple ds])) : Ev (tCB (rLenU K) t) σ S (IsD K (.int ds.length)) :=
  ev_cb h fun S1 H1 vs Q a b r q => by
    cases r with
    | cons h1 h2 =>
      cases h2
      obtain ⟨ad, ws, rfl, hs, ha⟩ := dp_tuple.mp h1
      exact ⟨_, _, rfl, .inr ⟨ws, Evl.ex_t b hs, rfl⟩, by rw [dps_len ha]; exact q _ (perD (.int _))⟩
theorem ev_lenL {t : TA} (h : EvA t σ S (AreD K [.list ds])) : Ev (tCB (rLenU K) t) σ S (IsD K (.int ds.length)) :=
  ev_cb h fun S1 H1 vs Q a b r q => by
    cases r with
    | cons h1 h2 =>
      cases h2
      obtain ⟨ad, ws, rfl, hs, ha⟩ := dp_list.mp h1
      exact ⟨_, _, rfl, .inl ⟨ws, Evl.ex_l b hs, rfl⟩, by rw [dps_len ha]; exact q _ (perD (.int _))⟩
theorem ev_isi {t : TE} {n : String} {b : Bool} (h : Ev te σ S (IsD K d)) (hk : kitB (tyName d) n = some b) : Ev (tCB (rIsi K) (tCons te (tCons (tC (.ty n)) tNil))) σ S (IsD K (.bool b)) :=
  ev_cb (ea2 h (ev_c (P := IsV (.ty n)) perV)) fun S1 H1 vs Q a c r q => by
    obtain ⟨v, r1, rfl, h1, v2, r2, rfl, h2, h3⟩ := r
    cases h2; cases h3
    exact ⟨v, .ty n, _, _, b, rfl, .ty n, dp_tyX (dpE c h1), kit_ty hk, q _ (perD (.bl b))⟩
/-- tuple(xs) of a list -/
def rTupU (K : PySem.W.Frag) : List V → Hp → VK → Prop := fun xs H Q => ∃ p ys, xs = [.ref p] ∧ ((SqL K H p ys ∧ ∀ l, H l = none → Q (.ref l) (upd H l (.tup ys))) ∨ (SqT K H p ys ∧ Q (.ref p) H))
theorem call_tupU {X : Cx} : CallR X (.type "tuple") (rTupU X.K) := call_tuple_of
theorem ev_tupOf {t : TA} (h : EvA t σ S (AreD K [.list ds])) : Ev (tCB (rTupU K) t) σ S (IsD K (.tuple ds)) := fun S1 H1 a b Q q => h S1 H1 a b _ fun vs S2 H2 ok p => by
  have r := p.now
  cases r with
  | cons h1 h2 =>
    cases h2
    obtain ⟨ad, ws, rfl, hs, ha⟩ := dp_list.mp h1
    refine ⟨ad, ws, rfl, .inl ⟨Evl.ex_l ok.sh hs, fun l hl => q _ _ _ (ok.new hl) (perD (.tup (SqT.of upd_same) (dps_ex (Evl.Ex.new (none_of ok.sh hl)) _ _ ha)))⟩⟩
def rListU (K : PySem.W.Frag) : List V → Hp → VK → Prop := fun xs H Q => ∃ p ys, xs = [.ref p] ∧ (SqL K H p ys ∨ SqT K H p ys) ∧ ∀ l, H l = none → Q (.ref l) (upd H l (.lst ys))
theorem call_listU {X : Cx} : CallR X (.type "list") (rListU X.K) := call_list_of
theorem el_listOf {t : TA} (h : EvA t σ S (fun S vs => ∃ v, vs = [v] ∧ (Dp K S v (.list ds) ∨ Dp K S v (.tuple ds)))) (hl : ds.length ≤ 100000) : EvL (tCB (rListU K) t) σ S (AreD K ds) := fun S1 H1 a b Q q => h S1 H1 a b _ fun vs S2 H2 ok p => by
  obtain ⟨v, rfl, h1⟩ := p.now
  rcases h1 with h1 | h1
  · obtain ⟨ad, ws, rfl, hs, ha⟩ := dp_list.mp h1
    exact ⟨ad, ws, rfl, .inl (Evl.ex_l ok.sh hs), fun l hn => q l S2 _ ws (ok.newH hn) (none_of ok.hh hn) (none_of ok.sh hn) upd_same (perDs ha) (by rw [dps_len ha]; exact hl)⟩
  · obtain ⟨ad, ws, rfl, hs, ha⟩ := dp_tuple.mp h1
    exact ⟨ad, ws, rfl, .inr (Evl.ex_t ok.sh hs), fun l hn => q l S2 _ ws (ok.newH hn) (none_of ok.hh hn) (none_of ok.sh hn) upd_same (perDs ha) (by rw [dps_len ha]; exact hl)⟩
/-- an index in bounds -/
theorem ev_ixT {j : Nat} (ha : Ev ta σ S (IsD K (.tuple ds))) (hb : Ev tb σ S (IsD K (.int (j : Int)))) (hj : ds[j]? = some d) : Ev (tOp (rIx K) ta tb) σ S (IsD K d) := ev_op ha hb fun S1 H1 x y Q a b p1 p2 q => by
  cases p2
  obtain ⟨ad, ws, rfl, hs, hw⟩ := dp_tuple.mp p1
  obtain ⟨v, hv, hd⟩ := dps_get' hw hj
  exact .inr (.inl ⟨ad, ws, _, v, rfl, rfl, Evl.ex_t b hs, atI_nat hv, q _ (perD hd)⟩)
theorem ev_ixL {j : Nat} (ha : Ev ta σ S (IsD K (.list ds))) (hb : Ev tb σ S (IsD K (.int (j : Int)))) (hj : ds[j]? = some d) : Ev (tOp (rIx K) ta tb) σ S (IsD K d) := ev_op ha hb fun S1 H1 x y Q a b p1 p2 q => by
  cases p2
  obtain ⟨ad, ws, rfl, hs, hw⟩ := dp_list.mp p1
  obtain ⟨v, hv, hd⟩ := dps_get' hw hj
  exact .inl ⟨ad, ws, _, v, rfl, rfl, Evl.ex_l b hs, atI_nat hv, q _ (perD hd)⟩
theorem ev_ixS {j : Nat} {x : Str} {c : Nat} (ha : Ev ta σ S (IsD K (.str x))) (hb : Ev tb σ S (IsD K (.int (j : Int)))) (hx : x.length ≤ 100000) (hj : x.cps.toList[j]? = some c) : Ev (tOp (rIx K) ta tb) σ S (IsD K (.str ⟨#[c]⟩)) := ev_op ha hb fun S1 H1 x y Q a b p1 p2 q => by
  cases p1; cases p2
  exact .inr (.inr ⟨_, _, c, rfl, rfl, Evl.sz_of hx, atI_nat hj, q _ (perD (.str _))⟩)
end

/-! ### statements -/
section
variable {K : PySem.W.Frag} {σ : L2.St} {S S' H H' : Hp} {ta tb te tc : TE} {tt tu : TT} {P P' P1 P2 : Hp → V → Prop} {R R' : Hp → List V → Prop} {v w : V} {vs : List V} {d e : PyData} {ds : List PyData} {D : Ends} {tx ty tz : TS} {g : TG}
theorem s_ret (e : Ex S H) (h : Ev te σ S P) (k : ∀ v S' H', Ok S H S' H' → Per P S' v → D.rt v H') : tRet te D σ H := h S H (Evl.Ex.refl S) e _ k
theorem s_asg (e : Ex S H) (h : Ev te σ S P) (k : ∀ v S' H', Ok S H S' H' → Per P S' v → g v σ H' D.nx) : tAsg te g D σ H := h S H (Evl.Ex.refl S) e _ k
theorem q_set {i : Nat} (e : Ex S H) (h : Ev te σ S P) (k : ∀ v S' H', Ok S H S' H' → Per P S' v → tz D (σ.set i (some v)) H') : tSeq (tAsg te (gName i)) tz D σ H := h S H (Evl.Ex.refl S) e _ k
theorem q_setL {i : Nat} (e : Ex S H) (h : EvL te σ S R) (k : ∀ l S' H' vs, Ok S H S' H' → H l = none → S' l = none → H' l = some (.lst vs) → PerA R S' vs → vs.length ≤ 100000 → tz D (σ.set i (some (.ref l))) H') : tSeq (tAsg te (gName i)) tz D σ H := h S H (Evl.Ex.refl S) e _ k
theorem s_setL {i : Nat} (e : Ex S H) (h : EvL te σ S R) (k : ∀ l S' H' vs, Ok S H S' H' → H l = none → S' l = none → H' l = some (.lst vs) → PerA R S' vs → vs.length ≤ 100000 → D.nx (σ.set i (some (.ref l))) H') : tAsg te (gName i) D σ H := h S H (Evl.Ex.refl S) e _ k
theorem s_set {i : Nat} (e : Ex S H) (h : Ev te σ S P) (k : ∀ v S' H', Ok S H S' H' → Per P S' v → D.nx (σ.set i (some v)) H') : tAsg te (gName i) D σ H := h S H (Evl.Ex.refl S) e _ k
theorem q_tgt {σ2 : L2.St} (e : Ex S H) (h : Ev te σ S P) (k : ∀ v S' H', Ok S H S' H' → Per P S' v → ∃ σ2, EvG g v σ S' σ2 ∧ tz D σ2 H') : tSeq (tAsg te g) tz D σ H := h S H (Evl.Ex.refl S) e _ fun v S' H' ok p => by
  obtain ⟨σ2, eg, q⟩ := k v S' H' ok p
  exact eg H' ok.sh _ q
theorem s_if {b : Bool} (e : Ex S H) (h : EvT tt σ S b) (h1 : b = true → ∀ S' H', Ok S H S' H' → tx D σ H') (h2 : b = false → ∀ S' H', Ok S H S' H' → ty D σ H') : tIfS tt tx ty D σ H := h S H (Evl.Ex.refl S) e _ fun S' H' ok => by
  cases b with
  | true => exact h1 rfl S' H' ok
  | false => exact h2 rfl S' H' ok
theorem q_if {b : Bool} (e : Ex S H) (h : EvT tt σ S b) (h1 : b = true → ∀ S' H', Ok S H S' H' → tx { D with nx := tz D } σ H') (h2 : b = false → ∀ S' H', Ok S H S' H' → ty { D with nx := tz D } σ H') : tSeq (tIfS tt tx ty) tz D σ H := s_if (D := { D with nx := tz D }) e h h1 h2
/-- a test that leaves the def -/
theorem q_guard {b : Bool} (e : Ex S H) (h : EvT tt σ S b) (h1 : b = true → ∀ S' H', Ok S H S' H' → tx { D with nx := tz D } σ H') (h2 : b = false → ∀ S' H', Ok S H S' H' → tz D σ H') : tSeq (tIfS tt tx tNext) tz D σ H := s_if (D := { D with nx := tz D }) e h h1 h2
/-- within a loop: the state is of the entry's kind, and the stable part S1 of the loop's start stands -/
structure Lo (S0 H0 S1 S H : Hp) : Prop where
  ok : Ok S0 H0 S H
  ex : Ex S1 S
theorem Lo.next {S0 H0 S1 S H S' H' : Hp} (l : Lo S0 H0 S1 S H) (o : Ok S H S' H') : Lo S0 H0 S1 S' H' := ⟨l.ok.trans o, l.ex.trans o.ss⟩
theorem Lo.mut {S0 H0 S1 S H : Hp} {p : Addr} {o : HO} (l : Lo S0 H0 S1 S H) (h0 : H0 p = none) (h : S p = none) : Lo S0 H0 S1 S (upd H p o) := ⟨l.ok.mut h0 h, l.ex⟩
/-- a loop over what EvI tells -/
theorem s_for {ι : Type} {wi : TI} {ys : List ι} {Z : ι → Hp → V → Prop} {S0 H0 : Hp} (ok0 : Ok S0 H0 S H) (h : EvI wi σ S ys Z) (W : Nat → L2.St → Hp → Hp → Prop) (h0 : ∀ S1 H1, Ok S H S1 H1 → W 0 σ S1 H1)
    (hs : ∀ S1, Ex S S1 → ∀ i y x σ' S' H' S2 H2, ys[i]? = some y → Lo S0 H0 S1 S' H' → W i σ' S' H' → Ok S' H' S2 H2 → Per (Z y) S2 x →
      g x σ' H2 fun σ3 H3 => tx { D with nx := fun σ4 H4 => ∃ S4, Lo S0 H0 S1 S4 H4 ∧ W (i + 1) σ4 S4 H4, ct := fun σ4 H4 => ∃ S4, Lo S0 H0 S1 S4 H4 ∧ W (i + 1) σ4 S4 H4, bk := D.nx } σ3 H3)
    (hd : ∀ σ' S' H', Lo S0 H0 S S' H' → W ys.length σ' S' H' → D.nx σ' H') : tFor wi g tx D σ H := h S H (Evl.Ex.refl S) ok0.sh _ fun J S1 H1 ok1 yl => by
  refine ⟨fun i m σ' H' => m = ys.length - i ∧ i ≤ ys.length ∧ ∃ S', Lo S0 H0 S1 S' H' ∧ W i σ' S' H', ⟨ys.length, rfl, Nat.zero_le _, S1, ⟨ok0.trans ok1, Evl.Ex.refl S1⟩, h0 S1 H1 ok1⟩, ?_⟩
  rintro i m σ' H' ⟨rfl, hi, S', lo, hw⟩
  by_cases hlt : i < ys.length
  · refine .inr ⟨yl.go i H' hlt (lo.ex.trans lo.ok.sh), fun σ4 H4 => ∃ S4, Lo S0 H0 S1 S4 H4 ∧ W (i + 1) σ4 S4 H4, fun σ4 H4 ⟨S4, l4, w4⟩ => ⟨ys.length - (i + 1), by omega, rfl, hlt, S4, l4, w4⟩, fun x H2 yx => ?_⟩
    have hy : ys[i]? = some ys[i] := List.getElem?_eq_getElem hlt
    obtain ⟨S2, ok2, pz⟩ := yl.yld i ys[i] S' H' x H2 hy lo.ex lo.ok.sh yx
    exact hs S1 ok1.ss i ys[i] x σ' S' H' S2 H2 hy lo hw ok2 pz
  · have e : i = ys.length := by omega
    subst e
    exact .inl ⟨yl.stop _ H' (Nat.le_refl _) (lo.ex.trans lo.ok.sh), hd σ' S' H' ⟨lo.ok, ok1.ss.trans lo.ex⟩ hw⟩
theorem q_for {ι : Type} {wi : TI} {ys : List ι} {Z : ι → Hp → V → Prop} {S0 H0 : Hp} (ok0 : Ok S0 H0 S H) (h : EvI wi σ S ys Z) (W : Nat → L2.St → Hp → Hp → Prop) (h0 : ∀ S1 H1, Ok S H S1 H1 → W 0 σ S1 H1)
    (hs : ∀ S1, Ex S S1 → ∀ i y x σ' S' H' S2 H2, ys[i]? = some y → Lo S0 H0 S1 S' H' → W i σ' S' H' → Ok S' H' S2 H2 → Per (Z y) S2 x →
      g x σ' H2 fun σ3 H3 => tx { D with nx := fun σ4 H4 => ∃ S4, Lo S0 H0 S1 S4 H4 ∧ W (i + 1) σ4 S4 H4, ct := fun σ4 H4 => ∃ S4, Lo S0 H0 S1 S4 H4 ∧ W (i + 1) σ4 S4 H4, bk := tz D } σ3 H3)
    (hd : ∀ σ' S' H', Lo S0 H0 S S' H' → W ys.length σ' S' H' → tz D σ' H') : tSeq (tFor wi g tx) tz D σ H := s_for (D := { D with nx := tz D }) ok0 h W h0 hs hd
/-- a while, by a number that falls -/
theorem s_while {S0 H0 : Hp} (W : Nat → L2.St → Hp → Hp → Prop) (m0 : Nat) (ok0 : Ok S0 H0 S H) (h0 : W m0 σ S H)
    (hs : ∀ m σ' S' H', Ok S0 H0 S' H' → W m σ' S' H' → ∃ b, EvT tt σ' S' b ∧ (b = true → ∀ S2 H2, Ok S' H' S2 H2 → tx { D with nx := fun σ4 H4 => ∃ m' S4, m' < m ∧ Ok S0 H0 S4 H4 ∧ W m' σ4 S4 H4, ct := fun σ4 H4 => ∃ m' S4, m' < m ∧ Ok S0 H0 S4 H4 ∧ W m' σ4 S4 H4, bk := D.nx } σ' H2) ∧ (b = false → ∀ S2 H2, Ok S' H' S2 H2 → D.nx σ' H2)) : tWhile tt tx D σ H := by
  refine ⟨fun m σ' H' => ∃ S', Ok S0 H0 S' H' ∧ W m σ' S' H', ⟨m0, S, ok0, h0⟩, ?_⟩
  rintro m σ' H' ⟨S', ok', hw⟩
  obtain ⟨b, et, h1, h2⟩ := hs m σ' S' H' ok' hw
  refine et S' H' (Evl.Ex.refl S') ok'.sh _ fun S2 H2 ok2 => ?_
  cases b with
  | true => exact ⟨fun σ4 H4 => ∃ m' S4, m' < m ∧ Ok S0 H0 S4 H4 ∧ W m' σ4 S4 H4, fun σ4 H4 ⟨m', S4, q1, q2, q3⟩ => ⟨m', q1, S4, q2, q3⟩, h1 rfl S2 H2 ok2⟩
  | false => exact h2 rfl S2 H2 ok2
end
end DL


set_option Elab.async false
set_option linter.all false
set_option maxRecDepth 100000
set_option maxHeartbeats 4000000
/-! DL3: a def that may be called; dicts from names to terms; list + list; what a def's body must show. -/
namespace DL
open PySem L2 PySem.Spec PyProof.Rows
open PySem.W (Datum Tup)

/-- the def x of the module may be called, at level k: it keeps the promise sp -/
structure Cal (P : Program) (w : World) (K : PySem.W.Frag) (mg : Str → Option Value) (base : Heap) (k : Nat) (x : Str) (ps : List Str) (sp : Sp) : Prop where
  ex : ∃ f fd, mg x = some (.ref f) ∧ PySem.W.keepIn K (.ref f) = true ∧ Binds K fd ps [] ∧ FnOk P w K mg base CX0 k f fd ps sp
theorem Cal.mono {P : Program} {w : World} {K : PySem.W.Frag} {mg : Str → Option Value} {base : Heap} {j k : Nat} {x : Str} {ps : List Str} {sp : Sp} (C : Cal P w K mg base j x ps sp) (h : j ≤ k) : Cal P w K mg base k x ps sp := by
  obtain ⟨f, fd, a, b, c, d⟩ := C.ex
  exact ⟨f, fd, a, b, c, d.mono h⟩
section
variable {X : Cx}
theorem pe_cal {k : Nat} {x : Str} {ps : List Str} {sp : Sp} {e : Expr} {es : List Expr} {t : TA} {p pos : Pos} (C : Cal X.prog X.w X.K X.mg X.base k x ps sp) (hr : Room k X.A) (hg : Gl X x) (ha : PA X (e :: es) t) (hd : (x == ("__debug__" : Str)) = false := by decide)
    (he : starEach (e :: es) X.env = (false, eval e X.env) :: starEach es X.env := by rfl) (hp : (backTo pos (starEach es X.env)).any (·.1) = false := by rfl) :
    PE X (.Call (.Name x p) (e :: es) [] pos) (tCall sp [] E0 t) := by
  obtain ⟨f, fd, a, b, c, d⟩ := C.ex
  first
    | exact pe_call d hr hg a b c .nil pass0 ha
    | exact pe_call d hr hg a b c .nil pass0 ha hd he hp
end
end DL


set_option Elab.async false
set_option linter.all false
set_option maxRecDepth 100000
set_option maxHeartbeats 4000000
/-! DL4: list + list, list.remove, min, of data. -/
namespace DL
open PySem L2 PySem.Spec PyProof.Rows
section
variable {X : Cx}
theorem cat_lists {prog : Program} {w : World} {A : Around} {E : Value → Shared → Prop} {s : Shared} {l b : Addr} {vs ws : List Value} {Q : Value → Shared → Prop} (hl : s.heap.IsList l vs.toArray) (hb : s.heap.IsList b ws.toArray)
    (h : Q (.ref s.heap.objs.size) { s with heap := s.heap.push { cls := .type "list", data := .seq (vs ++ ws).toArray } }) (hsz : vs.length + ws.length ≤ sizeLine) :
    wpAny (model prog w) A (binaryOp .Add (.ref l) (.ref b)) Q E s := by
  obtain ⟨⟨cls, dd, data, sl⟩, ho, hc, n, hd⟩ := id hl
  obtain ⟨⟨cls2, dd2, data2, sl2⟩, ho2, hc2, n2, hd2⟩ := id hb
  simp only at hc hd hc2 hd2
  subst hc hd hc2 hd2
  have e : vs.toArray ++ ws.toArray = (vs ++ ws).toArray := by simp
  refine concat_meets ⟨_, ho, rfl⟩ ⟨_, ho2, rfl⟩ noFill_list_add seq_list_add PySem.F.slot_list_add PySem.F.entry_list_add (PySem.F.args_list_add_2 _ _) (list_addW l b vs.toArray ws.toArray n n2 dd dd2 sl sl2 (by simpa using hsz)) ⟨ho, ho2, ?_⟩
  rw [e]
  exact h
/-- list + list, whatever they are -/
def rCatU (K : PySem.W.Frag) : R2 := fun x y H Q => ∃ l b xs zs, x = .ref l ∧ y = .ref b ∧ SqL K H l xs ∧ SqL K H b zs ∧ xs.length + zs.length ≤ sizeLine ∧ ∀ p, H p = none → Q (.ref p) (upd H p (.lst (xs ++ zs)))
theorem op_catU : OpR X (binaryOp .Add) (rCatU X.K) := by
  intro pins s σ H x y v u Q I rx ry h
  obtain ⟨l, b, xs, zs, rfl, rfl, hH, hB, hz, q⟩ := h
  cases rx
  cases ry
  obtain ⟨its, r, pl, _⟩ := I.list hH
  obtain ⟨its2, r2, pl2, _⟩ := I.list hB
  have e1 := r.length
  have e2 := r2.length
  refine cat_lists pl.isList pl2.isList ?_ (by omega)
  exact ⟨.ref _, _, I.lnew (t' := s.toks) (r.append r2) (by rw [List.length_append]; omega), rfl, q _ I.fresh⟩
/-- xs.remove(y), items and y data -/
def rRemoveD (K : PySem.W.Frag) : V → List V → Hp → VK → Prop := fun x vs H Q => ∃ l xs y ds d j, x = .ref l ∧ vs = [y] ∧ H l = some (.lst xs) ∧ DpAll K H xs ds ∧ Dp K H y d ∧ SeqAt.dataPlace ds d = some j ∧ min (PyData.depthAll ds) d.depth ≤ 60 ∧ Q .non (upd H l (.lst (xs.eraseIdx j)))
theorem mt_removeD (hu : X.A.units + 64 < cLine) : MtR X "list.remove" (rRemoveD X.K) := by
  intro pins s σ H x xs v us Q I rx rxs h
  obtain ⟨l, xs, y, ds, d, j, rfl, rfl, hH, hds, hd, hp, hm, q⟩ := h
  cases rx
  obtain ⟨u, rfl, ry⟩ := Vals.one rxs
  obtain ⟨hz, its, n, rv, hl, e⟩ := I.lstM hH
  obtain ⟨as, r1⟩ := Dp.readsAll I ds xs its hds rv
  obtain ⟨bs, r2⟩ := Dp.reads I d y u hd ry
  refine SeqAt.remove_list_data (vs := its.toArray) ⟨_, e, rfl, n, rfl⟩ (by simpa using r1) r2 (dps_plain _ _ hds) (dp_plain _ _ hd) (by omega) hp (by rw [List.size_toArray]; omega) ?_
  refine ⟨.non, _, I.lset (t' := s.toks) (its' := its.eraseIdx j) (ys := xs.eraseIdx j) hH e ?_ (rv.eraseIdx j) (Nat.le_trans (len_erase xs j) hz), rfl, q⟩
  simp
/-- min(xs), items data that are alike -/
theorem minD_mem : ∀ (ds : List PyData) (d : PyData), PySem.W.minD d ds ∈ d :: ds
  | [], d => List.mem_cons_self
  | e :: ds, d => by
    have h := minD_mem ds (if PySem.W.dataLt e d then e else d)
    have e1 : PySem.W.minD d (e :: ds) = PySem.W.minD (if PySem.W.dataLt e d then e else d) ds := rfl
    rw [e1]
    rcases List.mem_cons.mp h with h | h
    · rw [h]
      split
      · exact List.mem_cons_of_mem _ List.mem_cons_self
      · exact List.mem_cons_self
    · exact List.mem_cons_of_mem _ (List.mem_cons_of_mem _ h)
def rMinD (K : PySem.W.Frag) : List V → Hp → VK → Prop := fun vs H Q => ∃ (a : Addr) (xs : List V) (d : PyData) (ds : List PyData), vs = [V.ref a] ∧ SqL K H a xs ∧ DpAll K H xs (d :: ds) ∧ PySem.W.AlikeAll (d :: ds) ∧ PyData.depthAll (d :: ds) ≤ 60 ∧
  ∀ (i : Nat) (y : V), xs[i]? = some y → (d :: ds)[i]? = some (PySem.W.minD d ds) → Q y H
theorem cr_minD (hc : X.calm = true) (hu : X.A.units + 64 < cLine) : CallR X (.builtin "min") (rMinD X.K) := by
  intro pins s σ H vs us Q I r h
  obtain ⟨a, xs, d, ds, rfl, hs, hds, ha, hm, q⟩ := h
  obtain ⟨its, rv, pl, hz⟩ := I.list hs
  rw [Vals.ref1 r]
  obtain ⟨as, r1⟩ := Dp.readsAll I (d :: ds) xs its hds rv
  refine PySem.W.min_list_data (vs := its.toArray) (I.ok.hd hc) pl.isList (by simpa using r1) ha (by omega) fun i v h' tk bs hv rd hk => ?_
  have hv' : its[i]? = some v := by simpa using hv
  have hlt : i < xs.length := by rw [rv.length]; exact (List.getElem?_eq_some_iff.mp hv').1
  have hx : xs[i]? = some xs[i] := List.getElem?_eq_getElem hlt
  obtain ⟨u, hu', ru⟩ := rv.get hx
  rw [hv'] at hu'; cases hu'
  obtain ⟨e, he, hde⟩ := dps_get hds hx
  obtain ⟨cs, r3⟩ := Dp.reads I e xs[i] v hde ru
  have I' : Inv X pins σ H { s with heap := h', toks := tk } := I.kept hk
  have k1 := SeqAt.readOf_plain (dp_plain _ _ hde) (PyProof.Rows.Reads.keeps hk r3)
  have hpl : (PySem.W.minD d ds).plain = true := PySem.W.plain_mem (dps_plain _ _ hds) (minD_mem ds d)
  have k2 := SeqAt.readOf_plain hpl rd
  have k3 : e = PySem.W.minD d ds := k1.symm.trans k2
  exact ⟨xs[i], H, I', ru, q i xs[i] hx (by rw [he, k3])⟩
end
end DL


set_option Elab.async false
set_option linter.all false
set_option maxRecDepth 100000
set_option maxHeartbeats 4000000
/-! DL5: a dict whose keys are nested tuples, for its keys alone: {}, d[k] = v, list(d). -/
namespace DL
open PySem L2 PySem.Spec PyProof.Rows
/-- at p stands a dict with these keys, each with the place of its tuple -/
def DNf (P : Program) (w : World) (p : Addr) (ks : List (NestedKey × Addr)) : Heap → Prop := fun h => (p == sysModules) = false ∧ ks.length ≤ sizeLine ∧ ∃ (xs : List (NestedKey × Addr × Value)) (o : Obj) (es : Array DictEntry) (ep : Nat),
  (xs.map fun x => (x.1, x.2.1)) = ks ∧ h.get? p = some o ∧ o.ExactDict ∧ o.data = .dict es ep ∧ es.toList = xs.map (entryOfKey (nestedKind P w)) ∧ (xs.map (·.1)).Nodup
def DN (P : Program) (w : World) (p : Addr) (ks : List (NestedKey × Addr)) : HO := .ext (DNf P w p ks)
section
variable {P : Program} {w : World} {H : Hp} {h : Heap} {p : Addr} {ks : List (NestedKey × Addr)}
theorem dn_ok (x : DNf P w p ks h) : ObjOk P w H h p (DN P w p ks) :=
  ⟨x, let ⟨_, _, _, o, _, _, _, e, _⟩ := x; ⟨o, e⟩, fun h1 h2 y k => let ⟨a, z, xs, o, es, ep, b, e, r⟩ := y; ⟨a, z, xs, o, es, ep, b, k o e, r⟩⟩
theorem dn_at (ok : HOk P w H h) (e : H p = some (DN P w p ks)) : DNf P w p ks h := (ok p _ e).1
mutual
theorem nested_of : ∀ (k : NestedKey) (u : Value) (as : List Addr), Reads h u k.data as → NestedIs h k u
  | .none, _, _, r => by cases r; exact .none
  | .num i, _, _, r => by cases r; exact .int _ _
  | .text x, _, _, r => by cases r; exact .text _ _
  | .tup ks, _, _, r => by
    cases r with
    | tuple h1 h2 h3 h4 => exact .tup h1 h2 h3 (nesteds_of ks _ _ h4)
theorem nesteds_of : ∀ (ks : List NestedKey) (us : List Value) (as : List Addr), ReadsAll h us (NestedKey.datas ks) as → NestedAll h ks us
  | [], _, _, r => by cases r; exact .nil
  | k :: ks, _, _, r => by
    cases r with
    | cons h1 h2 => exact .cons (nested_of k _ _ h1) (nesteds_of ks _ _ h2)
end
end
/-- the keys after k is stored, at its place b if it is new -/
def addK (ks : List (NestedKey × Addr)) (k : NestedKey) (b : Addr) : List (NestedKey × Addr) := if k ∈ ks.map (·.1) then ks else ks ++ [(k, b)]
/-- the tuples of the keys stand -/
def KeysAt (K : PySem.W.Frag) (H : Hp) (ks : List (NestedKey × Addr)) : Prop := ∀ x ∈ ks, Dp K H (.ref x.2) x.1.data ∧ x.1.depth ≤ 8
theorem addK_stored (xs : List (NestedKey × Addr × Value)) (k : NestedKey) (b : Addr) (v : Value) : (storedH xs k b v).map (fun x => (x.1, x.2.1)) = addK (xs.map fun x => (x.1, x.2.1)) k b := by
  unfold storedH addK
  have e1 : (atKey xs k).isSome = decide (k ∈ (xs.map fun x => (x.1, x.2.1)).map (·.1)) := by
    unfold atKey
    rw [Option.isSome_map, List.map_map, Bool.eq_iff_iff, List.find?_isSome, decide_eq_true_iff, List.mem_map]
    simp [Function.comp_def]
  by_cases q : k ∈ (xs.map fun x => (x.1, x.2.1)).map (·.1)
  · rw [if_pos q, if_pos (by rw [e1]; exact decide_eq_true q), List.map_map]
    refine List.map_congr_left fun x _ => ?_
    unfold Function.comp putAt
    split <;> rfl
  · rw [if_neg q, if_neg (by rw [e1, decide_eq_false q]; exact Bool.false_ne_true), List.map_append]
    rfl
/-- {} for such keys -/
def tDNewN (P : Program) (w : World) : TE := fun _ H Q => ∀ p, H p = none → Q (.ref p) (upd H p (DN P w p []))
/-- d[k] = v -/
def sDPutN (P : Program) (w : World) (K : PySem.W.Frag) (td ty tv : TE) : TS := fun D σ H => tv σ H fun v H1 => td σ H1 fun x H2 => ty σ H2 fun y H3 => ∃ a ks k b, x = V.ref a ∧ y = V.ref b ∧ H3 a = some (DN P w a ks) ∧ ks.length < sizeLine ∧ KeysAt K H3 ks ∧
  Dp K H3 (.ref b) k.data ∧ k.depth ≤ 8 ∧ D.nx σ (upd H3 a (DN P w a (addK ks k b)))
/-- list(d) -/
def rListN (P : Program) (w : World) : List V → Hp → VK → Prop := fun xs H Q => ∃ a ks, xs = [V.ref a] ∧ H a = some (DN P w a ks) ∧ ∀ l, H l = none → Q (.ref l) (upd H l (.lst (ks.map fun x => V.ref x.2)))
section
variable {X : Cx}
theorem pe_dnewN {pos : Pos} : PE X (.Dict [] [] pos) (tDNewN X.prog X.w) := ⟨fun pins s σ H Q I h =>
  wpAny_Dict_empty ⟨.ref s.heap.objs.size, _, I.laid (a := s.heap.objs.size) (o := DN X.prog X.w s.heap.objs.size []) (t' := s.toks) (fun _ _ q => Heap.get?_push_of_some _ q) (Nat.le_refl _)
    (dn_ok ⟨beq_eq_false_iff_ne.mpr (Ne.symm (Nat.ne_of_lt I.big)), Nat.zero_le _, [], _, #[], 0, rfl, Heap.get?_push_size _ rfl, ⟨rfl, rfl, rfl⟩, rfl, rfl, List.nodup_nil⟩), rfl, h _ (I.hok.fresh (Nat.le_refl _))⟩⟩
theorem key_is {pins : List (Addr × Obj)} {σ : L2.St} {H : Hp} {s : Shared} (I : Inv X pins σ H s) {k : NestedKey} {b : Addr} (h : Dp X.K H (.ref b) k.data) (hd : k.depth ≤ 8) : (nestedKind X.prog X.w).is s.heap k b := by
  obtain ⟨as, r⟩ := Dp.reads I _ _ (.ref b) h rfl
  exact ⟨nested_of k _ _ r, hd⟩
theorem dn_dict {pins : List (Addr × Obj)} {σ : L2.St} {H : Hp} {s : Shared} (I : Inv X pins σ H s) {a : Addr} {ks : List (NestedKey × Addr)} (e : H a = some (DN X.prog X.w a ks)) (hk : KeysAt X.K H ks) :
    ∃ xs : List (NestedKey × Addr × Value), (xs.map fun x => (x.1, x.2.1)) = ks ∧ s.heap.DictOfH (nestedKind X.prog X.w) a xs := by
  obtain ⟨_, _, xs, o, es, ep, b, h1, h2, h3, h4, h5⟩ := dn_at I.hok e
  refine ⟨xs, b, o, es, ep, h1, h2, h3, h4, fun x hx => ?_, h5⟩
  have := hk (x.1, x.2.1) (by rw [← b]; exact List.mem_map_of_mem (f := fun x : NestedKey × Addr × Value => (x.1, x.2.1)) hx)
  exact key_is I this.1 this.2
theorem ps_dputN {o i value : Expr} {pos pos' : Pos} {td ty tv : TE} (hu : X.A.units + 64 < cLine) (ho : PE X o td) (hi : PE X i ty) (hv : PE X value tv) (hs : swapsWith value (some (.Subscript o i pos')) pos.line X.env = pure false) :
    PS X (.Assign [.Subscript o i pos'] value pos) (sDPutN X.prog X.w X.K td ty tv) := by
  refine ⟨fun pins s σ H D I h => ?_⟩
  refine wpAny_Assign_Subscript (thn (hv.run pins s σ H _ I h) fun r s1 ⟨v, H1, I1, rv, q1⟩ => thn (ho.run pins s1 σ H1 _ I1 q1) fun u s2 ⟨x, H2, I2, rx, q2⟩ => thn (hi.run pins s2 σ H2 _ I2 q2) fun iv s3 ⟨y, H3, I3, ry, a, ks, k, b, ex, ey, e, hl, hk, hb, hd, q3⟩ => ?_) hs
  subst ex ey
  obtain rfl : u = Value.ref a := rx
  obtain rfl : iv = Value.ref b := ry
  obtain ⟨xs, ex, dd⟩ := dn_dict I3 e hk
  have hz : xs.length ≤ sizeLine := by
    have : xs.length = ks.length := by rw [← ex, List.length_map]
    omega
  refine wpAny_setItem_heap (hsz := hz) (show X.A.in1.units + 8 < cLine from (by show X.A.units + 1 + 8 < cLine; omega)) (key_is I3 hb hd) dd fun h' dd' sb => ?_
  have he : ∃ q, h'.get? a = some q := let ⟨q, _, _, hq, _⟩ := dd'; ⟨q, hq⟩
  have hsm : (a == sysModules) = false := (dn_at I3.hok e).1
  refine ⟨σ, _, d_write I3 (by rw [e]; exact True.intro) sb he (dn_ok (ks := addK ks k b) ⟨hsm, ?_, storedH xs k b r, ?_⟩), q3⟩
  · unfold addK
    split
    · omega
    · rw [List.length_append]; show ks.length + 1 ≤ _; omega
  · obtain ⟨o1, es1, ep1, h1, h2, h3, h4, _, h5⟩ := dd'
    exact ⟨o1, es1, ep1, by rw [addK_stored, ex], h1, h2, h3, h4, h5⟩
theorem call_listN (hc : X.calm = true) : CallR X (.type "list") (rListN X.prog X.w) := by
  intro pins s σ H vs us Q I r h
  obtain ⟨a, ks, rfl, e, q⟩ := h
  rw [Vals.ref1 r]
  obtain ⟨hsm, hz, xs, o, es, ep, b, h1, h2, h3, h4, h5⟩ := dn_at I.hok e
  have hl : es.size = ks.length := by rw [← b, List.length_map, ← Array.length_toList, h4, List.length_map]
  refine PySem.W.kdl_call (KdlSrc.rawDict (es := es) (ep := ep) hsm) (I.ok.hd hc) ⟨o, h1, h2, h3⟩ (by rw [hl]; exact hz) fun h' tk acc' c' hk hS hacc => ?_
  refine ⟨.ref _, _, I.laid (a := s.heap.objs.size) (o := .lst (ks.map fun x => V.ref x.2)) (t' := tk) hk (Nat.le_refl _) ⟨by rw [List.length_map]; exact hz, acc'.toList, c', ?_, by rw [Array.toArray_toList]; exact hS⟩, rfl, q _ I.fresh⟩
  have ea : acc'.toList = ks.map fun x => Value.ref x.2 := by
    refine List.ext_getElem? fun j => ?_
    rw [Array.getElem?_toList]
    by_cases hj : j < acc'.size
    · rw [Array.getElem?_eq_getElem hj]
      obtain ⟨hi, e1⟩ := hacc.2 j _ (Array.getElem?_eq_getElem hj)
      have e2 : es.toList[j]? = some es[j] := by rw [Array.getElem?_toList]; exact Array.getElem?_eq_getElem hi
      rw [h4, List.getElem?_map] at e2
      obtain ⟨x, hx, e3⟩ := Option.map_eq_some_iff.mp e2
      rw [← b, List.getElem?_map, List.getElem?_map, hx, e1, ← e3]
      rfl
    · rw [Array.getElem?_eq_none (by omega), List.getElem?_eq_none (by rw [List.length_map, ← hl, ← hacc.1]; omega)]
  rw [ea]
  clear ea q e b h1 h2 h3 h4 h5 hl hz hS hacc hsm
  induction ks with
  | nil => exact .nil
  | cons x r ih => exact .cons rfl ih
end
end DL


set_option Elab.async false
set_option linter.all false
set_option maxRecDepth 100000
set_option maxHeartbeats 4000000
/-! DL6: set(xs) of texts, sorted(set(xs)). The proofs of adding and of the loop follow the library's own ones for ints, turned to texts. -/
namespace DL
open PySem L2 PySem.Spec PyProof.Rows
def keyX (e : Int × Value) : Str := match e.2 with | .str k _ => k | _ => Str.empty
def GoodX (w : World) (e : Int × Value) : Prop := ∃ k tk, e.2 = Value.str k tk ∧ e.1 = hashStr w k
/-- a set of texts whose table can be walked -/
def SetX (w : World) (h : Heap) (a : Addr) (S : Str → Bool) (n : Nat) : Prop :=
  ∃ o es ep t, h.get? a = some o ∧ o.ExactSet ∧ o.data = .set es ep t ∧ (∀ e ∈ es.toList, GoodX w e) ∧ (es.toList.map keyX).Nodup ∧ (∀ k, S k = true ↔ k ∈ es.toList.map keyX) ∧
    es.size < scanBound ∧ t.fits es.size = true ∧ es.size = n ∧ Ris t.place.toList ∧ (w.params.followText "set-order" = true ∨ t.led = true)
inductive TxtsAre : List Value → List Str → Prop
  | nil : TxtsAre [] []
  | cons (x : Str) (t : Tok) {vs xs} : TxtsAre vs xs → TxtsAre (.str x t :: vs) (x :: xs)
theorem TxtsAre.length : ∀ {vs : List Value} {xs : List Str}, TxtsAre vs xs → vs.length = xs.length
  | _, _, .nil => rfl
  | _, _, .cons x t h => by rw [List.length_cons, List.length_cons, h.length]
theorem txts_at : ∀ {vs : List Value} {ns : List Str}, TxtsAre vs ns → ∀ (i : Nat) (v : Value), vs[i]? = some v → ∃ t, v = .str (ns.getD i Str.empty) t
  | _, _, .nil, i, v, h => by simp at h
  | _, _, .cons n t hr, 0, v, h => by simp at h; exact ⟨t, by rw [← h] <;> rfl⟩
  | _, _, .cons n t hr, i + 1, v, h => by
    simp only [List.getElem?_cons_succ] at h
    obtain ⟨t', e⟩ := txts_at hr i v h
    exact ⟨t', by rw [e] <;> rfl⟩
section
variable {P : Program} {w : World} {h h' : Heap} {a : Addr} {S : Str → Bool} {n : Nat}
theorem SetX.at (R : SetX w h a S n) (k : ∀ o, h.get? a = some o → h'.get? a = some o) : SetX w h' a S n := by
  obtain ⟨o, es, ep, t, ho, r⟩ := R
  exact ⟨o, es, ep, t, k o ho, r⟩
theorem SetX.congr {S' : Str → Bool} (R : SetX w h a S n) (e : ∀ k, S' k = S k) : SetX w h a S' n := by
  have q : S' = S := funext e
  rw [q]; exact R
theorem goodX_elems {l : List (Int × Value)} (g : ∀ e ∈ l, GoodX w e) : ElemsOf (strKind P w) l := fun e he => by
  obtain ⟨k, tk, h1, h2⟩ := g e he
  exact ⟨⟨k, by rw [h1]; exact strKind_is P w k tk, h2⟩, by rw [h1] <;> rfl⟩
theorem goodX_is {e : Int × Value} (g : GoodX w e) (k : Str) : (strKind P w).is k e.2 = true ↔ keyX e = k := by
  obtain ⟨k0, tk, h1, _⟩ := g
  unfold keyX
  rw [h1]
  constructor
  · intro q
    exact (strKind P w).inj _ _ _ (strKind_is P w k0 tk) q
  · intro q
    have q : k0 = k := q
    subst q
    exact strKind_is P w k0 tk
theorem goodX_mem {l : List (Int × Value)} (g : ∀ e ∈ l, GoodX w e) (k : Str) : k ∈ l.map keyX ↔ ∃ e ∈ l, (strKind P w).is k e.2 = true := by
  rw [List.mem_map]
  constructor
  · rintro ⟨e, he, q⟩
    exact ⟨e, he, (goodX_is (g e he) k).2 q⟩
  · rintro ⟨e, he, q⟩
    exact ⟨e, he, (goodX_is (g e he) k).1 q⟩
theorem setX_new_at {ns : List Str} (ho : h.get? a = some { cls := .type "set", dict := none, data := .set #[] 0 (.fresh 0 0 (!w.params.followText "set-order")) }) : SetX w h a (fun j => decide (j ∈ ns.take 0)) 0 :=
  ⟨_, #[], 0, _, ho, ⟨rfl, rfl, rfl⟩, rfl, (fun e he => by simp at he), (by simp), (fun k => by simp), (by decide), (by rfl), rfl, List.Pairwise.nil, by
    show _ ∨ (!w.params.followText "set-order") = true
    cases w.params.followText "set-order"
    · exact .inr rfl
    · exact .inl rfl⟩
end
section
variable {P : Program} {w : World} {A : Around} {E : Value → Shared → Prop} {s : Shared} {a : Addr} {S : Str → Bool} {n : Nat}
theorem setX_add_tail {g : Bool → Sem Unit} (hg : ∀ (b : Bool) (s₁ : Shared) (Q' : Unit → Shared → Prop), Q' () s₁ → wpAny (model P w) A (g b) Q' E s₁)
    {o : Obj} {es : Array (Int × Value)} {ep : Nat} {t : SetTable} (ho : s.heap.get? a = some o) (hex : o.ExactSet) (hd : o.data = .set es ep t)
    {es1 : Array (Int × Value)} {t2 : SetTable} {S' : Str → Bool} (g1 : ∀ e ∈ es1.toList, GoodX w e) (nd1 : (es1.toList.map keyX).Nodup) (m1 : ∀ k, S' k = true ↔ k ∈ es1.toList.map keyX)
    (hb1 : es1.size < scanBound) (hf2 : t2.fits es1.size = true) (hr : Ris t2.place.toList) (hl : w.params.followText "set-order" = true ∨ t2.led = true) {wasDummy : Bool} {R : Option Bool → Shared → Prop}
    (hR : ∀ h', Heap.SameBut a s.heap h' → SetX w h' a S' es1.size → R (some true) { s with heap := h' }) :
    wpAny (model P w) A (do
        storeSet a es1 t2
        if (!wasDummy && t2.tooFull) = true then do
            g (relayAll t2 es1 (SetTable.grown es1.size)).2.2
            storeSet a (relayAll t2 es1 (SetTable.grown es1.size)).1 (relayAll t2 es1 (SetTable.grown es1.size)).2.1
            pure (some true)
          else pure (some true)) R E s := by
  refine wpAny_bind (wpAny_storeSet_of ho hd ?_ (fits_of_scanBound hb1))
  have ho1 := store_at (es' := es1) (t' := t2) ho hd
  have sb1 := Heap.SameBut.update s.heap a (Obj.putSet es1 t2)
  split
  · have pm := relayAll_perm t2 es1 (SetTable.grown es1.size)
    have hf3 := relayAll_fits t2 es1 (SetTable.grown es1.size)
    have hr3 := relayAll_ris t2 es1 (SetTable.grown es1.size)
    have hl3 := relayAll_led t2 es1 (SetTable.grown es1.size)
    generalize relayAll t2 es1 (SetTable.grown es1.size) = Z at pm hf3 hr3 hl3 ⊢
    obtain ⟨es2, t3, gave⟩ := Z
    dsimp only at pm hf3 hr3 hl3 ⊢
    have hsz : es2.size = es1.size := by rw [← Array.length_toList, pm.length_eq, Array.length_toList]
    have hb2 : es2.size < scanBound := by rw [hsz]; exact hb1
    refine wpAny_bind (hg _ _ _ ?_)
    refine wpAny_bind (wpAny_storeSet_of ho1 rfl ?_ (fits_of_scanBound hb2))
    have ho2 := store_at (es' := es2) (t' := t3) ho1 rfl
    refine wpAny_pure (hR _ (sb1.trans (Heap.SameBut.update _ a _)) ?_)
    exact ⟨_, es2, _, t3, ho2, hex, rfl, fun e he => g1 e (pm.mem_iff.mp he), (pm.map keyX).nodup_iff.mpr nd1, fun k => (m1 k).trans (pm.map keyX).mem_iff.symm, hb2, hf3, hsz, hr3,
      hl.imp id fun z => by rw [hl3]; exact z⟩
  · exact wpAny_pure (hR _ sb1 ⟨_, es1, _, t2, ho1, hex, rfl, g1, nd1, m1, hb1, hf2, rfl, hr, hl⟩)

theorem setX_add_hashed {k : Str} {tk : Tok} {Q : Bool → Shared → Prop} (R : SetX w s.heap a S n) (room : n + 1 < scanBound)
    (hQ : ∀ h', Heap.SameBut a s.heap h' → SetX w h' a (fun j => S j || decide (j = k)) (if S k = true then n else n + 1) → Q (!S k) { s with heap := h' }) :
    wpAny (model P w) A (setAddHashed a (.str k tk) ((strKind P w).hash k)) Q E s := by
  obtain ⟨o, es, ep, t, ho, hex, hd, g, nd, hm, hb, hf, hn, hr, hl⟩ := R
  have hkey : (strKind P w).is k (.str k tk) = true := strKind_is P w k tk
  have hsc : (Value.str k tk).scannable = true := rfl
  have hel : ElemsOf (strKind P w) es.toList := goodX_elems g
  unfold setAddHashed setAddHashedIn
  refine wpAny_holding (wpAny_bind (wpAny_setState_of ho hd hf ?_))
  dsimp only
  rw [byScan_of hsc hb hel]
  simp only [↓reduceIte]
  unfold setAddByScan
  refine wpAny_bind ?_
  refine wpAny_bind (wpAny_rule ?_)
  refine wpAny_bind (wpAny_setScan_of hkey ho hd hf hel ?_)
  cases hfi : List.findIdx? (fun e => (strKind P w).is k e.2) es.toList with
  | some j =>
    dsimp only
    obtain ⟨hj, pj, _⟩ := List.findIdx?_eq_some_iff_getElem.mp hfi
    have hSk : S k = true := (hm k).2 ((goodX_mem (P := P) (w := w) g k).2 ⟨es.toList[j], List.getElem_mem hj, pj⟩)
    refine wpAny_pure (wpAny_pure ?_)
    have q := hQ s.heap (Heap.SameBut.refl a s.heap) ⟨o, es, ep, t, ho, hex, hd, g, nd, fun i => by
      rw [Bool.or_eq_true, decide_eq_true_eq, ← hm i]
      exact ⟨fun z => z.elim id (fun e => e ▸ hSk), .inl⟩, hb, hf, by rw [if_pos hSk]; exact hn, hr, hl⟩
    rw [hSk] at q
    exact q
  | none =>
    dsimp only
    have hnk : k ∉ es.toList.map keyX := fun z => by
      obtain ⟨e, he, q⟩ := (goodX_mem (P := P) (w := w) g k).1 z
      have c := List.findIdx?_eq_none_iff.mp hfi e he
      rw [q] at c
      cases c
    have hSk : S k = false := by
      cases q : S k with
      | false => rfl
      | true => exact absurd ((hm k).1 q) hnk
    have hgw : ∀ (b : Bool) {s₁ : Shared} {Q' : Unit → Shared → Prop}, Q' () s₁ → wpAny (model P w) A (match b with | true => rule "set.scan.the-table-gave-way" | false => pure ()) Q' E s₁ :=
      fun b s₁ Q' q => by cases b <;> first | exact wpAny_pure q | exact wpAny_rule q
    have pm := layNew_perm t es ((strKind P w).hash k) (.str k tk)
    have hf1 := layNew_fits t es ((strKind P w).hash k) (.str k tk)
    have hr1 := layNew_ris t es ((strKind P w).hash k) (.str k tk) hr
    have hl1 := layNew_led t es ((strKind P w).hash k) (.str k tk)
    generalize layNew t es ((strKind P w).hash k) (.str k tk) = Z at pm hf1 hr1 hl1 ⊢
    obtain ⟨es1, t1, wasDummy, gave⟩ := Z
    dsimp only at pm hf1 hr1 hl1 ⊢
    rw [Array.toList_push] at pm
    have pc : es1.toList.Perm (((strKind P w).hash k, Value.str k tk) :: es.toList) := pm.trans (List.perm_append_singleton _ _)
    have pk : (es1.toList.map keyX).Perm (k :: es.toList.map keyX) := pc.map keyX
    have g1 : ∀ e ∈ es1.toList, GoodX w e := fun e he => by
      rcases List.mem_cons.mp (pc.mem_iff.mp he) with z | z
      · rw [z]; exact ⟨k, tk, rfl, rfl⟩
      · exact g e z
    have nd1 : (es1.toList.map keyX).Nodup := pk.nodup_iff.mpr (List.nodup_cons.mpr ⟨hnk, nd⟩)
    have m1 : ∀ i, (S i || decide (i = k)) = true ↔ i ∈ es1.toList.map keyX := fun i => by
      rw [Bool.or_eq_true, decide_eq_true_eq, hm i, pk.mem_iff, List.mem_cons]
      exact Or.comm
    have hsz : es1.size = n + 1 := by rw [← Array.length_toList, pc.length_eq, List.length_cons, Array.length_toList, hn]
    have hb1 : es1.size < scanBound := by rw [hsz]; exact room
    have hled : w.params.followText "set-order" = true ∨ t1.led = true := hl.imp id fun z => by rw [hl1]; exact z
    have fin : ∀ h', Heap.SameBut a s.heap h' → SetX w h' a (fun j => S j || decide (j = k)) es1.size → Q true { s with heap := h' } := fun h' sb r => by
      have q := hQ h' sb
      rw [hSk] at q
      rw [hsz] at r
      exact q r
    refine wpAny_bind (hgw _ ?_)
    split
    · refine wpAny_bind ?_
      rw [hashByValue_scannable 8 hsc]
      refine wpAny_pure ?_
      refine setX_add_tail ?_ ho hex hd g1 nd1 m1 hb1 ?_ ?_ ?_ ?_
      · intro b s₁ Q' q; cases b <;> first | exact wpAny_pure q | exact wpAny_rule q
      · first | (split <;> first | exact hf1 | exact SetTable.fits_plain_off hf1) | exact hf1
      · first | (split <;> exact hr1) | exact hr1
      · first | (split <;> exact hled) | exact hled
      · intro h' sb r; dsimp only; exact wpAny_pure (fin h' sb r)
    · refine wpAny_bind (wpAny_pure ?_)
      simp only [↓reduceIte]
      refine setX_add_tail ?_ ho hex hd g1 nd1 m1 hb1 hf1 hr1 hled ?_
      · intro b s₁ Q' q; cases b <;> first | exact wpAny_pure q | exact wpAny_rule q
      · intro h' sb r; dsimp only; exact wpAny_pure (fin h' sb r)

end
section
variable {P : Program} {w : World} {A : Around} {E : Value → Shared → Prop} {s : Shared}
theorem set_update_txts {I : Addr} {fp wr : List Addr} {G : Array GenState → Array GenState → Prop} {n : Nat} {Pv : Nat → Value → Prop} {St : Nat → Shared → Prop} {R : Result → Shared → Prop}
    (W : WalksS P w A.in1 I fp wr G n Pv St) (S : Addr) (hSf : S ∉ fp) (ns : List Str) (hn : n = ns.length) (hb : ns.length + 1 < scanBound) (hval : ∀ i v, Pv i v → ∃ k t, ns[i]? = some k ∧ v = .str k t) :
    ∀ (k i : Nat) (s : Shared), n - i = k → i ≤ n → St i s → (∃ c, c ≤ i ∧ SetX w s.heap S (fun j => decide (j ∈ ns.take i)) c) →
      (∀ s' c, Moved (S :: wr) G s s' → c ≤ n → SetX w s'.heap S (fun j => decide (j ∈ ns)) c → R (.ok (.ret .none)) s') →
      codeAny (model P w) A (.builtin "set.update.loop" ⟨[.ref S, .ref I], []⟩) R s := by
  have hSw : S ∉ wr := fun h => hSf (W.sub _ h)
  have hsub : ∀ b ∈ wr, b ∈ S :: wr := fun b hb => List.mem_cons_of_mem _ hb
  intro k
  induction k with
  | zero =>
    intro i s hk' hi hst ⟨c, hc, hS⟩ hR
    have hin : i = n := by omega
    subst hin
    refine codeAny_builtin F.entry_set_update_loop ?_
    rw [Around.under_plainId F.plain_set_update_loop _]
    show wpAny _ A.in1 (pyNext (.ref I) >>= _) _ _ s
    refine wpAny_bind (W.done s _ _ hst fun s' hm => ?_)
    show wpAny _ A.in1 (ret Value.none) _ _ s'
    have e : ns.take i = ns := List.take_of_length_le (by omega)
    rw [e] at hS
    exact wpAny_pure (hR s' c (hm.mono hsub) hc (hS.at fun o e => hm.heap S o hSw e))
  | succ k ih =>
    intro i s hk' hi hst ⟨c, hc, hS⟩ hR
    have hlt : i < n := by omega
    refine codeAny_builtin F.entry_set_update_loop ?_
    rw [Around.under_plainId F.plain_set_update_loop _]
    show wpAny _ A.in1 (pyNext (.ref I) >>= _) _ _ s
    refine wpAny_bind (W.item i s _ _ hlt hst fun v s' hP hst' hm => ?_)
    obtain ⟨z, t, hz, rfl⟩ := hval i v hP
    have hS' : SetX w s'.heap S (fun j => decide (j ∈ ns.take i)) c := hS.at fun o e => hm.heap S o hSw e
    show wpAny _ A.in1 (holding [Value.str z t] (setAdd S (.str z t)) >>= _) _ _ s'
    refine wpAny_bind (wpAny_holding ?_)
    unfold setAdd
    refine wpAny_holding ?_
    refine wpAny_bind ((strKind P w).pyHash (k := z) (strKind_is _ _ _ _) ?_)
    refine setX_add_hashed (s := { s' with toks := s'.toks + 1 }) hS' (by omega) fun h' hsb hS2 => ?_
    have hS3 : SetX w h' S (fun j => decide (j ∈ ns.take (i + 1))) (if decide (z ∈ ns.take i) = true then c else c + 1) := hS2.congr fun j => by
      rw [List.take_add_one, hz]
      simp [List.mem_append]
    have hc3 : (if decide (z ∈ ns.take i) = true then c else c + 1) ≤ i + 1 := by
      split <;> omega
    refine wpAny_pure ⟨plainId_quiet F.plain_set_update_loop _, ih (i + 1) _ (by omega) hlt (W.frame _ s' _ _ hst' (Nat.le_succ _) fun b hb o e => ?_) ⟨_, hc3, hS3⟩ fun s'' c2 hm'' hc'' hS'' => ?_⟩
    · rw [hsb.2 b (fun h : b = S => hSf (by rw [← h]; exact hb))]; exact e
    · refine hR s'' c2 (Moved.trans W.gtrans ((hm.mono hsub).then_heap (Nat.le_succ _) fun b o hb e => ?_) hm'') hc'' hS''
      rw [hsb.2 b (fun h : b = S => hb (by rw [h]; exact List.mem_cons_self))]; exact e
set_option maxRecDepth 100000 in
set_option maxHeartbeats 3200000 in
theorem call_set_txts {l : Addr} {items : Array Value} (ns : List Str) {Q : Value → Shared → Prop} (hh : A.handled = none) (hl : s.heap.IsList l items) (hit : TxtsAre items.toList ns) (hb : ns.length + 1 < scanBound)
    (h : ∀ (h' : Heap) (tk c : Nat), SetX w h' s.heap.objs.size (fun j => decide (j ∈ ns)) c → c ≤ ns.length → (∀ b o, s.heap.get? b = some o → h'.get? b = some o) → Q (.ref s.heap.objs.size) { s with heap := h', toks := tk }) :
    wpAny (model P w) A (call (.type "set") [.ref l]) Q E s := by
  have hisz : items.size = ns.length := by
    have q := TxtsAre.length hit
    rw [Array.length_toList] at q
    exact q
  obtain ⟨c, tl, hmro⟩ := F.called_set.mro
  have hmade := F.called_set.made
  have hsub := F.called_set.sub
  refine wpAny_call (codeAny_of_tree ?_)
  show wpAny _ _ (callAny (.type "set") _) _ _ _
  refine wpAny_pure ⟨Code.quiet_builtin _ (by decide +kernel), codeAny_builtin F.entry_type_call ?_⟩
  rw [Around.under_plain (weight_type_call_type "set" [.ref l] []) rfl]
  have h1 := F.called_set.notType
  have h2 := F.called_set.canCreate
  have hct := F.typeCall_set_1 (.ref l)
  repeat (any_goals (first | assumption | wp_step))

  refine codeAny_mono (L2.code_set_led1 (.ref l) (E := E) (Q₁ := fun obj s₁ => obj = .ref s.heap.objs.size ∧ s₁ = { s with heap := s.heap.push { cls := .type "set", dict := none, data := .set #[] 0 (.fresh 0 0 (!w.params.followText "set-order")) } }) ⟨rfl, rfl⟩) fun r s₁ hr => ?_
  cases r with
  | error e => exact hr
  | ok fl =>
    cases fl with
    | ret obj =>
      obtain ⟨rfl, rfl⟩ := hr
      have hS : (s.heap.push { cls := .type "set", dict := none, data := .set #[] 0 (.fresh 0 0 (!w.params.followText "set-order")) }).get? s.heap.objs.size = some { cls := .type "set", dict := none, data := .set #[] 0 (.fresh 0 0 (!w.params.followText "set-order")) } := Heap.get?_push_size _ rfl
      have hT : Shared.TypeIs { s with heap := s.heap.push { cls := .type "set", dict := none, data := .set #[] 0 (.fresh 0 0 (!w.params.followText "set-order")) } } (.ref s.heap.objs.size) "set" := ⟨_, hS, rfl⟩
      have hli := F.called_set.init.lookup
      have hbi := F.called_set.init.bind (.ref s.heap.objs.size)
      repeat (any_goals (first | assumption | wp_step))

      refine codeAny_mono (codeAny_call_builtin (R := wants (fun r s₂ => r = .none ∧ ∃ h' tk c, s₂ = { s with heap := h', toks := tk } ∧ SetX w h' s.heap.objs.size (fun j => decide (j ∈ ns)) c ∧ c ≤ ns.length ∧
          (∀ b o, s.heap.get? b = some o → h'.get? b = some o)) E) F.called_set.init.plain F.entry_set_init (check_set_init_1 hT ?_)) fun r₂ s₂ hr₂ => ?_
      · obtain ⟨ol, hol, hcl, nl, hdl⟩ := hl
        obtain ⟨ocls, odict, odata, oslots⟩ := ol
        simp only at hcl hdl
        subst hcl; subst hdl
        have hol' : (s.heap.push { cls := .type "set", dict := none, data := .set #[] 0 (.fresh 0 0 (!w.params.followText "set-order")) }).get? l = some { cls := .type "list", dict := odict, data := .seq items nl, slots := oslots } := Heap.get?_push_of_some _ hol
        have hsls := F.sub_list_set
        have hslf := F.sub_list_frozenset
        have hne : (Value.type "list" == Value.type "dict") = false := by decide
        have hl1 : (s.heap.push { cls := .type "set", dict := none, data := .set #[] 0 (.fresh 0 0 (!w.params.followText "set-order")) }).IsList l items := ⟨_, hol', rfl, nl, rfl⟩
        unfold Builtin.«set.__init__» noKeywords Builtin.Frozenset.updateFrom
        generalize hPI : pyIter = PI
        wp_walk
        subst hPI

        refine wpAny_pyIter_list hl1 ?_
        refine wpAny_bind (wpAny_runValue ?_)
        have hlS : l < s.heap.objs.size := Heap.lt_size hol
        have hh3 : A.in1.in1.in1.handled = none := by simp [hh]
        have hz1 : (s.heap.push { cls := .type "set", dict := none, data := .set #[] 0 (.fresh 0 0 (!w.params.followText "set-order")) }).objs.size = s.heap.objs.size + 1 := Heap.size_push ..
        have hneI : l ≠ (s.heap.push { cls := .type "set", dict := none, data := .set #[] 0 (.fresh 0 0 (!w.params.followText "set-order")) }).objs.size := by
          rw [Heap.size_push]; exact Nat.ne_of_lt (Nat.lt_succ_of_lt hlS)
        have hSf : s.heap.objs.size ∉ [(s.heap.push { cls := .type "set", dict := none, data := .set #[] 0 (.fresh 0 0 (!w.params.followText "set-order")) }).objs.size, l] := by
          rw [Heap.size_push]; simp only [List.mem_cons, List.mem_singleton, List.not_mem_nil, or_false, not_or]
          exact ⟨Nat.ne_of_lt (Nat.lt_succ_self _), Nat.ne_of_gt hlS⟩
        have hval : ∀ (i : Nat) (v : Value), items[i]? = some v → ∃ k t, ns[i]? = some k ∧ v = .str k t := fun i v hv => by
          have hi : i < ns.length := by rw [← hisz]; exact (Array.getElem?_eq_some_iff.mp hv).1
          obtain ⟨t, e⟩ := txts_at hit i v (by rw [Array.getElem?_toList]; exact hv)
          refine ⟨ns[i], t, List.getElem?_eq_getElem hi, ?_⟩
          rw [e, List.getD_eq_getElem?_getD, List.getElem?_eq_getElem hi] <;> rfl
        refine set_update_txts ((Walks.list hh3 _ l hneI items).toS) s.heap.objs.size
          hSf ns hisz hb hval (items.size - 0) 0 _ (by omega) (Nat.zero_le _)
          ⟨⟨_, Heap.get?_push_size _ rfl, rfl, rfl⟩, (hl1.push _)⟩ ?hS0 ?hR
        case hS0 =>
          have hget : ((s.heap.push { cls := .type "set", dict := none, data := .set #[] 0 (.fresh 0 0 (!w.params.followText "set-order")) }).push { cls := .type "list_iterator", data := .fields #[.ref l, .int 0 0] }).get? s.heap.objs.size
              = some { cls := .type "set", dict := none, data := .set #[] 0 (.fresh 0 0 (!w.params.followText "set-order")) } := Heap.get?_push_of_some _ hS
          exact ⟨0, Nat.le_refl 0, setX_new_at hget⟩
        case hR =>
          intro s' c' hm hc' hS'
          obtain ⟨h', g2, d', tk', os'⟩ := s'
          have eg : g2 = s.gens := hm.gens
          have ed : d' = s.drawn := hm.drawn
          have eo : os' = s.os := hm.os
          subst eg; subst ed; subst eo
          show wpAny _ _ _ _ _ _
          refine wpAny_pure ?_
          show wpAny _ _ (ret Value.none) _ _ _
          rw [hisz] at hc'
          refine wpAny_pure ⟨rfl, h', tk', c', rfl, hS', hc', fun b o e => ?_⟩
          have hb0 : b < s.heap.objs.size := Heap.lt_size e
          have hb1 : b ≠ s.heap.objs.size := Nat.ne_of_lt hb0
          have hb2 : b ≠ (s.heap.push { cls := .type "set", dict := none, data := .set #[] 0 (.fresh 0 0 (!w.params.followText "set-order")) }).objs.size := by
            rw [Heap.size_push]; exact Nat.ne_of_lt (Nat.lt_succ_of_lt hb0)
          exact hm.heap b o (by simp only [List.mem_cons, List.mem_singleton, List.not_mem_nil, or_false, not_or]; exact ⟨hb1, hb2⟩) (Heap.get?_push_of_some _ (Heap.get?_push_of_some _ e))

      · cases r₂ with
        | error e => exact hr₂
        | ok fl₂ =>
          cases fl₂ with
          | ret r =>
            obtain ⟨rfl, h', tk, c', rfl, hS', hc', hk'⟩ := hr₂
            repeat (any_goals (first | assumption | wp_step))
            exact h _ _ _ hS' hc' hk'
          | _ => exact hr₂.elim
    | _ => exact hr.elim

end
end DL


set_option Elab.async false
set_option linter.all false
set_option maxRecDepth 100000
set_option maxHeartbeats 4000000
/-! DL7: set(xs), sorted(set) as rules. -/
namespace DL
open PySem L2 PySem.Spec PyProof.Rows
def SetXO (w : World) (a : Addr) (S : Str → Bool) (n : Nat) : HO := .ext fun h => SetX w h a S n
theorem setXO_new {P : Program} {w : World} {H : Hp} {h : Heap} {a : Addr} {S : Str → Bool} {n : Nat} (R : SetX w h a S n) : ObjOk P w H h a (SetXO w a S n) := by
  have ⟨o, _, _, _, ho, _⟩ := R
  exact ⟨R, ⟨o, ho⟩, fun h1 h2 p k => p.at k⟩
theorem txts_of : ∀ {zs : List Str} {us : List Value}, Vals (zs.map V.str) us → TxtsAre us zs
  | [], _, h => by cases h; exact .nil
  | z :: zs, _, h => by
    cases h with
    | cons h1 h2 =>
      obtain ⟨t, rfl⟩ := (show ∃ t, _ = Value.str z t from h1)
      exact .cons z t (txts_of h2)
/-- set(xs), texts -/
def rSetX (w : World) (K : PySem.W.Frag) : List V → Hp → VK → Prop := fun xs H Q => ∃ (a : Addr) (zs : List Str), xs = [V.ref a] ∧ SqL K H a (zs.map V.str) ∧ zs.length ≤ 100 ∧ ∀ p S n, H p = none → (∀ k, S k = true ↔ k ∈ zs) → n ≤ zs.length → Q (.ref p) (upd H p (SetXO w p S n))
/-- sorted(set), texts: its members alone -/
def rSortedX (w : World) : List V → Hp → VK → Prop := fun xs H Q => ∃ (a : Addr) (S : Str → Bool) (n : Nat), xs = [V.ref a] ∧ H a = some (SetXO w a S n) ∧ n < 64 ∧ ∀ l (ys : List Str), H l = none → sortedS ys = true → (∀ k, k ∈ ys ↔ S k = true) → ys.Nodup → ys.length = n → Q (.ref l) (upd H l (.lst (ys.map V.str)))
theorem txts_are : ∀ (l : List Value), (∀ v ∈ l, ∃ k tk, v = Value.str k tk) → ∃ xs, TxtsAre l xs ∧ xs = l.map fun v => keyX (0, v)
  | [], _ => ⟨[], .nil, rfl⟩
  | v :: l, h => by
    obtain ⟨k, tk, rfl⟩ := h v List.mem_cons_self
    obtain ⟨xs, h1, h2⟩ := txts_are l fun u hu => h u (List.mem_cons_of_mem _ hu)
    exact ⟨k :: xs, .cons k tk h1, by rw [List.map_cons, ← h2]; rfl⟩
theorem TxtsAre.strs : ∀ {l : List Value} {xs : List Str}, TxtsAre l xs → StrsAre l xs
  | _, _, .nil => .nil
  | _, _, .cons x t h => .cons x t h.strs
theorem each_txts {R : Value → Str → Prop} (hR : ∀ x t, R (.str x t) x) : ∀ {l : List Value} {xs : List Str}, TxtsAre l xs → PySem.W.EachIs R l xs
  | _, _, .nil => .nil
  | _, _, .cons x t h => .cons (hR x t) (each_txts hR h)
theorem each_vals : ∀ {l : List Value} {xs : List Str}, PySem.W.EachIs (fun v x => ∃ t, v = Value.str x t) l xs → Vals (xs.map V.str) l
  | _, _, .nil => .nil
  | _, _, .cons ⟨t, e⟩ h => .cons ⟨t, e⟩ (each_vals h)
section
variable {X : Cx}
theorem cr_setX (hc : X.calm = true) : CallR X (.type "set") (rSetX X.w X.K) := by
  intro pins s σ H vs us Q I r h
  obtain ⟨a, zs, rfl, hs, hl, q⟩ := h
  obtain ⟨its, rv, pl, hz⟩ := I.list hs
  rw [Vals.ref1 r]
  refine call_set_txts zs (I.ok.hd hc) pl.isList (by simpa using txts_of rv) (by unfold scanBound; omega) fun h' tk c hS hc' hk => ?_
  exact ⟨.ref _, _, I.laid (a := s.heap.objs.size) (t' := tk) hk (Nat.le_refl _) (setXO_new hS), rfl, q _ _ c I.fresh (fun k => by rw [decide_eq_true_iff]) hc'⟩
theorem cr_sortedX (hc : X.calm = true) (hu : X.A.units + 64 < cLine) : CallR X (.builtin "sorted") (rSortedX X.w) := by
  intro pins s σ H vs us Q I r h
  obtain ⟨a, S, n, rfl, ha, hn100, q⟩ := h
  rw [Vals.ref1 r]
  obtain ⟨R, _, _⟩ := I.hok a _ ha
  obtain ⟨o, es, ep, t, ho, hex, hd, g, nd, hm, hb, hf, hn, hr, hl⟩ := R
  have hh := I.ok.hd hc
  refine Calls.call_function_entry kind_sorted plain_sorted entry_sorted (args_sorted1 _) ?_
  unfold Builtin.«sorted»
  refine wpAny_bind (m := checkCount "sorted" 1 1 _) (wpAny_pure ?_)
  refine wpAny_bind (collect_set (A := X.A.in1) hh ⟨o, ho, hex.1, hd⟩ hf hb hr hl fun s1 ws k1 hz g1 o1 pm => ?_)
  have hvl : ws.length = n := by rw [pm.length_eq, List.length_map, Array.length_toList]; exact hn
  obtain ⟨xs, hT, hxs⟩ := txts_are ws fun v hv => by
    obtain ⟨e, he, q⟩ := List.mem_map.mp (pm.mem_iff.mp hv)
    obtain ⟨k, tk, h1, _⟩ := g e he
    exact ⟨k, tk, by rw [← q]; exact h1⟩
  have pk : xs.Perm (es.toList.map keyX) := by
    have q := pm.map fun v => keyX (0, v)
    rw [List.map_map] at q
    rw [hxs]
    exact q
  have hxl : xs.length = n := by rw [← hT.length]; exact hvl
  refine wpAny_bind (wpAny_newList ?_ (by rw [hvl, sizeLine_eq]; omega))
  have hoL : (s1.heap.push (seqObj "list" ws.toArray 0)).get? s1.heap.objs.size = some (seqObj "list" ws.toArray 0) := Heap.get?_push_size _ rfl
  have hS : StrsAre ws xs := hT.strs
  refine wpAny_bind (wpAny_holding ?_)
  refine wpAny_call_entry PyProof.Rows.slot_list_sort ⟨_, hoL, rfl⟩ PyProof.Rows.entry_list_sort
    (list_sort_treeK strKind_oneLt hoL hS.keysOf (fun v₁ v₂ rest e => keyKind_strs (by rw [← e]; exact hS)) (by rw [hvl]; exact hn100) fun st' hp hs => ?_) (PyProof.Rows.args_list_sort _)
  obtain ⟨ys, g1', g2, g3⟩ := sorted_out_str hS hp hs
  obtain ⟨c, hc'⟩ := PyProof.Rows.sortedHeap_at (vs := ws) (out := (arrOf st').map (·.2)) hoL
  have py : ys.Perm (es.toList.map keyX) := g2.trans pk
  have hyl : ys.length = n := by rw [g2.length_eq, hxl]
  have hlen : (ys.map V.str).length ≤ sizeLine := by
    rw [List.length_map, hyl]
    exact Nat.le_trans (Nat.le_of_lt hn100) (by decide)
  refine ⟨.none, rfl, wpAny_pure ?_⟩
  have hnp : H s1.heap.objs.size = none := I.hok.fresh hz
  have kk : ∀ b u, s.heap.get? b = some u → (sortedHeap (s1.heap.push (seqObj "list" ws.toArray 0)) s1.heap.objs.size ws ((arrOf st').map (·.2))).get? b = some u := fun b u e => by
    have q := k1 b u e
    have hlt := Heap.lt_size q
    rw [PyProof.Rows.sortedHeap_old (Nat.ne_of_lt hlt) (by rw [Heap.size_push]; exact Nat.lt_succ_of_lt hlt)]
    exact Heap.get?_push_of_some _ q
  have J : Inv X pins σ (upd H s1.heap.objs.size (.lst (ys.map V.str))) { s with heap := sortedHeap (s1.heap.push (seqObj "list" ws.toArray 0)) s1.heap.objs.size ws ((arrOf st').map (·.2)), gens := s1.gens, drawn := s1.drawn, toks := s1.toks } :=
    I.call (ch := []) (Un.laid kk hz hnp) (I.hok.laid kk hz ⟨hlen, ((arrOf st').map (·.2)).toList, c, vals_of_strs g1', by rw [Array.toArray_toList]; exact hc'⟩) (by rw [g1]; exact I.bare) (fun _ z => nomatch z)
  have e : ({ s1 with heap := sortedHeap (s1.heap.push (seqObj "list" ws.toArray 0)) s1.heap.objs.size ws ((arrOf st').map (·.2)) } : Shared) = { s with heap := sortedHeap (s1.heap.push (seqObj "list" ws.toArray 0)) s1.heap.objs.size ws ((arrOf st').map (·.2)), gens := s1.gens, drawn := s1.drawn, toks := s1.toks } := by
    cases s1
    cases s
    cases o1
    rfl
  refine ⟨_, rfl, ?_⟩
  refine (congrArg (fun z => EP X pins σ Q (Value.ref s1.heap.objs.size) z) e).mpr ?_
  exact ⟨.ref _, _, J, rfl, q _ ys hnp g3 (fun k => by rw [py.mem_iff, ← hm k]) (py.nodup_iff.mpr nd) hyl⟩
end
end DL


set_option Elab.async false
set_option linter.all false
set_option maxRecDepth 100000
set_option maxHeartbeats 4000000
/-! DL8: sorted(d.items()), keys and values texts. -/
namespace DL
open PySem L2 PySem.Spec PyProof.Rows
/-- a dict from texts to texts, in order of insertion -/
def kvT (m : List (Str × Str)) : List (Key × V) := m.map fun e => (Sum.inr e.1, V.str e.2)
def rItemsK : V → List V → Hp → VK → Prop := fun x xs H Q => ∃ (a : Addr) (kvs : List (Key × V)), x = .ref a ∧ xs = [] ∧ Rd H a (.dK kvs) ∧ ∀ p, H p = none → Q (.ref p) (upd H p (DX.itemsO p a))
def rSortItS : List V → Hp → VK → Prop := fun vs H Q => ∃ (p a : Addr) (m : List (Str × Str)), vs = [V.ref p] ∧ H p = some (DX.itemsO p a) ∧ Rd H a (.dK (kvT m)) ∧ m.length < 1000 ∧
  ∀ (H' : Hp) (l : Addr) (zs : List (Addr × Str × Str)), (∀ b o, H b = some o → H' b = some o) → H l = none → (zs.map (·.2)).Perm m → H' l = some (.lst (zs.map fun z => V.ref z.1)) →
    (∀ z ∈ zs, H z.1 = none ∧ z.1 ≠ l ∧ H' z.1 = some (.tup [.str z.2.1, .str z.2.2])) → Q (.ref l) H'
section
variable {X : Cx}
theorem mt_itemsK : MtR X "dict.items" rItemsK := by
  intro pins s σ H x xs v us Q I rx rxs h
  obtain ⟨a, kvs, rfl, rfl, ha, q⟩ := h
  cases rx
  cases rxs
  obtain ⟨z, hd, vs, rel, o, es, ep, ho, hx, hdat, _⟩ := dk_rd I.hok ha
  refine DT.callItems (es := es) (ep := ep) hd ⟨o, ho, hx, hdat⟩ ?_
  have hf : H s.heap.objs.size = none := I.hok.fresh (Nat.le_refl _)
  exact ⟨.ref s.heap.objs.size, upd H s.heap.objs.size (DX.itemsO s.heap.objs.size a), I.laid (t' := s.toks) (fun b u e => Heap.get?_push_of_some _ e) (Nat.le_refl _) (DX.itemsO_ok (Heap.get?_push_size _ rfl)), rfl, q _ hf⟩
abbrev encP (z : Addr × Str × Str) : PyData := .tuple [.str z.2.1, .str z.2.2]
theorem each_zip {R : Value → Addr × Str × Str → Prop} : ∀ (as : List Addr) (m : List (Str × Str)), as.length = m.length → (∀ z ∈ as.zip m, R (.ref z.1) z) → PySem.W.EachIs R (as.map Value.ref) (as.zip m)
  | [], [], _, _ => .nil
  | [], _ :: _, h, _ => by cases h
  | _ :: _, [], h, _ => by cases h
  | a :: as, e :: m, h, f => .cons (f (a, e) List.mem_cons_self) (each_zip as m (by simpa using h) fun z hz => f z (List.mem_cons_of_mem _ hz))
theorem each_refs : ∀ {out : List Value} {zs : List (Addr × Str × Str)}, PySem.W.EachIs (fun v z => v = Value.ref z.1) out zs → out = zs.map fun z => Value.ref z.1
  | _, _, .nil => rfl
  | _, _, .cons e h => by rw [List.map_cons, ← e, each_refs h]
theorem pairs_txt {P : Program} {w : World} : ∀ {m : List (Str × Str)} {vs : List (Key × Value)} {es : List DictEntry}, KV (kvT m) vs → Pairs (mixKind P w) es vs → ∀ (j : Nat) (e : DictEntry) (z : Str × Str), es[j]? = some e → m[j]? = some z → ∃ t u, e.key = .str z.1 t ∧ e.val = .str z.2 u
  | [], _, _, _, _, j, e, z, _, h => by simp at h
  | x :: m, _, _, .cons (b := q) rel1 rel2, .cons h1 h2 h3, 0, e, z, he, hz => by
    have e1 := Option.some.inj (show some _ = some e from he)
    have e2 := Option.some.inj (show some _ = some z from hz)
    subst e1 e2
    obtain ⟨r1, r2⟩ := rel1
    have r1 : (Sum.inr x.1 : Key) = q.1 := r1
    have r2 : RelV (V.str x.2) q.2 := r2
    rw [← r1] at h1
    obtain ⟨t, et⟩ := (show ∃ t, _ = Value.str x.1 t from relV_key (show keyIs (Sum.inr x.1) _ = true from h1))
    obtain ⟨u, eu⟩ := (show ∃ t, q.2 = Value.str x.2 t from r2)
    exact ⟨t, u, et, h2.trans eu⟩
  | x :: m, _, _, .cons rel1 rel2, .cons h1 h2 h3, j + 1, e, z, he, hz => pairs_txt rel2 h3 j e z (by simpa using he) (by simpa using hz)
theorem cr_sortedItemsS (hc : X.calm = true) (hu : X.A.units + 64 < cLine) : CallR X (.builtin "sorted") rSortItS := by
  intro pins s σ H xs us Q I r h
  obtain ⟨p, a, m, rfl, hp, ha, h64, q⟩ := h
  obtain rfl := Vals.ref1 r
  have view : s.heap.IsItemsView p a := (show ObjOk X.prog X.w H s.heap p (DX.itemsO p a) from I.hok p _ hp).1
  obtain ⟨z, hd, vs, rel, o, es, ep, ho, hx, hdat, hes⟩ := dk_rd I.hok ha
  obtain ⟨hprs, _⟩ := hes.2
  have hh : X.A.handled = none := I.ok.hd hc
  have l1 : (kvT m).length = vs.length := Paired.length rel
  have l0 : (kvT m).length = m.length := by unfold kvT; rw [List.length_map]
  have l2 : es.size = m.length := by rw [← Array.length_toList, hprs.length, ← l1, l0]
  refine DT.sortedI (es := es) (ep := ep) hh view ⟨o, ho, hx, hdat⟩ (by rw [sizeLine_eq]; omega) fun h' tk as hk hlt hl hG => ?_
  have lak : as.length = m.length := by omega
  have nd : as.Nodup := List.Pairwise.imp (fun h => Nat.ne_of_lt h) hG.rise
  have pr : ∀ z ∈ as.zip m, ∃ t u, h'.get? z.1 = some { cls := .type "tuple", data := .seq #[Value.str z.2.1 t, Value.str z.2.2 u] } := by
    intro z hz
    obtain ⟨j, hj⟩ := List.mem_iff_getElem?.mp hz
    obtain ⟨j1, j2⟩ := List.getElem?_zip_eq_some.mp hj
    obtain ⟨en, he, hg⟩ := hG.pairs j z.1 j1
    obtain ⟨t, u, e1, e2⟩ := pairs_txt rel hprs j en z.2 (by rw [Array.getElem?_toList]; exact he) j2
    exact ⟨t, u, by rw [hg, e1, e2]⟩
  have hob : (h'.push { cls := .type "list", data := .seq (as.map Value.ref).toArray }).get? h'.objs.size = some (seqObj "list" (as.map Value.ref).toArray 0) := Heap.get?_push_size _ rfl
  have kb : ∀ b o, s.heap.get? b = some o → (h'.push { cls := .type "list", data := .seq (as.map Value.ref).toArray }).get? b = some o := fun b o e => Heap.get?_push_of_some _ (hk b o e)
  have ne0 : ∀ b o, h'.get? b = some o → b ≠ h'.objs.size := fun b o e => Nat.ne_of_lt (Heap.lt_size e)
  generalize hh2 : h'.push { cls := .type "list", data := .seq (as.map Value.ref).toArray } = h2 at hob kb ⊢
  have ka : ∀ b o, h'.get? b = some o → h2.get? b = some o := fun b o e => by rw [← hh2]; exact Heap.get?_push_of_some _ e
  have zl : (as.zip m).length = m.length := by rw [List.length_zip, lak]; exact Nat.min_self _
  refine PySem.W.list_sort_data (s := { s with heap := h2, toks := tk }) (enc := encP) (R := fun v z => v = Value.ref z.1) (bs := as.zip m) hob (each_zip as m lak fun z _ => rfl)
    (each_zip as m lak fun z hz => ?_) (PySem.W.AllAlike.of fun _ _ => rfl) (PySem.W.Sortable.tuples fun z => ⟨_, _, rfl⟩) (by rw [zl, sizeLine_eq]; omega) (fun z _ => by show X.A.units + 1 + 1 + 1 < cLine; omega) fun out hlo hout => ?_
  · obtain ⟨t, u, hg⟩ := pr z hz
    exact ⟨[], .tuple (ka _ _ hg) rfl rfl (.cons (.str _ _) (.cons (.str _ _) .nil)), List.not_mem_nil⟩
  show EP X pins σ Q (.ref h'.objs.size) { s with heap := sortedHeap h2 h'.objs.size (as.map Value.ref) out.toArray, toks := tk }
  have hzo := each_refs hout
  have hperm := List.mergeSort_perm (as.zip m) (PySem.W.dataLe false encP)
  generalize (as.zip m).mergeSort (PySem.W.dataLe false encP) = zs at hzo hperm hout
  have kF : ∀ b o, b ≠ h'.objs.size → h2.get? b = some o → (sortedHeap h2 h'.objs.size (as.map Value.ref) out.toArray).get? b = some o := fun b o hb e => (PyProof.Rows.sortedHeap_old hb (Heap.lt_size e)).trans e
  have kS : ∀ b o, s.heap.get? b = some o → (sortedHeap h2 h'.objs.size (as.map Value.ref) out.toArray).get? b = some o := fun b o e => kF b o (ne0 _ _ (hk b o e)) (kb b o e)
  obtain ⟨eF, heF⟩ := PyProof.Rows.sortedHeap_at (vs := as.map Value.ref) (out := out.toArray) hob
  have I1 : Inv X pins σ H { s with heap := sortedHeap h2 h'.objs.size (as.map Value.ref) out.toArray, toks := tk } := I.kept (t' := tk) kS
  have hn0 : H h'.objs.size = none := I.hok.fresh (Nat.le_of_lt hlt)
  have lz : zs.length = m.length := by rw [hperm.length_eq, zl]
  have hlen : (zs.map fun z => V.ref z.1).length ≤ sizeLine := by rw [List.length_map, lz, sizeLine_eq]; omega
  have rv : Vals (zs.map fun z => V.ref z.1) out := by
    rw [hzo]
    exact vals_maps (fun z : Addr × Str × Str => V.ref z.1) (fun z => Value.ref z.1) zs fun _ _ => rfl
  have I2 : Inv X pins σ (upd H h'.objs.size (.lst (zs.map fun z => V.ref z.1))) { s with heap := sortedHeap h2 h'.objs.size (as.map Value.ref) out.toArray, toks := tk } :=
    I1.take (h' := sortedHeap h2 h'.objs.size (as.map Value.ref) out.toArray) (t' := tk) (fun b ob _ e => e) (I.fpOk (Nat.le_of_lt hlt) hn0) ⟨hlen, out, eF, rv, by simpa using heF⟩
  have hmem : ∀ a' ∈ as, ∃ z ∈ as.zip m, z.1 = a' := fun a' ha' => by
    obtain ⟨j, hj⟩ := List.mem_iff_getElem?.mp ha'
    have hjl : j < m.length := by rw [← lak]; exact (List.getElem?_eq_some_iff.mp hj).1
    exact ⟨(a', m[j]), List.mem_iff_getElem?.mpr ⟨j, List.getElem?_zip_eq_some.mpr ⟨hj, List.getElem?_eq_getElem hjl⟩⟩, rfl⟩
  obtain ⟨H2, I3, g, qt⟩ := DX.takeT (P := fun b vs => ∃ z ∈ as.zip m, z.1 = b ∧ vs = [.str z.2.1, .str z.2.2]) I as _ I2 nd fun b hb => by
    obtain ⟨z, hz, rfl⟩ := hmem b hb
    obtain ⟨t, u, hg⟩ := pr z hz
    have hbl : s.heap.objs.size ≤ z.1 := Nat.le_of_lt (hG.above z.1 hb)
    refine ⟨hbl, ?_, _, ⟨z, hz, rfl, rfl⟩, fun H3 => ⟨(by rw [sizeLine_eq]; show 2 ≤ 16777216; omega), [Value.str z.2.1 t, Value.str z.2.2 u], .cons ⟨t, rfl⟩ (.cons ⟨u, rfl⟩ .nil), ⟨_, kF _ _ (ne0 _ _ hg) (ka _ _ hg), rfl, 0, rfl⟩⟩⟩
    rw [upd_ne (ne0 _ _ hg)]
    exact I.hok.fresh hbl
  have gr : ∀ b o, H b = some o → H2 b = some o := fun b o e => g b o (by rw [upd_ne (ne_of_none e hn0)]; exact e)
  refine ⟨.ref h'.objs.size, H2, I3, rfl, q H2 h'.objs.size zs gr hn0 ?_ (g _ _ upd_same) fun z hz => ?_⟩
  · have e := hperm.map (·.2)
    have m2 : (as.zip m).map (·.2) = m := List.map_snd_zip (by rw [lak]; exact Nat.le_refl _)
    rw [m2] at e
    exact e
  · have hz' : z ∈ as.zip m := hperm.mem_iff.mp hz
    have hza : z.1 ∈ as := (List.of_mem_zip (a := z.1) (b := z.2) hz').1
    obtain ⟨vs2, ⟨z2, hz2, e2, e3⟩, hH⟩ := qt z.1 hza
    have hbl : s.heap.objs.size ≤ z.1 := Nat.le_of_lt (hG.above z.1 hza)
    obtain ⟨t, u, hg⟩ := pr z hz'
    refine ⟨I.hok.fresh hbl, ne0 _ _ hg, ?_⟩
    have : z2 = z := by
      obtain ⟨i, hi⟩ := List.mem_iff_getElem?.mp hz2
      obtain ⟨j, hj⟩ := List.mem_iff_getElem?.mp hz'
      have a1 := (List.getElem?_zip_eq_some.mp hi).1
      have a2 := (List.getElem?_zip_eq_some.mp hj).1
      rw [e2] at a1
      have eij : i = j := (List.getElem?_inj (List.getElem?_eq_some_iff.mp a1).1 nd).mp (a1.trans a2.symm)
      subst eij
      rw [hi] at hj
      exact Option.some.inj hj
    rw [hH, e3, this]
end
end DL


set_option Elab.async false
set_option linter.all false
set_option maxRecDepth 100000
set_option maxHeartbeats 4000000
/-! DL9: sorted(xs, key=f), one item, f a def of the program. -/
namespace DL
open PySem L2 PySem.Spec PyProof.Rows PySem.W
/-- one item; the key's call is made, its answer is looked at no more -/
def rSortKey1 (K : PySem.W.Frag) (f : Addr) (sp : Sp) : List V → List V → Hp → VK → Prop := fun vs zs H Q => ∃ (a : Addr) (x : V), vs = [V.ref a] ∧ zs = [V.ref f] ∧ L2.SqL K H a [x] ∧
  sp [x] H (fun _ H1 => ∀ (l : Addr) (H2 : Hp), (∀ b o, H1 b = some o → H2 b = some o) → H1 l = none → H l = none → H2 l = some (.lst [x]) → Q (.ref l) H2) E0
section
variable {X : Cx}
theorem end1 {P : Program} {w : World} {A : Around} {E : Value → Shared → Prop} {s : Shared} {a kS : Addr} {k x : Value} {e1 e2 : Nat} {Pf : PySem.Fin → Shared → Prop} (nk : s.heap.get? kS = some (seqObj "list" #[k] e2)) (na : s.heap.get? a = some (seqObj "list" #[] e1)) (hka : kS ≠ a)
    (h : ∀ hm h' c c2, Heap.SameBut kS s.heap hm → hm.get? kS = some (seqObj "list" #[] c2) → Heap.SameBut a hm h' → h'.get? a = some (seqObj "list" #[x] c) → Pf (.done (.ret .none)) { s with heap := h' }) :
    wpAny (model P w) A (ksk_end a false #[x] e1 (.ref kS) #[k]) Pf E s := by
  have s1 := Heap.SameBut.update s.heap kS (Obj.mapSeq fun _ => (#[] : Array Value))
  have na1 : (s.heap.update kS (Obj.mapSeq fun _ => (#[] : Array Value))).get? a = some (seqObj "list" #[] e1) := (s1.2 a hka.symm).trans na
  have s2 := Heap.SameBut.update (s.heap.update kS (Obj.mapSeq fun _ => (#[] : Array Value))) a (Obj.mapSeq fun _ => #[x])
  obtain ⟨c1, hc1⟩ : ∃ c1, (s.heap.update kS (Obj.mapSeq fun _ => (#[] : Array Value))).get? kS = some (seqObj "list" #[] c1) := ⟨_, get?_update_seq nk fun _ => #[]⟩
  obtain ⟨c2, hc2⟩ : ∃ c2, ((s.heap.update kS (Obj.mapSeq fun _ => (#[] : Array Value))).update a (Obj.mapSeq fun _ => #[x])).get? a = some (seqObj "list" #[x] c2) :=
    ⟨_, get?_update_seq na1 fun _ => #[x]⟩
  unfold ksk_end
  refine wpAny_bind (wpAny_pure ?_)
  have hz : (#[k] : Array Value).zip #[x] = #[(k, x)] := by simp
  rw [hz]
  simp only [Bool.false_eq_true, if_false]
  rw [if_pos (show (#[x] : Array Value).size < 2 by show 1 < 2; decide)]
  refine wpAny_bind (m := (pure () : StateT SortSt Sem Unit).run (SortSt.mk' general' #[(k, x)] #[] 7 none)) (wpAny_pure ?_)
  unfold ksk_tail
  have hm : (arrOf (SortSt.mk' general' #[(k, x)] #[] 7 none)).map (·.2) = #[x] := by
    have ha : arrOf (SortSt.mk' general' #[(k, x)] #[] 7 none) = #[(k, x)] := rfl
    rw [ha]
    simp
  dsimp only
  rw [hm]
  simp only [Bool.false_eq_true, if_false]
  refine wpAny_bind (listUpdate_at nk rfl ?_ (by show 1 ≤ _; decide) (Nat.zero_le _))
  refine wpAny_bind (wpAny_letGo ?_)
  refine wpAny_bind (seqEpoch_at na1 rfl ?_)
  refine wpAny_bind (listUpdate_at na1 rfl ?_ (Nat.zero_le _) (by show 1 ≤ _; decide))
  have hfl : failedOf (SortSt.mk' general' #[(k, x)] #[] 7 none) = none := rfl
  try rw [hfl]
  simp only [bne_self_eq_false, Bool.false_eq_true, if_false]
  exact wpAny_pure (h _ _ c2 c1 s1 hc1 s2 hc2)
theorem cr_sortKey1 {k : Nat} {f : Addr} {fd : FuncData} {ps : List Str} {sp : Sp} (F : FnOk X.prog X.w X.K X.mg X.base CX0 k f fd ps sp) (hb : Binds X.K fd ps []) (hr : Room (k + 2) X.A) (hc : X.calm = true) :
    CallRK X (.builtin "sorted") [Str.ofString "key"] (rSortKey1 X.K f sp) := by
  intro pins s σ H xs zs us ws Q I r rz h
  obtain ⟨a, x, rfl, rfl, hs, q⟩ := h
  rw [Vals.ref1 r, Vals.ref1 rz]
  obtain ⟨its, rv, pl, hz⟩ := I.list hs
  obtain ⟨u, rfl, ru⟩ := Vals.one rv
  refine sorted_of_sort pl.isList (by show 1 ≤ _; decide) (ksk_s1 _ _) (fun x => ksk_l1 _ _) fun E' => ?_
  show wpAny (model X.prog X.w) X.A.in1.in1 (Builtin.«list.sort» ⟨[.ref (s.heap.objs.size + 1)], [(Str.ofString "key", .ref f)]⟩) _ _ _
  rw [ksk_t1]
  have ho := copyHeap_at s.heap [u]
  have hold : ∀ b o, s.heap.get? b = some o → (copyHeap s.heap [u]).get? b = some o := fun b o e => copyHeap_old e
  have hA : s.heap.objs.size + 1 < (copyHeap s.heap [u]).objs.size := Heap.lt_size ho
  generalize copyHeap s.heap [u] = hp at ho hold hA ⊢
  generalize ha0 : s.heap.objs.size + 1 = a0 at ho hA ⊢
  obtain ⟨e1, ho1⟩ : ∃ e1, (hp.update a0 (Obj.mapSeq fun _ => (#[] : Array Value))).get? a0 = some (seqObj "list" #[] e1) := ⟨_, get?_update_seq ho fun _ => #[]⟩
  have hkS : ((hp.update a0 (Obj.mapSeq fun _ => (#[] : Array Value))).push (seqObj "tuple" [u].toArray 0)).objs.size = hp.objs.size + 1 := by rw [size_push', Heap.size_update]
  unfold ksk_tree
  refine wpAny_bind (listItems_at ho rfl ?_)
  refine wpAny_bind (listUpdate_at ho rfl ?_ (by show 1 ≤ _; decide) (Nat.zero_le _))
  refine wpAny_bind (seqEpoch_at ho1 rfl ?_)
  refine wpAny_bind (wpAny_newTuple ?_ (by show 1 ≤ _; decide))
  refine wpAny_bind (wpAny_newList ?_ (Nat.zero_le _))
  refine wpAny_holding ?_
  have k5 : ∀ b o, s.heap.get? b = some o → (((hp.update a0 (Obj.mapSeq fun _ => (#[] : Array Value))).push (seqObj "tuple" [u].toArray 0)).push (seqObj "list" #[] 0)).get? b = some o := fun b o e =>
    Heap.get?_push_of_some _ (Heap.get?_push_of_some _ ((Heap.get?_update_ne _ _ _ _ (by rw [← ha0]; exact Nat.ne_of_lt (Nat.lt_succ_of_lt (Heap.lt_size e)))).trans (hold b o e)))
  have nk : (((hp.update a0 (Obj.mapSeq fun _ => (#[] : Array Value))).push (seqObj "tuple" [u].toArray 0)).push (seqObj "list" #[] 0)).get? ((hp.update a0 (Obj.mapSeq fun _ => (#[] : Array Value))).push (seqObj "tuple" [u].toArray 0)).objs.size = some (seqObj "list" #[] 0) := Heap.get?_push_size _ rfl
  have na : (((hp.update a0 (Obj.mapSeq fun _ => (#[] : Array Value))).push (seqObj "tuple" [u].toArray 0)).push (seqObj "list" #[] 0)).get? a0 = some (seqObj "list" #[] e1) := Heap.get?_push_of_some _ (Heap.get?_push_of_some _ ho1)
  generalize ((hp.update a0 (Obj.mapSeq fun _ => (#[] : Array Value))).push (seqObj "tuple" [u].toArray 0)).objs.size = kS at hkS nk ⊢
  generalize ((hp.update a0 (Obj.mapSeq fun _ => (#[] : Array Value))).push (seqObj "tuple" [u].toArray 0)).push (seqObj "list" #[] 0) = h5 at k5 nk na ⊢
  have hka : kS ≠ a0 := by omega
  have I5 : Inv X pins σ H { s with heap := h5 } := I.kept (t' := s.toks) k5
  have sA : s.heap.objs.size ≤ a0 := by omega
  have sK : s.heap.objs.size ≤ kS := by omega
  have HA : H a0 = none := I.hok.fresh sA
  have HK : H kS = none := I.hok.fresh sK
  unfold ksk_rest
  refine wpAny_bind (wpAny_rule ?_)
  have e0 : Env0 X.prog X.w X.K X.mg X.base X.A.in1.in1 X.stack { s with heap := h5 } H := I5.env0.in1.in1
  have nofr : ∀ b, s.heap.objs.size ≤ b → b ∉ frs X.stack := fun b hb z => by
    obtain ⟨_, ob, hob, _⟩ := I.stack.mem z
    exact absurd (Nat.lt_of_lt_of_le (Heap.lt_size hob) hb) (Nat.lt_irrefl _)
  have run := F.run X.A.in1.in1 X.stack { s with heap := h5 } H ⟨[u], []⟩ [u] [x] _ E0 (hr.in1.in1) e0 (hb _ [u] I5.kIn (by have := F.len _ _ _ _ q; simpa using this)) rv q
  simp only [List.forIn_toArray, List.forIn_cons, List.forIn_nil, bind_assoc, pure_bind]
  refine wpAny_bind (wpAny_attempt ?_)
  refine wpAny_call (codeAny_mono run fun rr s' hq => ?_)
  cases rr with
  | error e => exact hq.elim
  | ok fl =>
    cases fl with
    | next => exact hq.elim
    | brk => exact hq.elim
    | cont => exact hq.elim
    | ret kv =>
      obtain ⟨v, H1, os, bare, un, hok, rk, q1⟩ := hq
      obtain ⟨h6, g6, d6, t6, os6⟩ := s'
      obtain rfl : os6 = s.os := os
      have I6 : Inv X pins σ H1 { s with heap := h6, gens := g6, drawn := d6, toks := t6 } := Inv.call (s := { s with heap := h5 }) I5 (h' := h6) (g' := g6) (d' := d6) (t' := t6) (ch := []) un hok bare (fun b z => absurd z (by simp))
      have nk6 : h6.get? kS = some (seqObj "list" #[] 0) := un.keep kS _ nk HK (nofr kS sK) (by simp)
      have na6 : h6.get? a0 = some (seqObj "list" #[] e1) := un.keep a0 _ na HA (nofr a0 sA) (by simp)
      have HK1 : H1 kS = none := un.free kS _ nk HK (by simp)
      have HA1 : H1 a0 = none := un.free a0 _ na HA (by simp)
      have s1 := Heap.SameBut.update h6 kS (Obj.mapSeq (·.push kv))
      obtain ⟨c2, hc2⟩ : ∃ c2, (h6.update kS (Obj.mapSeq (·.push kv))).get? kS = some (seqObj "list" #[kv] c2) := ⟨_, get?_update_seq nk6 (·.push kv)⟩
      have na7 : (h6.update kS (Obj.mapSeq (·.push kv))).get? a0 = some (seqObj "list" #[] e1) := (s1.2 a0 hka.symm).trans na6
      refine wpAny_bind ?_
      dsimp only
      refine wpAny_bind (listUpdate_at (f := (·.push kv)) nk6 rfl ?_ (Nat.zero_le _) (by show ((#[] : Array Value).push kv).size ≤ _; rw [Array.size_push]; exact Nat.succ_le_succ (Nat.zero_le _)))
      refine wpAny_pure ?_
      dsimp only
      refine wpAny_bind (wpAny_pure ?_)
      refine wpAny_bind (listItems_at hc2 rfl ?_)
      refine end1 hc2 na7 hka fun hm h' c c3 sm hm1 sa ha' => ⟨rfl, ?_⟩
      have J1 : Inv X pins σ (upd H1 kS (.lst [])) { s with heap := hm, gens := g6, drawn := d6, toks := t6 } :=
        Inv.take (s := { s with heap := h6, gens := g6, drawn := d6, toks := t6 }) I6 (t' := t6) (fun b ob hb e => (sm.2 b hb).trans ((s1.2 b hb).trans e)) (I.fpOk sK HK1) ⟨Nat.zero_le _, [], c3, .nil, hm1⟩
      have HA2 : upd H1 kS (.lst []) a0 = none := by rw [upd_ne hka.symm]; exact HA1
      have J2 : Inv X pins σ (upd (upd H1 kS (.lst [])) a0 (.lst [x])) { s with heap := h', gens := g6, drawn := d6, toks := t6 } :=
        Inv.take (s := { s with heap := hm, gens := g6, drawn := d6, toks := t6 }) J1 (t' := t6) (fun b ob hb e => (sa.2 b hb).trans e) (I.fpOk sA HA2) ⟨by show 1 ≤ _; decide, [u], c, rv, ha'⟩
      exact ⟨.ref a0, _, J2, rfl, q1 a0 _ (fun b o e => by
        rw [upd_ne (fun z => by rw [z, HA1] at e; cases e), upd_ne (fun z => by rw [z, HK1] at e; cases e)]; exact e) HA1 HA upd_same⟩
end
end DL


set_option Elab.async false
set_option linter.all false
set_option maxRecDepth 100000
set_option maxHeartbeats 4000000
/-! DL10: enumerate of a list or a tuple. -/
namespace DL
open PySem L2 PySem.Spec PyProof.Rows
def IteT (K : PySem.W.Frag) (a : Addr) : It :=
  ⟨fun i H => ∃ (xs : List V) (x : V), SqT K H a xs ∧ xs[i]? = some x, fun i H v H' => ∃ T x, v = .ref T ∧ H T = none ∧ H' = upd H T (.tup [.int (i : Nat), x]) ∧ ∀ xs, SqT K H a xs → xs[i]? = some x, fun i H => ∃ xs : List V, SqT K H a xs ∧ xs.length ≤ i⟩
section
variable {prog : Program} {w : World} {A : Around} {E : Value → Shared → Prop} {s : Shared}
set_option maxHeartbeats 1000000 in
theorem meets_enum1 {v : Value} {o : Obj} {H : Heap → Prop} (B : Begins v o H) :
    Meets (Builtin.«enumerate.__new__» ⟨[.type "enumerate", v], []⟩) (fun _ R s => H s.heap ∧
      R (.ok (.ret (.ref (s.heap.push o).objs.size))) { s with heap := (s.heap.push o).push { cls := .type "enumerate", data := .fields #[.none, .bool false, .ref s.heap.objs.size, rawInt 0, .none, .none] } }) :=
  .of_wp fun prog w A R s h => by
    obtain ⟨hp, g, d, tk, os⟩ := s; obtain ⟨h1, h⟩ := h
    have hsub := sub_enumerate
    have q1 : ∀ {A' : Around} {E : Value → Shared → Prop} {Q : Value → Shared → Prop}, Q (.ref hp.objs.size) ⟨hp.push o, g, d, tk, os⟩ → wpAny (model prog w) A' (pyIter v) Q E ⟨hp, g, d, tk, os⟩ :=
      fun q => B.iter prog w _ _ ⟨hp, g, d, tk, os⟩ _ h1 q
    wp_walk using q1
    refine wpAny_stack_any fun st => wpAny_pure ?_
    split
    · rename_i c _ _ _ _ _
      cases (c == Value.type "enumerate")
      · wp_walk using q1
        exact ⟨_, rfl, h⟩
      · wp_walk using q1
        exact ⟨_, rfl, h⟩
    · wp_walk using q1
      exact ⟨_, rfl, h⟩
theorem enum1 {v : Value} {o : Obj} {H : Heap → Prop} {Q : Value → Shared → Prop} (B : Begins v o H) (h1 : H s.heap)
    (h : ∀ h', IsEnum h' (s.heap.objs.size + 1) s.heap.objs.size 0 .none → h'.get? s.heap.objs.size = some o → h'.objs.size = s.heap.objs.size + 2 →
      (∀ b o, s.heap.get? b = some o → h'.get? b = some o) → Q (.ref (s.heap.objs.size + 1)) { s with heap := h' }) :
    wpAny (model prog w) A (call (.type "enumerate") [v]) Q E s := by
  refine callType_new PySem.F.called_enumerate (by decide) (PySem.F.typeCall_enumerate_1 _) (PySem.F.newCall_enumerate_1 _) (fun obj => PySem.F.args_object_init_2 obj _) PySem.F.entry_enumerate_new
    (meets_enum1 B) ⟨h1, ?_⟩
  have hz : (s.heap.push o).objs.size = s.heap.objs.size + 1 := Heap.size_push ..
  show _ ∧ _
  rw [hz]
  have he : IsEnum ((s.heap.push o).push { cls := .type "enumerate", data := .fields #[.none, .bool false, .ref s.heap.objs.size, rawInt 0, .none, .none] }) (s.heap.objs.size + 1) s.heap.objs.size 0 .none := by
    have := Heap.get?_push_size (s.heap.push o) (o := { cls := .type "enumerate", data := .fields #[.none, .bool false, .ref s.heap.objs.size, rawInt 0, .none, .none] }) rfl
    rw [hz] at this; exact this
  refine ⟨⟨_, he, rfl⟩, h _ he (Heap.get?_push_of_some _ (Heap.get?_push_size _ B.free)) (by rw [Heap.size_push, hz]) fun b o x => Heap.get?_push_of_some _ (Heap.get?_push_of_some _ x)⟩
end
theorem turn_enumT {P : Program} {w : World} {K : PySem.W.Frag} {elts : List Expr} {kk : Nat} {tpos : Pos} (a e it : Addr) (hne : e ≠ it) (hea : e ≠ a) (hia : a ≠ it) :
    Turn P w K (.Tuple elts kk tpos) (IteT K a) [e, it] e (fun i h => (∃ old, IsEnum h e it ((i : Nat) : Int) old) ∧ h.IsTupleIter it a i) where
  mem := by simp
  obj := fun i h st b hb => by
    obtain ⟨⟨old, he⟩, ⟨o, ho, hc, hd⟩⟩ := st
    have e' : b = e ∨ b = it := by simpa using hb
    rcases e' with z | z
    · rw [z]; exact ⟨_, he, fun v q => nomatch q⟩
    · rw [z]; exact ⟨o, ho, fun v q => by rw [hd] at q; cases q⟩
  keep := fun i h h' st k => let ⟨⟨old, he⟩, hi⟩ := st; ⟨⟨old, k e (by simp) _ he⟩, hi.at fun o q => k it (by simp) o q⟩
  item := by
    intro X hP hw hK hc i pins s σ H E I hf st hg
    subst hP hw hK
    obtain ⟨⟨old, he⟩, hit⟩ := st
    obtain ⟨xs, x, hq, hx⟩ := hg
    obtain ⟨its, rv, p, hz⟩ := I.tuple hq
    obtain ⟨u, hu, ru⟩ := rv.get hx
    have hel : e < s.heap.objs.size := Heap.lt_size he
    have hil : it < s.heap.objs.size := by obtain ⟨_, q, _⟩ := hit; exact Heap.lt_size q
    have hi : i < its.toArray.size := by
      rw [List.size_toArray]; exact (List.getElem?_eq_some_iff.mp hu).1
    refine wpAny_pyNext_enum_itemD (Draws.tuple (A := X.A.in1) (I.ok.hd hc) it a hia its.toArray) he ⟨hit, show s.heap.IsTuple a its.toArray from p⟩ hi hne (by simp [hne, hea]) fun y h' tk hy ho hst' hT hsz hk => ?_
    have ey : y = u := by
      have hy' : its.toArray[i]? = some y := hy
      rw [List.getElem?_toArray, hu] at hy'
      exact (Option.some.inj hy').symm
    subst ey
    refine ⟨_, rfl, wpAny_letOwnedTupleGo_enum (s := { s with heap := h', toks := tk + 1 }) ho fun h'' he' sb => ?_⟩
    have hT2 : h''.get? s.heap.objs.size = some { cls := .type "tuple", data := .seq #[.int i tk, y] } := (sb.2 _ (Nat.ne_of_gt hel)).trans hT
    have new : ObjOk X.prog X.w (upd H s.heap.objs.size (.tup [.int (i : Nat), x])) h'' s.heap.objs.size (.tup [.int (i : Nat), x]) :=
      ⟨by show 2 ≤ sizeLine; decide, [.int i tk, y], .cons ⟨_, rfl⟩ (.cons ru .nil), ⟨_, hT2, rfl, _, rfl⟩⟩
    have I1 : Inv X pins σ (upd H s.heap.objs.size (.tup [.int (i : Nat), x])) { s with heap := h'', toks := tk + 1 } :=
      I.turnedNew (ch := [e, it]) (fun b ob hb q => (sb.2 b (fun z => hb (by simp [z]))).trans (hk b ob (fun z => hb (by simp [z])) (fun z => hb (by simp [z])) q)) hf (Nat.le_refl _) new
    refine ⟨.ref s.heap.objs.size, _, I1, rfl, ⟨_, x, rfl, I.hok.fresh (Nat.le_refl _), rfl, fun ys hy => by rw [I.tuple_inj hy hq]; exact hx⟩, ⟨⟨y, ?_⟩, hst'.1.at fun o q => (sb.2 it (Ne.symm hne)).trans q⟩, fun b hb => ?_⟩
    · have e1 : ((i + 1 : Nat) : Int) = (i : Int) + 1 := by omega
      rw [e1]; exact he'
    · have hb' : b < s.heap.objs.size := by
        have e' : b = e ∨ b = it := by simpa using hb
        rcases e' with z | z
        · rw [z]; exact hel
        · rw [z]; exact hil
      rw [upd_ne (Nat.ne_of_lt hb')]
      exact (hf b hb).1
  done := by
    intro X hP hw hK hc i pins s σ H E I hf st hg
    subst hP hw hK
    obtain ⟨⟨old, he⟩, hit⟩ := st
    obtain ⟨xs, hq, hx⟩ := hg
    obtain ⟨its, rv, p, hz⟩ := I.tuple hq
    obtain ⟨f0, f1, f2, f3, f4, f5⟩ := hf it (by simp)
    have hl := rv.length
    have hT : s.TypeIs (.ref e) "enumerate" := ⟨_, he, rfl⟩
    unfold pyNext
    refine wpAny_bind (wpAny_attempt (wpAny_callSpecial?_slot (name := Str.ofString "__next__") hT PySem.F.slot_enumerate_next
      (wpAny_call_entry PySem.F.slot_enumerate_next hT PySem.F.entry_enumerate_next ?_ (PySem.F.args_enumerate_next_1 _))))
    show wpAny _ _ (field (.ref e) 2 >>= _) _ _ _
    refine wpAny_bind (wpAny_field he rfl (x := .ref it) rfl ?_)
    refine wpAny_bind (wpAny_nextOf_tuple_end (show X.A.in1.handled = none from I.ok.hd hc) hit (show s.heap.IsTuple a its.toArray from p) (by simp; omega) fun h' x he' hx' => ?_)
    obtain ⟨o, ho, hc'⟩ := hx'
    refine wpAny_bind (wpAny_isInstance (T := "StopIteration") (b := true) ⟨o, ho, hc'⟩ isSubtype_stop ?_)
    exact wpAny_pure ⟨rfl, I.turned (t' := s.toks) (fun b o hb q => he' b o hb q) f0 f1 f3 f4 f5⟩
  self := fun A i s Q E st h => let ⟨⟨_, he⟩, _⟩ := st; wpAny_pyIter_enum he h
def iEnumU (K : PySem.W.Frag) (ta : TA) : TI := fun σ H R => ta σ H fun vs H1 => ∃ a xs, vs = [V.ref a] ∧ ((SqL K H1 a xs ∧ R (Ite K a) H1) ∨ (SqT K H1 a xs ∧ R (IteT K a) H1))
theorem pi_enumU {X : Cx} {e : Expr} {ta : TA} {p pos tpos : Pos} {elts : List Expr} {kk : Nat} (hg : Gl X "enumerate") (hm : X.mg "enumerate" = none) (ha : PA X [e] ta) (hs : starEach [e] X.env = [(false, eval e X.env)] := by rfl) :
    PI X (.Tuple elts kk tpos) (.Call (.Name "enumerate" p) [e] [] pos) (iEnumU X.K ta) := by
  refine ⟨fun pins s σ H R I h => ?_⟩
  refine Call_ (ld_blt I hg hm boot_enumerate (PyProof.Rows.callWith_type1 (thn (ha.run pos pins s σ H _ I h) fun us s1 ⟨vs, H1, I1, r1, q1⟩ => ?_) hs rfl))
  obtain ⟨a, xs, ex, q⟩ := q1
  subst ex
  have hle : ∀ b ∈ [s1.heap.objs.size + 1, s1.heap.objs.size], s1.heap.objs.size ≤ b := fun b hb => by
    have e' : b = s1.heap.objs.size + 1 ∨ b = s1.heap.objs.size := by simpa using hb
    rcases e' with z | z
    · rw [z]; exact Nat.le_add_right _ _
    · rw [z]; exact Nat.le_refl _
  rw [Vals.ref1 r1]
  rcases q with ⟨hq, q⟩ | ⟨hq, q⟩
  · obtain ⟨its, rv, p', hz⟩ := I1.list hq
    refine call_enumerate_list p'.isList fun h' he hit hsz hk => wpAny_pyIter_enum he ?_
    have I2 : Inv X pins σ H1 { s1 with heap := h' } := I1.kept (t' := s1.toks) hk
    exact ⟨s1.heap.objs.size + 1, [s1.heap.objs.size + 1, s1.heap.objs.size], _, _, H1, rfl, I2, turn_enum a (s1.heap.objs.size + 1) s1.heap.objs.size, ⟨⟨.none, he⟩, hit, Nat.succ_ne_self _⟩, fun b hb => I1.fpOk (hle b hb) (I1.hok.fresh (hle b hb)), q⟩
  · obtain ⟨its, rv, p', hz⟩ := I1.tuple hq
    have hlt : a < s1.heap.objs.size := by obtain ⟨o, e, _⟩ := p'; exact Heap.lt_size e
    refine enum1 (begins_tuple a its.toArray) (show s1.heap.IsTuple a its.toArray from p') fun h' he hit hsz hk => wpAny_pyIter_enum he ?_
    have I2 : Inv X pins σ H1 { s1 with heap := h' } := I1.kept (t' := s1.toks) hk
    exact ⟨s1.heap.objs.size + 1, [s1.heap.objs.size + 1, s1.heap.objs.size], _, _, H1, rfl, I2, turn_enumT a (s1.heap.objs.size + 1) s1.heap.objs.size (Nat.succ_ne_self _) (Nat.ne_of_gt (Nat.lt_succ_of_lt hlt)) (Nat.ne_of_lt hlt), ⟨⟨.none, he⟩, ⟨_, hit, rfl, rfl⟩⟩, fun b hb => I1.fpOk (hle b hb) (I1.hok.fresh (hle b hb)), q⟩
end DL


set_option Elab.async false
set_option linter.all false
set_option maxRecDepth 100000
set_option maxHeartbeats 4000000
/-! DL11: t[::-1], t a pair. -/
namespace DL
open PySem L2 PySem.Spec PyProof.Rows HT
section
variable {prog : Program} {w : World} {A : Around} {E : Value → Shared → Prop} {s : Shared}
theorem getItem_rev2 {t sl : Addr} {x y : Value} {vl vu vs : Value} {Q : Value → Shared → Prop} (ht : IsTup s.heap t #[x, y]) (hs : s.heap.IsSliceOf sl vl vu vs) (pl : IsPart vl none) (pu : IsPart vu none) (ps : IsPart vs (some (-1)))
    (h : Q (.ref s.heap.objs.size) { s with heap := s.heap.push { cls := .type "tuple", data := .seq #[y, x] } }) : wpAny (model prog w) A (getItem (.ref t) (.ref sl)) Q E s := by
  obtain ⟨os, hos, hcs, hds⟩ := id hs
  have hTs : s.TypeIs (.ref sl) "slice" := ⟨os, hos, hcs⟩
  unfold getItem
  try with_reducible refine wpAny_holding ?_
  first | refine wpAny_bind (wpAny_pure ?_) | skip
  refine wpAny_bind (wpAny_sequenceKey ht.typeIs (by decide) ?_)
  refine wpAny_bind (wpAny_callSpecial?_slot (name := Str.ofString "__getitem__") ht.typeIs PyProof.Rows.slot_tuple_getitem
    (wpAny_call_entry PyProof.Rows.slot_tuple_getitem ht.typeIs entry_tuple_getitem ?_ (args_tuple_getitem _ _)))
  show wpAny _ _ (Builtin.Tuple.tupleItemsOf (.ref t) >>= _) _ _ s
  refine wpAny_bind (tupleItemsOf_ ht ?_)
  refine wpAny_bind (wpAny_typeOf hTs ?_)
  rw [if_pos (by decide)]
  have ap : ∀ {Q' : Int × Int × Nat → Shared → Prop}, Q' (1, -1, 2) s → wpAny (model prog w) A.in1 (Builtin.Slice.sliceApplied (.ref sl) (pure ((2 : Nat) : Int))) Q' E s := fun {Q'} q => by
    unfold Builtin.Slice.sliceApplied Builtin.Slice.sliceFields
    refine wpAny_bind (wpAny_bind (wpAny_field hos hds (x := vl) rfl (wpAny_bind (wpAny_field hos hds (x := vu) rfl (wpAny_bind (wpAny_field hos hds (x := vs) rfl (wpAny_pure ?_)))))))
    refine wpAny_bind (slicePart_ ps ?_)
    show wpAny _ _ (if ((-1 : Int) == 0) = true then _ else _) _ _ s
    rw [if_neg (by decide)]
    refine wpAny_bind (slicePart_ pl (wpAny_bind (slicePart_ pu (wpAny_bind (wpAny_pure ?_)))))
    exact wpAny_pure q
  refine wpAny_bind (ap ?_)
  show wpAny _ _ (if ((1 : Int) == 0 && (-1 : Int) == 1 && (2 : Nat) == 2) = true then _ else _) _ _ s
  rw [if_neg (by decide)]
  have hp : ((List.range 2).filterMap fun (m : Nat) => (#[x, y] : Array Value)[((1 : Int) + (m : Int) * (-1)).toNat]?).toArray = #[y, x] := rfl
  first
    | exact wpAny_bind (m := Builtin.Tuple.tupleExact _) (wpAny_newObj_type (wpAny_pure ⟨_, rfl, wpAny_pure h⟩) (by show 2 ≤ sizeLine; decide))
    | exact wpAny_bind (m := Builtin.Tuple.tupleExact _) (wpAny_newObj_type (wpAny_bind (wpAny_pure (wpAny_pure ⟨_, rfl, wpAny_pure h⟩))) (by show 2 ≤ sizeLine; decide))
end
def tRevT (K : PySem.W.Frag) (te : TE) : TE := fun σ H Q => te σ H fun v H1 => ∃ a x y, v = V.ref a ∧ SqT K H1 a [x, y] ∧ ∀ p, H1 p = none → Q (.ref p) (upd H1 p (.tup [y, x]))
section
variable {X : Cx}
theorem pe_revT {e : Expr} {te : TE} {k : Nat} {p1 p2 p3 pos : Pos} (he : PE X e te) : PE X (.Subscript e (.Slice none none (some (.UnaryOp .USub (.Constant (.int 1) k p1) p2)) p3) pos) (tRevT X.K te) := by
  refine ⟨fun pins s σ H Q I h => ?_⟩
  refine Subscript_ (thn (he.run pins s σ H _ I h) fun v s1 ⟨x, H1, I1, r1, q1⟩ => ?_)
  obtain ⟨a, x, y, ex, hx, q⟩ := q1
  subst ex
  cases r1
  have hst : PO X (some (.UnaryOp .USub (.Constant (.int 1) k p1) p2)) (tPart (tUn (rU fun i => .int (-i)) (tC (.int 1)))) := po_some (pe_un un_neg pe_int)
  refine wpAny_Slice (thn (po_none.run pins s1 σ H1 (fun o H2 => o = none ∧ H2 = H1) I1 ⟨rfl, rfl⟩) fun vl s2 ⟨l, H2, I2, pl, el, e2⟩ => ?_)
  subst el e2
  refine thn (po_none.run pins s2 σ H2 (fun o H3 => o = none ∧ H3 = H2) I2 ⟨rfl, rfl⟩) fun vu s3 ⟨u, H3, I3, pu, eu, e3⟩ => ?_
  subst eu e3
  refine thn (hst.run pins s3 σ H3 (fun o H4 => o = some (-1) ∧ H4 = H3) I3 ⟨1, rfl, -1, rfl, rfl, rfl⟩) fun vs s4 ⟨o, H4, I4, ps, eo, e4⟩ => ?_
  subst eo e4
  have I5 : Inv X pins σ H4 { s4 with heap := s4.heap.push { cls := .type "slice", data := .fields #[vl, vu, vs] } } := I4.kept (t' := s4.toks) fun b ob q => Heap.get?_push_of_some _ q
  obtain ⟨its, r, ht, hz⟩ := I5.tuple hx
  obtain ⟨u1, u2, rfl, ru1, ru2⟩ : ∃ u1 u2, its = [u1, u2] ∧ RelV x u1 ∧ RelV y u2 := by
    cases r with
    | cons r1 r2 =>
      cases r2 with
      | cons r2 r3 => cases r3; exact ⟨_, _, rfl, r1, r2⟩
  show wpAny (model X.prog X.w) X.A (subscriptTail e (.Slice none none (some (.UnaryOp .USub (.Constant (.int 1) k p1) p2)) p3) (.ref a) (.ref s4.heap.objs.size)) (EP X pins σ Q) X.xe { s4 with heap := s4.heap.push { cls := .type "slice", data := .fields #[vl, vu, vs] } }
  refine tail_any (ops := [.ref a, .ref s4.heap.objs.size]) ht.typeIs (PyProof.Rows.slot_tuple_getitem.lookup) ?_ (by with_unfolding_all rfl)
  refine getItem_rev2 ht (Heap.IsSliceOf.new _ vl vu vs) pl pu ps ?_
  exact ⟨.ref _, _, I5.laid (t' := s4.toks) (o := .tup [y, x]) (fun b ob q => Heap.get?_push_of_some _ q) (Nat.le_refl _) ⟨by show 2 ≤ sizeLine; decide, [u2, u1], .cons ru2 (.cons ru1 .nil), ⟨_, Heap.get?_push_size _ rfl, rfl, _, rfl⟩⟩, rfl, q _ (I5.hok.fresh (Nat.le_refl _))⟩
end
end DL


set_option Elab.async false
set_option linter.all false
set_option maxRecDepth 100000
set_option maxHeartbeats 4000000
/-! DL12: names for readings; two kinds of walks; sorted(xs, key=f). -/
namespace DL
open PySem L2 PySem.Spec PyProof.Rows
def rLenD : List V → Hp → VK → Prop := fun xs H Q => ∃ a kvs, xs = [V.ref a] ∧ H a = some (.dK kvs) ∧ Q (.int kvs.length) H
def rDictD : List V → Hp → VK → Prop := fun xs H Q => ∃ (a : Addr) (kvs : List (Key × V)), xs = [.ref a] ∧ Rd H a (.dK kvs) ∧ ∀ p, H p = none → Q (.ref p) (upd H p (.dK kvs))
def rAbs : List V → Hp → VK → Prop := fun xs H Q => ∃ i, xs = [.int i] ∧ Q (.int (if i < 0 then -i else i)) H
def rMax2 : List V → Hp → VK → Prop := fun xs H Q => ∃ i j, xs = [.int i, .int j] ∧ Q (.int (if j > i then j else i)) H
def rDivmod : List V → Hp → VK → Prop := fun xs H Q => ∃ i j, xs = [.int i, .int j] ∧ CDiv i j ∧ ∀ p, H p = none → Q (.ref p) (upd H p (.tup [.int (i / j), .int (i % j)]))
def rInt1 : List V → Hp → VK → Prop := fun xs H Q => (∃ i, xs = [.int i] ∧ Q (.int i) H) ∨ ∃ k, xs = [.bl k] ∧ Q (.int (if k then 1 else 0)) H
section
variable {X : Cx}
theorem cr_lenD : CallR X (.builtin "len") rLenD := call_lenD
theorem cr_dictD : CallR X (.type "dict") rDictD := call_dictD
theorem cr_abs : CallR X (.builtin "abs") rAbs := call_abs
theorem cr_max2 (hc : X.calm = true) : CallR X (.builtin "max") rMax2 := call_max2 hc
theorem cr_divmod : CallR X (.builtin "divmod") rDivmod := call_divmod
theorem cr_int1 : CallR X (.type "int") rInt1 := call_int1
/-- a list or a tuple is walked -/
def iOr (a b : TI) : TI := fun σ H R => a σ H R ∨ b σ H R
theorem pi_or2 {tg it : Expr} {a b : TI} (h1 : PI X tg it a) (h2 : PI X tg it b) : PI X tg it (iOr a b) := ⟨fun pins s σ H R I h => h.elim (fun q => h1.run pins s σ H R I q) fun q => h2.run pins s σ H R I q⟩
/-- sorted(xs, key=f), one item -/
def tSortedKey (K : PySem.W.Frag) (f : Addr) (sp : Sp) (te : TE) : TE := tCKw (rSortKey1 K f sp) (tCons te tNil) (tCons (tC (.ref f)) tNil)
/-- .. for whatever stands behind the name -/
def tSortedKeyA (K : PySem.W.Frag) (sp : Sp) (te : TE) : TE := fun σ H Q => ∀ f, tSortedKey K f sp te σ H Q
theorem pe_sortedKey {k : Nat} {x : Str} {ps : List Str} {sp : Sp} {e : Expr} {te : TE} {p p2 pos kpos : Pos} (C : Cal X.prog X.w X.K X.mg X.base k x ps sp) (hr : Room (k + 2) X.A) (hc : X.calm = true) (hg : Gl X "sorted") (hm : X.mg "sorted" = none) (hgx : Gl X x) (ha : PA X [e] (tCons te tNil)) (hd : (x == ("__debug__" : Str)) = false := by decide)
    (e1 : backTo pos (starEach [e] X.env) = (false, eval e X.env) :: backTo pos (starEach [] X.env) := by rfl) (hpl : (backTo pos (starEach [e] X.env)).any (·.1) = false := by rfl)
    (hall : (backToKw pos (keywordEach [⟨some "key", .Name x p2, kpos⟩] X.env)).all (·.1.isSome) = true := by rfl) (hnone : (backToKw pos (keywordEach [⟨some "key", .Name x p2, kpos⟩] X.env)).any (·.1.isNone) = false := by rfl)
    (hks : (backToKw pos (keywordEach [⟨some "key", .Name x p2, kpos⟩] X.env)).filterMap (·.1) = [Str.ofString "key"] := by rfl) :
    PE X (.Call (.Name "sorted" p) [e] [⟨some "key", .Name x p2, kpos⟩] pos) (tSortedKeyA X.K sp te) := by
  obtain ⟨f, fd, a, b, c, d⟩ := C.ex
  refine ⟨fun pins s σ H Q I h => ?_⟩
  exact (pe_callBK (cr_sortKey1 d c hr hc) hg hm (by decide +kernel) ha (pk_cons (pe_glob (v := .ref f) hgx a rfl hd) pk_nil) (by decide) (by decide) e1 hpl hall hnone hks).run pins s σ H Q I (h f)
end
end DL


set_option Elab.async false
set_option linter.all false
set_option maxRecDepth 100000
set_option maxHeartbeats 4000000
namespace K68
open PySem L2 DL PySem.Spec PyProof.Rows
def top (i : Nat) : Stmt := PySem.Challenge.pw_markedrows_k68_whole_stars_and_rows_by_f.main.body.getD i (.Pass ⟨0, 0, 0, 0⟩)
/-! ### is_integer -/
abbrev s_is_integer : Stmt := top 17
abbrev N_is_integer : List Str := ["value"]
theorem sc_is_integer : FnScope N_is_integer ["value"] (defScope s_is_integer) := ⟨rfl, rfl, rfl, by decide +kernel, rfl, by decide +kernel, by decide +kernel⟩
def t_is_integer (P : Program) (w : World) (K : PySem.W.Frag)   : TS :=
  (tRet (tAndV (tCB (rIsi K) (tCons (tVar 0) (tCons (tC (.ty "int")) tNil))) (tNotV (tCB (rIsi K) (tCons (tVar 0) (tCons (tC (.ty "bool")) tNil))))))
/-! ### is_row -/
abbrev s_is_row : Stmt := top 18
abbrev N_is_row : List Str := ["value", "many"]
theorem sc_is_row : FnScope N_is_row ["value", "many"] (defScope s_is_row) := ⟨rfl, rfl, rfl, by decide +kernel, rfl, by decide +kernel, by decide +kernel⟩
def t_is_row (P : Program) (w : World) (K : PySem.W.Frag)   : TS :=
  (tRet (tAndV (tCB (rIsi K) (tCons (tVar 0) (tCons (tC (.ty "tuple")) tNil))) (tOp (uEq K) (tCB (rLenU K) (tCons (tVar 0) tNil)) (tVar 1))))
/-! ### is_name -/
abbrev s_is_name : Stmt := top 19
abbrev N_is_name : List Str := ["value", "sign"]
theorem sc_is_name : FnScope N_is_name ["value"] (defScope s_is_name) := ⟨rfl, rfl, rfl, by decide +kernel, rfl, by decide +kernel, by decide +kernel⟩
def t_is_name (P : Program) (w : World) (K : PySem.W.Frag)   : TS :=
  (tSeq (tIfS (tOr (tNot (tB (tCB (rIsi K) (tCons (tVar 0) (tCons (tC (.ty "str")) tNil))))) (tNot (tTest (tChain (rI0 fun i j => .bl (decide (i ≤ j))) (rI0 fun i j => .bl (decide (i ≤ j))) (tC (.int 1)) (tCB (rLenU K) (tCons (tVar 0) tNil)) (tC (.int 8)))))) (tRet (tC (.bl false))) tNext) (tRet (tCB (rAll K) (tCons (tLc (iStr (tVar 0)) (gName 1) tYes (tOp (uIn K) (tVar 1) (tC (.str "abcdefghijklmnopqrstuvwxyz"))) [1]) tNil))))
/-! ### is_word -/
abbrev s_is_word : Stmt := top 20
abbrev N_is_word : List Str := ["value", "sign"]
theorem sc_is_word : FnScope N_is_word ["value"] (defScope s_is_word) := ⟨rfl, rfl, rfl, by decide +kernel, rfl, by decide +kernel, by decide +kernel⟩
def t_is_word (P : Program) (w : World) (K : PySem.W.Frag)   : TS :=
  (tSeq (tIfS (tOr (tNot (tB (tCB (rIsi K) (tCons (tVar 0) (tCons (tC (.ty "str")) tNil))))) (tOr (tNot (tTest (tChain (rI0 fun i j => .bl (decide (i ≤ j))) (rI0 fun i j => .bl (decide (i ≤ j))) (tC (.int 1)) (tCB (rLenU K) (tCons (tVar 0) tNil)) (tC (.int 12))))) (tTest (tOp (uNotIn K) (tOp (rIx K) (tVar 0) (tC (.int 0))) (tC (.str "ABCDEFGHIJKLMNOPQRSTUVWXYZ")))))) (tRet (tC (.bl false))) tNext) (tRet (tCB (rAll K) (tCons (tLc (iStr (tVar 0)) (gName 1) tYes (tOrV (tOp (uIn K) (tVar 1) (tC (.str "abcdefghijklmnopqrstuvwxyz"))) (tOrV (tOp (uIn K) (tVar 1) (tC (.str "ABCDEFGHIJKLMNOPQRSTUVWXYZ"))) tNeverE)) [1]) tNil))))
/-! ### is_term -/
abbrev s_is_term : Stmt := top 22
abbrev N_is_term : List Str := ["value"]
theorem sc_is_term : FnScope N_is_term ["value"] (defScope s_is_term) := ⟨rfl, rfl, rfl, by decide +kernel, rfl, by decide +kernel, by decide +kernel⟩
def t_is_term (P : Program) (w : World) (K : PySem.W.Frag) (sp_is_name : Sp)  : TS :=
  (tRet (tOrV (tCall sp_is_name [] E0 (tCons (tVar 0) tNil)) tNeverE))
/-! ### unlike_ones -/
abbrev s_unlike_ones : Stmt := top 23
abbrev N_unlike_ones : List Str := ["items", "found", "item"]
theorem sc_unlike_ones : FnScope N_unlike_ones ["items"] (defScope s_unlike_ones) := ⟨rfl, rfl, rfl, by decide +kernel, rfl, by decide +kernel, by decide +kernel⟩
def t_unlike_ones (P : Program) (w : World) (K : PySem.W.Frag)   : TS :=
  (tSeq (tAsg (tDNewN P w) (gName 1)) (tSeq (tFor (iOr (iList K (tVar 0)) (iTup K (tVar 0))) (gName 2) (sDPutN P w K (tVar 1) (tVar 2) (tC (.bl true)))) (tRet (tCB (rListN P w) (tCons (tVar 1) tNil)))))
/-! ### is_terms -/
abbrev s_is_terms : Stmt := top 32
abbrev N_is_terms : List Str := ["value", "least", "most", "term"]
theorem sc_is_terms : FnScope N_is_terms ["value", "least", "most"] (defScope s_is_terms) := ⟨rfl, rfl, rfl, by decide +kernel, rfl, by decide +kernel, by decide +kernel⟩
def t_is_terms (P : Program) (w : World) (K : PySem.W.Frag) (sp_is_term : Sp)  : TS :=
  (tRet (tAndV (tCB (rIsi K) (tCons (tVar 0) (tCons (tC (.ty "tuple")) tNil))) (tAndV (tChain (rI0 fun i j => .bl (decide (i ≤ j))) (rI0 fun i j => .bl (decide (i ≤ j))) (tVar 1) (tCB (rLenU K) (tCons (tVar 0) tNil)) (tVar 2)) (tCB (rAll K) (tCons (tLc (iTup K (tVar 0)) (gName 3) tYes (tCall sp_is_term [] E0 (tCons (tVar 3) tNil)) [3]) tNil)))))
/-! ### is_atom -/
abbrev s_is_atom : Stmt := top 33
abbrev N_is_atom : List Str := ["value"]
theorem sc_is_atom : FnScope N_is_atom ["value"] (defScope s_is_atom) := ⟨rfl, rfl, rfl, by decide +kernel, rfl, by decide +kernel, by decide +kernel⟩
def t_is_atom (P : Program) (w : World) (K : PySem.W.Frag) (sp_is_row : Sp) (sp_is_terms : Sp) (sp_is_word : Sp)  : TS :=
  (tRet (tAndV (tCall sp_is_row [] E0 (tCons (tVar 0) (tCons (tC (.int 2)) tNil))) (tAndV (tCall sp_is_word [] E0 (tCons (tOp (rIx K) (tVar 0) (tC (.int 0))) tNil)) (tCall sp_is_terms [] E0 (tCons (tOp (rIx K) (tVar 0) (tC (.int 1))) (tCons (tC (.int 1)) (tCons (tC (.int 4)) tNil)))))))
/-! ### unlike_table -/
abbrev s_unlike_table : Stmt := top 34
abbrev N_unlike_table : List Str := ["atoms", "many", "found", "table", "terms"]
theorem sc_unlike_table : FnScope N_unlike_table ["atoms"] (defScope s_unlike_table) := ⟨rfl, rfl, rfl, by decide +kernel, rfl, by decide +kernel, by decide +kernel⟩
def t_unlike_table (P : Program) (w : World) (K : PySem.W.Frag)   : TS :=
  (tSeq (tPar 1 2 (tCons tDNewK (tCons (tLst tNil) tNil))) (tSeq (tFor (iOr (iList K (tVar 0)) (iTup K (tVar 0))) (gTup K 2 (gCons (gName 3) (gCons (gName 4) gNil))) (tIfS (tTest (tOp (uNe K) (tDSetd (tVar 1) (tVar 3) (tCB (rLenU K) (tCons (tVar 4) tNil))) (tCB (rLenU K) (tCons (tVar 4) tNil)))) tNever tNext)) (tRet (tIf (tTest (tOp (uNe K) (tVar 2) (tLst tNil))) tNeverE (tC .non)))))
/-! ### names_in -/
abbrev s_names_in : Stmt := top 35
abbrev N_names_in : List Str := ["atoms", "found", "table", "terms", "term"]
theorem sc_names_in : FnScope N_names_in ["atoms"] (defScope s_names_in) := ⟨rfl, rfl, rfl, by decide +kernel, rfl, by decide +kernel, by decide +kernel⟩
def t_names_in (P : Program) (w : World) (K : PySem.W.Frag) (sp_is_name : Sp)  : TS :=
  (tSeq (tAsg (tLst tNil) (gName 1)) (tSeq (tFor (iOr (iList K (tVar 0)) (iTup K (tVar 0))) (gTup K 2 (gCons (gName 2) (gCons (gName 3) gNil))) (tDrop (tBM K "list" rExtend (tVar 1) (tCons (tLc (iTup K (tVar 3)) (gName 4) (tB (tCall sp_is_name [] E0 (tCons (tVar 4) tNil))) (tVar 4) [4]) tNil)))) (tRet (tCB (rSortedX w) (tCons (tCB (rSetX w K) (tCons (tVar 1) tNil)) tNil)))))
/-! ### is_question_of -/
abbrev s_is_question_of : Stmt := top 36
abbrev N_is_question_of : List Str := ["value", "names", "atom", "term"]
theorem sc_is_question_of : FnScope N_is_question_of ["value"] (defScope s_is_question_of) := ⟨rfl, rfl, rfl, by decide +kernel, rfl, by decide +kernel, by decide +kernel⟩
def t_is_question_of (P : Program) (w : World) (K : PySem.W.Frag) (sp_is_atom : Sp) (sp_is_name : Sp) (sp_is_row : Sp) (sp_is_terms : Sp) (sp_names_in : Sp) (sp_unlike_table : Sp)  : TS :=
  (tSeq (tIfS (tOr (tNot (tB (tCall sp_is_row [] E0 (tCons (tVar 0) (tCons (tC (.int 3)) tNil))))) (tOr (tTest (tOp (uNe K) (tOp (rIx K) (tVar 0) (tC (.int 0))) (tC (.str "ask")))) (tNot (tB (tCall sp_is_terms [] E0 (tCons (tOp (rIx K) (tVar 0) (tC (.int 1))) (tCons (tC (.int 0)) (tCons (tC (.int 4)) tNil)))))))) (tRet (tC (.bl false))) tNext) (tSeq (tIfS (tOr (tNot (tB (tCB (rIsi K) (tCons (tOp (rIx K) (tVar 0) (tC (.int 2))) (tCons (tC (.ty "tuple")) tNil))))) (tNot (tTest (tChain (rI0 fun i j => .bl (decide (i ≤ j))) (rI0 fun i j => .bl (decide (i ≤ j))) (tC (.int 1)) (tCB (rLenU K) (tCons (tOp (rIx K) (tVar 0) (tC (.int 2))) tNil)) (tC (.int 6)))))) (tRet (tC (.bl false))) tNext) (tSeq (tIfS (tNot (tB (tCB (rAll K) (tCons (tLc (iTup K (tOp (rIx K) (tVar 0) (tC (.int 2)))) (gName 2) tYes (tCall sp_is_atom [] E0 (tCons (tVar 2) tNil)) [2]) tNil)))) (tRet (tC (.bl false))) tNext) (tSeq (tAsg (tCall sp_names_in [] E0 (tCons (tOp (rIx K) (tVar 0) (tC (.int 2))) tNil)) (gName 1)) (tRet (tAndV (tIsN (tCall sp_unlike_table [] E0 (tCons (tOp (rIx K) (tVar 0) (tC (.int 2))) tNil))) (tCB (rAll K) (tCons (tLc (iTup K (tOp (rIx K) (tVar 0) (tC (.int 1)))) (gName 3) (tB (tCall sp_is_name [] E0 (tCons (tVar 3) tNil))) (tOp (uIn K) (tVar 3) (tVar 1)) [3]) tNil))))))))
/-! ### is_union_of -/
abbrev s_is_union_of : Stmt := top 37
abbrev N_is_union_of : List Str := ["value", "member"]
theorem sc_is_union_of : FnScope N_is_union_of ["value"] (defScope s_is_union_of) := ⟨rfl, rfl, rfl, by decide +kernel, rfl, by decide +kernel, by decide +kernel⟩
def t_is_union_of (P : Program) (w : World) (K : PySem.W.Frag) (sp_is_row : Sp)  : TS :=
  (tSeq (tIfS (tOr (tNot (tB (tCall sp_is_row [] E0 (tCons (tVar 0) (tCons (tC (.int 2)) tNil))))) (tOr (tTest (tOp (uNe K) (tOp (rIx K) (tVar 0) (tC (.int 0))) (tC (.str "any")))) (tNot (tB (tCB (rIsi K) (tCons (tOp (rIx K) (tVar 0) (tC (.int 1))) (tCons (tC (.ty "tuple")) tNil))))))) (tRet (tC (.bl false))) tNext) tNever)
/-! ### atoms_in -/
abbrev s_atoms_in : Stmt := top 38
abbrev N_atoms_in : List Str := ["members", "found", "member"]
theorem sc_atoms_in : FnScope N_atoms_in ["members"] (defScope s_atoms_in) := ⟨rfl, rfl, rfl, by decide +kernel, rfl, by decide +kernel, by decide +kernel⟩
def t_atoms_in (P : Program) (w : World) (K : PySem.W.Frag)   : TS :=
  (tSeq (tAsg (tLst tNil) (gName 1)) (tSeq (tFor (iTup K (tVar 0)) (gName 2) (tDrop (tBM K "list" rExtend (tVar 1) (tCons (tCB (rListU K) (tCons (tOp (rIx K) (tVar 2) (tC (.int 2))) tNil)) tNil)))) (tRet (tVar 1))))
/-! ### members_of -/
abbrev s_members_of : Stmt := top 39
abbrev N_members_of : List Str := ["union"]
theorem sc_members_of : FnScope N_members_of ["union"] (defScope s_members_of) := ⟨rfl, rfl, rfl, by decide +kernel, rfl, by decide +kernel, by decide +kernel⟩
def t_members_of (P : Program) (w : World) (K : PySem.W.Frag)   : TS :=
  (tRet (tIf (tTest (tOp (uEq K) (tOp (rIx K) (tVar 0) (tC (.int 0))) (tC (.str "any")))) (tOp (rIx K) (tVar 0) (tC (.int 1))) (tTup (tCons (tVar 0) tNil))))
/-! ### head_length -/
abbrev s_head_length : Stmt := top 40
abbrev N_head_length : List Str := ["union"]
theorem sc_head_length : FnScope N_head_length ["union"] (defScope s_head_length) := ⟨rfl, rfl, rfl, by decide +kernel, rfl, by decide +kernel, by decide +kernel⟩
def t_head_length (P : Program) (w : World) (K : PySem.W.Frag) (sp_members_of : Sp)  : TS :=
  (tRet (tCB (rLenU K) (tCons (tOp (rIx K) (tOp (rIx K) (tCall sp_members_of [] E0 (tCons (tVar 0) tNil)) (tC (.int 0))) (tC (.int 1))) tNil)))
/-! ### led_terms -/
abbrev s_led_terms : Stmt := top 41
abbrev N_led_terms : List Str := ["terms", "led", "term"]
theorem sc_led_terms : FnScope N_led_terms ["terms", "led"] (defScope s_led_terms) := ⟨rfl, rfl, rfl, by decide +kernel, rfl, by decide +kernel, by decide +kernel⟩
def t_led_terms (P : Program) (w : World) (K : PySem.W.Frag) (sp_is_name : Sp)  : TS :=
  (tRet (tCB (rTupU K) (tCons (tLc (iTup K (tVar 0)) (gName 2) tYes (tIf (tB (tCall sp_is_name [] E0 (tCons (tVar 2) tNil))) (tDGet (tVar 1) (tVar 2)) (tVar 2)) [2]) tNil)))
/-! ### led_atoms -/
abbrev s_led_atoms : Stmt := top 42
abbrev N_led_atoms : List Str := ["question", "led", "table", "terms"]
theorem sc_led_atoms : FnScope N_led_atoms ["question", "led"] (defScope s_led_atoms) := ⟨rfl, rfl, rfl, by decide +kernel, rfl, by decide +kernel, by decide +kernel⟩
def t_led_atoms (P : Program) (w : World) (K : PySem.W.Frag) (sp_led_terms : Sp)  : TS :=
  (tRet (tLc (iTup K (tOp (rIx K) (tVar 0) (tC (.int 2)))) (gTup K 2 (gCons (gName 2) (gCons (gName 3) gNil))) tYes (tTup (tCons (tVar 2) (tCons (tCall sp_led_terms [] E0 (tCons (tVar 3) (tCons (tVar 1) tNil))) tNil))) [2, 3]))
/-! ### want_question -/
abbrev s_want_question : Stmt := top 43
abbrev N_want_question : List Str := ["value"]
theorem sc_want_question : FnScope N_want_question ["value"] (defScope s_want_question) := ⟨rfl, rfl, rfl, by decide +kernel, rfl, by decide +kernel, by decide +kernel⟩
def t_want_question (P : Program) (w : World) (K : PySem.W.Frag) (sp_is_question_of : Sp)  : TS :=
  (tSeq (tIfS (tNot (tB (tCall sp_is_question_of [] E0 (tCons (tVar 0) tNil)))) tNever tNext) (tRet (tVar 0)))
/-! ### want_union -/
abbrev s_want_union : Stmt := top 44
abbrev N_want_union : List Str := ["value"]
theorem sc_want_union : FnScope N_want_union ["value"] (defScope s_want_union) := ⟨rfl, rfl, rfl, by decide +kernel, rfl, by decide +kernel, by decide +kernel⟩
def t_want_union (P : Program) (w : World) (K : PySem.W.Frag) (sp_is_question_of : Sp) (sp_is_union_of : Sp)  : TS :=
  (tSeq (tIfS (tAnd (tNot (tB (tCall sp_is_union_of [] E0 (tCons (tVar 0) tNil)))) (tNot (tB (tCall sp_is_question_of [] E0 (tCons (tVar 0) tNil))))) tNever tNext) (tRet (tVar 0)))
/-! ### want_alike -/
abbrev s_want_alike : Stmt := top 45
abbrev N_want_alike : List Str := ["union", "other", "table"]
theorem sc_want_alike : FnScope N_want_alike ["union", "other"] (defScope s_want_alike) := ⟨rfl, rfl, rfl, by decide +kernel, rfl, by decide +kernel, by decide +kernel⟩
def t_want_alike (P : Program) (w : World) (K : PySem.W.Frag) (sp_atoms_in : Sp) (sp_head_length : Sp) (sp_members_of : Sp) (sp_unlike_table : Sp)  : TS :=
  (tSeq (tIfS (tTest (tOp (uNe K) (tCall sp_head_length [] E0 (tCons (tVar 0) tNil)) (tCall sp_head_length [] E0 (tCons (tVar 1) tNil)))) tNever tNext) (tSeq (tAsg (tCall sp_unlike_table [] E0 (tCons (tCall sp_atoms_in [] E0 (tCons (tOp (rCatT K) (tCall sp_members_of [] E0 (tCons (tVar 0) tNil)) (tCall sp_members_of [] E0 (tCons (tVar 1) tNil))) tNil)) tNil)) (gName 2)) (tIfS (tB (tNotN (tVar 2))) tNever tNext)))
/-! ### want_two -/
abbrev s_want_two : Stmt := top 46
abbrev N_want_two : List Str := ["union", "other"]
theorem sc_want_two : FnScope N_want_two ["union", "other"] (defScope s_want_two) := ⟨rfl, rfl, rfl, by decide +kernel, rfl, by decide +kernel, by decide +kernel⟩
def t_want_two (P : Program) (w : World) (K : PySem.W.Frag) (sp_want_alike : Sp) (sp_want_union : Sp)  : TS :=
  (tSeq (tDrop (tCall sp_want_union [] E0 (tCons (tVar 0) tNil))) (tDrop (tCall sp_want_alike [] E0 (tCons (tVar 0) (tCons (tCall sp_want_union [] E0 (tCons (tVar 1) tNil)) tNil)))))
/-! ### agreed -/
abbrev s_agreed : Stmt := top 48
abbrev N_agreed : List Str := ["terms", "goal", "led", "found", "term", "other"]
theorem sc_agreed : FnScope N_agreed ["terms", "goal", "led"] (defScope s_agreed) := ⟨rfl, rfl, rfl, by decide +kernel, rfl, by decide +kernel, by decide +kernel⟩
def t_agreed (P : Program) (w : World) (K : PySem.W.Frag) (sp_is_name : Sp)  : TS :=
  (tSeq (tAsg (tCB rDictD (tCons (tVar 2) tNil)) (gName 3)) (tSeq (tFor (RZ.iZipA K (tCons (tVar 0) (tCons (tVar 1) tNil))) (gTup K 2 (gCons (gName 4) (gCons (gName 5) gNil))) (tIfS (tNot (tB (tCall sp_is_name [] E0 (tCons (tVar 4) tNil)))) tNever (tIfS (tTest (tOp (uNe K) (tDSetd (tVar 3) (tVar 4) (tVar 5)) (tVar 5))) (tRet (tC .non)) tNext))) (tRet (tVar 3))))
/-! ### led_into -/
abbrev s_led_into : Stmt := top 49
abbrev N_led_into : List Str := ["atoms", "goals", "led", "table", "terms", "other", "goal", "more", "found"]
theorem sc_led_into : FnScope N_led_into ["atoms", "goals", "led"] (defScope s_led_into) := ⟨rfl, rfl, rfl, by decide +kernel, rfl, by decide +kernel, by decide +kernel⟩
def t_led_into (P : Program) (w : World) (K : PySem.W.Frag) (sp_agreed : Sp) (sp_led_into : Sp)  : TS :=
  (tSeq (tIfS (tTest (tOp (uEq K) (tVar 0) (tLst tNil))) (tRet (tVar 2)) tNext) (tSeq (tAsg (tOp (rIx K) (tVar 0) (tC (.int 0))) (gTup K 2 (gCons (gName 3) (gCons (gName 4) gNil)))) (tSeq (tFor (iList K (tVar 1)) (gTup K 2 (gCons (gName 5) (gCons (gName 6) gNil))) (tIfS (tTest (tOp (uEq K) (tVar 5) (tVar 3))) (tSeq (tAsg (tCall sp_agreed [] E0 (tCons (tVar 4) (tCons (tVar 6) (tCons (tVar 2) tNil)))) (gName 7)) (tSeq (tAsg (tIf (tB (tNotN (tVar 7))) (tCall sp_led_into [] E0 (tCons (tSl (rSlL K) (tVar 0) (tPart (tC (.int 1))) tNoPart) (tCons (tVar 1) (tCons (tVar 7) tNil)))) (tC .non)) (gName 8)) (tIfS (tB (tNotN (tVar 8))) (tRet (tVar 8)) tNext))) tNext)) (tRet (tC .non)))))
/-! ### map_into -/
abbrev s_map_into : Stmt := top 50
abbrev N_map_into : List Str := ["question", "goals", "head", "start"]
theorem sc_map_into : FnScope N_map_into ["question", "goals", "head"] (defScope s_map_into) := ⟨rfl, rfl, rfl, by decide +kernel, rfl, by decide +kernel, by decide +kernel⟩
def t_map_into (P : Program) (w : World) (K : PySem.W.Frag) (sp_agreed : Sp) (sp_led_into : Sp)  : TS :=
  (tSeq (tAsg (tCall sp_agreed [] E0 (tCons (tOp (rIx K) (tVar 0) (tC (.int 1))) (tCons (tVar 2) (tCons tDNewK tNil)))) (gName 3)) (tRet (tIf (tB (tIsN (tVar 3))) (tC .non) (tCall sp_led_into [] E0 (tCons (tCB (rListU K) (tCons (tOp (rIx K) (tVar 0) (tC (.int 2))) tNil)) (tCons (tVar 1) (tCons (tVar 3) tNil)))))))
/-! ### map_using -/
abbrev s_map_using : Stmt := top 51
abbrev N_map_using : List Str := ["question", "goals", "head", "goal", "start", "at", "more", "table", "terms", "found", "place", "atom"]
theorem sc_map_using : FnScope N_map_using ["question", "goals", "head", "goal"] (defScope s_map_using) := ⟨rfl, rfl, rfl, by decide +kernel, rfl, by decide +kernel, by decide +kernel⟩
def t_map_using (P : Program) (w : World) (K : PySem.W.Frag) (sp_agreed : Sp) (sp_led_into : Sp)  : TS :=
  (tSeq (tAsg (tCall sp_agreed [] E0 (tCons (tOp (rIx K) (tVar 0) (tC (.int 1))) (tCons (tVar 2) (tCons tDNewK tNil)))) (gName 4)) (tSeq (tIfS (tB (tIsN (tVar 4))) (tRet (tC .non)) tNext) (tSeq (tFor (iEnumU K (tCons (tOp (rIx K) (tVar 0) (tC (.int 2))) tNil)) (gTup K 2 (gCons (gName 5) (gCons (gTup K 2 (gCons (gName 7) (gCons (gName 8) gNil))) gNil))) (tSeq (tAsg (tIf (tTest (tOp (uEq K) (tVar 7) (tOp (rIx K) (tVar 3) (tC (.int 0))))) (tCall sp_agreed [] E0 (tCons (tVar 8) (tCons (tOp (rIx K) (tVar 3) (tC (.int 1))) (tCons (tVar 4) tNil)))) (tC .non)) (gName 6)) (tIfS (tB (tNotN (tVar 6))) (tSeq (tAsg (tCall sp_led_into [] E0 (tCons (tLc (iEnumU K (tCons (tOp (rIx K) (tVar 0) (tC (.int 2))) tNil)) (gTup K 2 (gCons (gName 10) (gCons (gName 11) gNil))) (tTest (tOp (uNe K) (tVar 10) (tVar 5))) (tVar 11) [10, 11]) (tCons (tVar 1) (tCons (tVar 6) tNil)))) (gName 9)) (tIfS (tB (tNotN (tVar 9))) (tRet (tVar 9)) tNext)) tNext))) (tRet (tC .non)))))
/-! ### told_map -/
abbrev s_told_map : Stmt := top 52
abbrev N_told_map : List Str := ["led"]
theorem sc_told_map : FnScope N_told_map ["led"] (defScope s_told_map) := ⟨rfl, rfl, rfl, by decide +kernel, rfl, by decide +kernel, by decide +kernel⟩
def t_told_map (P : Program) (w : World) (K : PySem.W.Frag)   : TS :=
  (tRet (tCB (rTupU K) (tCons (tCB rSortItS (tCons (tBM0 K "dict" rItemsK (tVar 0)) tNil)) tNil)))
/-! ### part_of -/
abbrev s_part_of : Stmt := top 53
abbrev N_part_of : List Str := ["question", "left", "found", "at"]
theorem sc_part_of : FnScope N_part_of ["question", "left"] (defScope s_part_of) := ⟨rfl, rfl, rfl, by decide +kernel, rfl, by decide +kernel, by decide +kernel⟩
def t_part_of (P : Program) (w : World) (K : PySem.W.Frag) (sp_is_question_of : Sp)  : TS :=
  (tSeq (tAsg (tTup (tCons (tOp (rIx K) (tVar 0) (tC (.int 0))) (tCons (tOp (rIx K) (tVar 0) (tC (.int 1))) (tCons (tCB (rTupU K) (tCons (tLc (iList K (tVar 1)) (gName 3) tYes (tOp (rIx K) (tOp (rIx K) (tVar 0) (tC (.int 2))) (tVar 3)) [3]) tNil)) tNil)))) (gName 2)) (tRet (tIf (tB (tCall sp_is_question_of [] E0 (tCons (tVar 2) tNil))) (tVar 2) (tC .non))))
/-! ### fold_of -/
abbrev s_fold_of : Stmt := top 54
abbrev N_fold_of : List Str := ["question", "rows", "row", "found", "atom"]
theorem sc_fold_of : FnScope N_fold_of ["question"] (defScope s_fold_of) := ⟨rfl, rfl, rfl, by decide +kernel, rfl, by decide +kernel, by decide +kernel⟩
def t_fold_of (P : Program) (w : World) (K : PySem.W.Frag) (sp_map_into : Sp) (sp_unlike_ones : Sp)  : TS :=
  (tSeq (tAsg (tCall sp_unlike_ones [] E0 (tCons (tOp (rIx K) (tVar 0) (tC (.int 2))) tNil)) (gName 1)) (tSeq (tFor (iList K (tVar 1)) (gName 2) (tSeq (tAsg (tCall sp_map_into [] E0 (tCons (tVar 0) (tCons (tLc (iList K (tVar 1)) (gName 4) (tTest (tOp (uNe K) (tVar 4) (tVar 2))) (tVar 4) [4]) (tCons (tOp (rIx K) (tVar 0) (tC (.int 1))) tNil)))) (gName 3)) (tIfS (tB (tNotN (tVar 3))) (tRet (tVar 3)) tNext))) (tRet (tC .non))))
/-! ### core_of -/
abbrev s_core_of : Stmt := top 55
abbrev N_core_of : List Str := ["question", "found", "used", "at", "atom"]
theorem sc_core_of : FnScope N_core_of ["question"] (defScope s_core_of) := ⟨rfl, rfl, rfl, by decide +kernel, rfl, by decide +kernel, by decide +kernel⟩
def t_core_of (P : Program) (w : World) (K : PySem.W.Frag) (sp_fold_of : Sp) (sp_led_atoms : Sp) (sp_part_of : Sp) (sp_unlike_ones : Sp)  : TS :=
  (tSeq (tAsg (tCall sp_fold_of [] E0 (tCons (tVar 0) tNil)) (gName 1)) (tSeq (tWhile (tB (tNotN (tVar 1))) (tSeq (tAsg (tCall sp_led_atoms [] E0 (tCons (tVar 0) (tCons (tVar 1) tNil))) (gName 2)) (tSeq (tAsg (tCall sp_part_of [] E0 (tCons (tVar 0) (tCons (tLc (iEnumU K (tCons (tOp (rIx K) (tVar 0) (tC (.int 2))) tNil)) (gTup K 2 (gCons (gName 3) (gCons (gName 4) gNil))) (tTest (tOp (uIn K) (tVar 4) (tVar 2))) (tVar 3) [3, 4]) tNil))) (gName 0)) (tAsg (tCall sp_fold_of [] E0 (tCons (tVar 0) tNil)) (gName 1))))) (tRet (tTup (tCons (tOp (rIx K) (tVar 0) (tC (.int 0))) (tCons (tOp (rIx K) (tVar 0) (tC (.int 1))) (tCons (tCB (rTupU K) (tCons (tCall sp_unlike_ones [] E0 (tCons (tOp (rIx K) (tVar 0) (tC (.int 2))) tNil)) tNil)) tNil)))))))
/-! ### is_core -/
abbrev s_is_core : Stmt := top 56
abbrev N_is_core : List Str := ["question"]
theorem sc_is_core : FnScope N_is_core ["question"] (defScope s_is_core) := ⟨rfl, rfl, rfl, by decide +kernel, rfl, by decide +kernel, by decide +kernel⟩
def t_is_core (P : Program) (w : World) (K : PySem.W.Frag) (sp_fold_of : Sp) (sp_unlike_ones : Sp) (sp_want_question : Sp)  : TS :=
  (tSeq (tDrop (tCall sp_want_question [] E0 (tCons (tVar 0) tNil))) (tRet (tAndV (tIsN (tCall sp_fold_of [] E0 (tCons (tVar 0) tNil))) (tOp (uEq K) (tCB (rLenU K) (tCons (tCall sp_unlike_ones [] E0 (tCons (tOp (rIx K) (tVar 0) (tC (.int 2))) tNil)) tNil)) (tCB (rLenU K) (tCons (tOp (rIx K) (tVar 0) (tC (.int 2))) tNil))))))
/-! ### core -/
abbrev s_core : Stmt := top 57
abbrev N_core : List Str := ["question"]
theorem sc_core : FnScope N_core ["question"] (defScope s_core) := ⟨rfl, rfl, rfl, by decide +kernel, rfl, by decide +kernel, by decide +kernel⟩
def t_core (P : Program) (w : World) (K : PySem.W.Frag) (sp_core_of : Sp) (sp_want_question : Sp)  : TS :=
  (tRet (tCall sp_core_of [] E0 (tCons (tCall sp_want_question [] E0 (tCons (tVar 0) tNil)) tNil)))
/-! ### term_key -/
abbrev s_term_key : Stmt := top 60
abbrev N_term_key : List Str := ["term"]
theorem sc_term_key : FnScope N_term_key ["term"] (defScope s_term_key) := ⟨rfl, rfl, rfl, by decide +kernel, rfl, by decide +kernel, by decide +kernel⟩
def t_term_key (P : Program) (w : World) (K : PySem.W.Frag) (sp_is_name : Sp)  : TS :=
  (tRet (tIf (tB (tCall sp_is_name [] E0 (tCons (tVar 0) tNil))) (tTup (tCons (tC (.int 2)) (tCons (tC (.int 0)) (tCons (tVar 0) tNil)))) tNeverE))
/-! ### atom_key -/
abbrev s_atom_key : Stmt := top 61
abbrev N_atom_key : List Str := ["atom", "term"]
theorem sc_atom_key : FnScope N_atom_key ["atom"] (defScope s_atom_key) := ⟨rfl, rfl, rfl, by decide +kernel, rfl, by decide +kernel, by decide +kernel⟩
def t_atom_key (P : Program) (w : World) (K : PySem.W.Frag) (sp_term_key : Sp)  : TS :=
  (tRet (tTup (tCons (tOp (rIx K) (tVar 0) (tC (.int 0))) (tCons (tLc (iTup K (tOp (rIx K) (tVar 0) (tC (.int 1)))) (gName 1) tYes (tCall sp_term_key [] E0 (tCons (tVar 1) tNil)) [1]) tNil))))
/-! ### question_key -/
abbrev s_question_key : Stmt := top 62
abbrev N_question_key : List Str := ["question", "term", "atom"]
theorem sc_question_key : FnScope N_question_key ["question"] (defScope s_question_key) := ⟨rfl, rfl, rfl, by decide +kernel, rfl, by decide +kernel, by decide +kernel⟩
def t_question_key (P : Program) (w : World) (K : PySem.W.Frag) (sp_atom_key : Sp) (sp_term_key : Sp)  : TS :=
  (tRet (tLst (tCons (tLc (iTup K (tOp (rIx K) (tVar 0) (tC (.int 1)))) (gName 1) tYes (tCall sp_term_key [] E0 (tCons (tVar 1) tNil)) [1]) (tCons (tLc (iTup K (tOp (rIx K) (tVar 0) (tC (.int 2)))) (gName 2) tYes (tCall sp_atom_key [] E0 (tCons (tVar 2) tNil)) [2]) tNil))))
/-! ### with_terms -/
abbrev s_with_terms : Stmt := top 63
abbrev N_with_terms : List Str := ["led", "terms", "found", "term"]
theorem sc_with_terms : FnScope N_with_terms ["led", "terms"] (defScope s_with_terms) := ⟨rfl, rfl, rfl, by decide +kernel, rfl, by decide +kernel, by decide +kernel⟩
def t_with_terms (P : Program) (w : World) (K : PySem.W.Frag) (sp_is_name : Sp)  : TS :=
  (tSeq (tAsg (tCB rDictD (tCons (tVar 0) tNil)) (gName 2)) (tSeq (tFor (iTup K (tVar 1)) (gName 3) (tIfS (tAnd (tB (tCall sp_is_name [] E0 (tCons (tVar 3) tNil))) (tB (tDNotIn (tVar 3) (tVar 2)))) (sDPut (tVar 2) (tVar 3) (tOp (rIx K) (tC (.str "abcdefghijklmnopqrstuvwxyz")) (tCB rLenD (tCons (tVar 2) tNil)))) tNext)) (tRet (tVar 2))))
/-! ### least_from -/
abbrev s_least_from : Stmt := top 64
abbrev N_least_from : List Str := ["told", "left", "led", "nexts", "atom", "first", "found", "more", "spelled", "rest", "late", "one"]
theorem sc_least_from : FnScope N_least_from ["told", "left", "led"] (defScope s_least_from) := ⟨rfl, rfl, rfl, by decide +kernel, rfl, by decide +kernel, by decide +kernel⟩
def t_least_from (P : Program) (w : World) (K : PySem.W.Frag) (sp_atom_key : Sp) (sp_least_from : Sp) (sp_led_terms : Sp) (sp_with_terms : Sp)  : TS :=
  (tSeq (tIfS (tTest (tOp (uEq K) (tVar 1) (tLst tNil))) (tRet (tVar 0)) tNext) (tSeq (tAsg (tLst tNil) (gName 3)) (tSeq (tFor (iList K (tVar 1)) (gName 4) (tSeq (tAsg (tCall sp_with_terms [] E0 (tCons (tVar 2) (tCons (tOp (rIx K) (tVar 4) (tC (.int 1))) tNil))) (gName 7)) (tDrop (tBM K "list" rAppend (tVar 3) (tCons (tTup (tCons (tTup (tCons (tOp (rIx K) (tVar 4) (tC (.int 0))) (tCons (tCall sp_led_terms [] E0 (tCons (tOp (rIx K) (tVar 4) (tC (.int 1))) (tCons (tVar 7) tNil))) tNil))) (tCons (tVar 4) (tCons (tVar 7) tNil)))) tNil))))) (tSeq (tAsg (tCB (rMinD K) (tCons (tLc (iList K (tVar 3)) (gTup K 3 (gCons (gName 8) (gCons (gName 4) (gCons (gName 7) gNil)))) tYes (tCall sp_atom_key [] E0 (tCons (tVar 8) tNil)) [8, 4, 7]) tNil)) (gName 5)) (tSeq (tAsg (tC .non) (gName 6)) (tSeq (tFor (iList K (tVar 3)) (gTup K 3 (gCons (gName 8) (gCons (gName 4) (gCons (gName 7) gNil)))) (tIfS (tTest (tOp (uEq K) (tCall sp_atom_key [] E0 (tCons (tVar 8) tNil)) (tVar 5))) (tSeq (tAsg (tCB (rListU K) (tCons (tVar 1) tNil)) (gName 9)) (tSeq (tDrop (tBM K "list" (rRemoveD K) (tVar 9) (tCons (tVar 4) tNil))) (tSeq (tAsg (tCall sp_least_from [] E0 (tCons (tOp (rCatU K) (tVar 0) (tLst (tCons (tVar 8) tNil))) (tCons (tVar 9) (tCons (tVar 7) tNil)))) (gName 10)) (tIfS (tOr (tB (tIsN (tVar 6))) (tTest (tOp (uLt K) (tLc (iList K (tVar 10)) (gName 11) tYes (tCall sp_atom_key [] E0 (tCons (tVar 11) tNil)) [11]) (tLc (iList K (tVar 6)) (gName 11) tYes (tCall sp_atom_key [] E0 (tCons (tVar 11) tNil)) [11])))) (tAsg (tVar 10) (gName 6)) tNext)))) tNext)) (tRet (tVar 6))))))))
/-! ### form_in -/
abbrev s_form_in : Stmt := top 65
abbrev N_form_in : List Str := ["question", "led"]
theorem sc_form_in : FnScope N_form_in ["question"] (defScope s_form_in) := ⟨rfl, rfl, rfl, by decide +kernel, rfl, by decide +kernel, by decide +kernel⟩
def t_form_in (P : Program) (w : World) (K : PySem.W.Frag) (sp_least_from : Sp) (sp_led_terms : Sp) (sp_with_terms : Sp)  : TS :=
  (tSeq (tAsg (tCall sp_with_terms [] E0 (tCons tDNewK (tCons (tOp (rIx K) (tVar 0) (tC (.int 1))) tNil))) (gName 1)) (tRet (tTup (tCons (tC (.str "ask")) (tCons (tCall sp_led_terms [] E0 (tCons (tOp (rIx K) (tVar 0) (tC (.int 1))) (tCons (tVar 1) tNil))) (tCons (tCB (rTupU K) (tCons (tCall sp_least_from [] E0 (tCons (tLst tNil) (tCons (tCB (rListU K) (tCons (tOp (rIx K) (tVar 0) (tC (.int 2))) tNil)) (tCons (tVar 1) tNil)))) tNil)) tNil))))))
/-! ### least_of -/
abbrev s_least_of : Stmt := top 67
abbrev N_least_of : List Str := ["union", "found", "member", "told", "other"]
theorem sc_least_of : FnScope N_least_of ["union"] (defScope s_least_of) := ⟨rfl, rfl, rfl, by decide +kernel, rfl, by decide +kernel, by decide +kernel⟩
def t_least_of (P : Program) (w : World) (K : PySem.W.Frag) (sp_core_of : Sp) (sp_form_in : Sp) (sp_members_of : Sp) (sp_question_key : Sp)  : TS :=
  (tSeq (tAsg (tLst tNil) (gName 1)) (tSeq (tFor (iTup K (tCall sp_members_of [] E0 (tCons (tVar 0) tNil))) (gName 2) (tIfS (tNot (tB (tCB (rAny K) (tCons (tLc (iList K (tVar 1)) (gName 4) tYes tNeverE [4]) tNil)))) (tAsg (tOp (rCatU K) (tLc (iList K (tVar 1)) (gName 4) tNeverT (tVar 4) [4]) (tLst (tCons (tVar 2) tNil))) (gName 1)) tNext)) (tSeq (tAsg (tLc (iList K (tVar 1)) (gName 2) tYes (tCall sp_form_in [] E0 (tCons (tCall sp_core_of [] E0 (tCons (tVar 2) tNil)) tNil)) [2]) (gName 3)) (tRet (tTup (tCons (tC (.str "any")) (tCons (tCB (rTupU K) (tCons (tSortedKeyA K sp_question_key (tVar 3)) tNil)) tNil)))))))
/-! ### form_of -/
abbrev s_form_of : Stmt := top 68
abbrev N_form_of : List Str := ["question"]
theorem sc_form_of : FnScope N_form_of ["question"] (defScope s_form_of) := ⟨rfl, rfl, rfl, by decide +kernel, rfl, by decide +kernel, by decide +kernel⟩
def t_form_of (P : Program) (w : World) (K : PySem.W.Frag) (sp_form_in : Sp) (sp_want_question : Sp)  : TS :=
  (tRet (tCall sp_form_in [] E0 (tCons (tCall sp_want_question [] E0 (tCons (tVar 0) tNil)) tNil)))
/-! ### least_union -/
abbrev s_least_union : Stmt := top 69
abbrev N_least_union : List Str := ["union"]
theorem sc_least_union : FnScope N_least_union ["union"] (defScope s_least_union) := ⟨rfl, rfl, rfl, by decide +kernel, rfl, by decide +kernel, by decide +kernel⟩
def t_least_union (P : Program) (w : World) (K : PySem.W.Frag) (sp_least_of : Sp) (sp_want_union : Sp)  : TS :=
  (tRet (tCall sp_least_of [] E0 (tCons (tCall sp_want_union [] E0 (tCons (tVar 0) tNil)) tNil)))
/-! ### are_held_alike -/
abbrev s_are_held_alike : Stmt := top 70
abbrev N_are_held_alike : List Str := ["union", "other_union"]
theorem sc_are_held_alike : FnScope N_are_held_alike ["union", "other_union"] (defScope s_are_held_alike) := ⟨rfl, rfl, rfl, by decide +kernel, rfl, by decide +kernel, by decide +kernel⟩
def t_are_held_alike (P : Program) (w : World) (K : PySem.W.Frag) (sp_least_of : Sp) (sp_want_two : Sp)  : TS :=
  (tSeq (tDrop (tCall sp_want_two [] E0 (tCons (tVar 0) (tCons (tVar 1) tNil)))) (tRet (tOp (uEq K) (tCall sp_least_of [] E0 (tCons (tVar 0) tNil)) (tCall sp_least_of [] E0 (tCons (tVar 1) tNil)))))
/-! ### is_kind -/
abbrev s_is_kind : Stmt := top 73
abbrev N_is_kind : List Str := ["value"]
theorem sc_is_kind : FnScope N_is_kind ["value"] (defScope s_is_kind) := ⟨rfl, rfl, rfl, by decide +kernel, rfl, by decide +kernel, by decide +kernel⟩
def t_is_kind (P : Program) (w : World) (K : PySem.W.Frag)  (a_KINDS : Addr) : TS :=
  (tRet (tAndV (tCB (rIsi K) (tCons (tVar 0) (tCons (tC (.ty "str")) tNil))) (tOp (uIn K) (tVar 0) (tC (.ref a_KINDS)))))
/-! ### want_kind -/
abbrev s_want_kind : Stmt := top 74
abbrev N_want_kind : List Str := ["value"]
theorem sc_want_kind : FnScope N_want_kind ["value"] (defScope s_want_kind) := ⟨rfl, rfl, rfl, by decide +kernel, rfl, by decide +kernel, by decide +kernel⟩
def t_want_kind (P : Program) (w : World) (K : PySem.W.Frag) (sp_is_kind : Sp)  : TS :=
  (tSeq (tIfS (tNot (tB (tCall sp_is_kind [] E0 (tCons (tVar 0) tNil)))) tNever tNext) (tRet (tVar 0)))
/-! ### covering -/
abbrev s_covering : Stmt := top 78
abbrev N_covering : List Str := ["question", "other", "goal", "found", "goals", "led"]
theorem sc_covering : FnScope N_covering ["question", "other"] (defScope s_covering) := ⟨rfl, rfl, rfl, by decide +kernel, rfl, by decide +kernel, by decide +kernel⟩
def t_covering (P : Program) (w : World) (K : PySem.W.Frag) (sp_map_using : Sp) (sp_told_map : Sp) (sp_unlike_ones : Sp)  : TS :=
  (tSeq (tPar 3 4 (tCons (tLst tNil) (tCons (tCall sp_unlike_ones [] E0 (tCons (tOp (rIx K) (tVar 1) (tC (.int 2))) tNil)) tNil))) (tSeq (tFor (iList K (tVar 4)) (gName 2) (tSeq (tAsg (tCall sp_map_using [] E0 (tCons (tVar 0) (tCons (tVar 4) (tCons (tOp (rIx K) (tVar 1) (tC (.int 1))) (tCons (tVar 2) tNil))))) (gName 5)) (tSeq (tIfS (tB (tIsN (tVar 5))) (tRet (tC .non)) tNext) (tDrop (tBM K "list" rAppend (tVar 3) (tCons (tCall sp_told_map [] E0 (tCons (tVar 5) tNil)) tNil)))))) (tRet (tCB (rTupU K) (tCons (tCall sp_unlike_ones [] E0 (tCons (tVar 3) tNil)) tNil)))))
/-! ### paper_of -/
abbrev s_paper_of : Stmt := top 79
abbrev N_paper_of : List Str := ["kind", "question", "position", "lesser", "led", "there", "back", "at"]
theorem sc_paper_of : FnScope N_paper_of ["kind", "question", "position"] (defScope s_paper_of) := ⟨rfl, rfl, rfl, by decide +kernel, rfl, by decide +kernel, by decide +kernel⟩
def t_paper_of (P : Program) (w : World) (K : PySem.W.Frag) (sp_covering : Sp) (sp_map_into : Sp) (sp_part_of : Sp) (sp_told_map : Sp) (a_LATTICES : Addr) : TS :=
  (tSeq (tAsg (tCall sp_part_of [] E0 (tCons (tVar 1) (tCons (tLc (iRng1 (tCons (tCB (rLenU K) (tCons (tOp (rIx K) (tVar 1) (tC (.int 2))) tNil)) tNil)) (gName 7) (tTest (tOp (uNe K) (tVar 7) (tVar 2))) (tVar 7) [7]) tNil))) (gName 3)) (tSeq (tIfS (tTest (tOp (uIn K) (tVar 0) (tC (.ref a_LATTICES)))) (tSeq (tAsg (tCall sp_map_into [] E0 (tCons (tVar 1) (tCons (tCB (rListU K) (tCons (tOp (rIx K) (tVar 3) (tC (.int 2))) tNil)) (tCons (tOp (rIx K) (tVar 3) (tC (.int 1))) tNil)))) (gName 4)) (tRet (tIf (tB (tIsN (tVar 4))) (tC .non) (tTup (tCons (tCall sp_told_map [] E0 (tCons (tVar 4) tNil)) tNil))))) tNext) (tSeq (tIfS (tTest (tOp (uNe K) (tVar 0) (tC (.str "helped")))) (tRet (tC .non)) tNext) (tSeq (tPar 5 6 (tCons (tCall sp_covering [] E0 (tCons (tVar 3) (tCons (tVar 1) tNil))) (tCons (tCall sp_covering [] E0 (tCons (tVar 1) (tCons (tVar 3) tNil))) tNil))) (tRet (tIf (tOr (tB (tIsN (tVar 5))) (tB (tIsN (tVar 6)))) (tC .non) (tTup (tCons (tVar 5) (tCons (tVar 6) tNil)))))))))
/-! ### want_going -/
abbrev s_want_going : Stmt := top 80
abbrev N_want_going : List Str := ["kind", "question", "position", "many", "at"]
theorem sc_want_going : FnScope N_want_going ["kind", "question", "position"] (defScope s_want_going) := ⟨rfl, rfl, rfl, by decide +kernel, rfl, by decide +kernel, by decide +kernel⟩
def t_want_going (P : Program) (w : World) (K : PySem.W.Frag) (sp_is_integer : Sp) (sp_part_of : Sp) (sp_want_kind : Sp) (sp_want_question : Sp)  : TS :=
  (tSeq (tDrop (tCall sp_want_kind [] E0 (tCons (tVar 0) tNil))) (tSeq (tAsg (tCB (rLenU K) (tCons (tOp (rIx K) (tCall sp_want_question [] E0 (tCons (tVar 1) tNil)) (tC (.int 2))) tNil)) (gName 3)) (tSeq (tIfS (tOr (tNot (tB (tCall sp_is_integer [] E0 (tCons (tVar 2) tNil)))) (tNot (tTest (tChain (rI0 fun i j => .bl (decide (i ≤ j))) (rI0 fun i j => .bl (decide (i < j))) (tC (.int 0)) (tVar 2) (tVar 3))))) tNever tNext) (tIfS (tB (tIsN (tCall sp_part_of [] E0 (tCons (tVar 1) (tCons (tLc (iRng1 (tCons (tVar 3) tNil)) (gName 4) (tTest (tOp (uNe K) (tVar 4) (tVar 2))) (tVar 4) [4]) tNil))))) tNever tNext))))
/-! ### going_paper -/
abbrev s_going_paper : Stmt := top 81
abbrev N_going_paper : List Str := ["kind", "question", "position"]
theorem sc_going_paper : FnScope N_going_paper ["kind", "question", "position"] (defScope s_going_paper) := ⟨rfl, rfl, rfl, by decide +kernel, rfl, by decide +kernel, by decide +kernel⟩
def t_going_paper (P : Program) (w : World) (K : PySem.W.Frag) (sp_paper_of : Sp) (sp_want_going : Sp)  : TS :=
  (tSeq (tDrop (tCall sp_want_going [] E0 (tCons (tVar 0) (tCons (tVar 1) (tCons (tVar 2) tNil))))) (tRet (tCall sp_paper_of [] E0 (tCons (tVar 0) (tCons (tVar 1) (tCons (tVar 2) tNil))))))
/-! ### can_go -/
abbrev s_can_go : Stmt := top 82
abbrev N_can_go : List Str := ["kind", "question", "position"]
theorem sc_can_go : FnScope N_can_go ["kind", "question", "position"] (defScope s_can_go) := ⟨rfl, rfl, rfl, by decide +kernel, rfl, by decide +kernel, by decide +kernel⟩
def t_can_go (P : Program) (w : World) (K : PySem.W.Frag) (sp_going_paper : Sp)  : TS :=
  (tRet (tNotN (tCall sp_going_paper [] E0 (tCons (tVar 0) (tCons (tVar 1) (tCons (tVar 2) tNil))))))
/-! ### least_helped -/
abbrev s_least_helped : Stmt := top 83
abbrev N_least_helped : List Str := ["question", "at", "lesser", "place"]
theorem sc_least_helped : FnScope N_least_helped ["question"] (defScope s_least_helped) := ⟨rfl, rfl, rfl, by decide +kernel, rfl, by decide +kernel, by decide +kernel⟩
def t_least_helped (P : Program) (w : World) (K : PySem.W.Frag) (sp_paper_of : Sp) (sp_part_of : Sp) (sp_want_question : Sp)  : TS :=
  (tSeq (tDrop (tCall sp_want_question [] E0 (tCons (tVar 0) tNil))) (tSeq (tAsg (tC (.int 0)) (gName 1)) (tSeq (tWhile (tTest (tOp (rI0 fun i j => .bl (decide (i < j))) (tVar 1) (tCB (rLenU K) (tCons (tOp (rIx K) (tVar 0) (tC (.int 2))) tNil)))) (tSeq (tAsg (tCall sp_part_of [] E0 (tCons (tVar 0) (tCons (tLc (iRng1 (tCons (tCB (rLenU K) (tCons (tOp (rIx K) (tVar 0) (tC (.int 2))) tNil)) tNil)) (gName 3) (tTest (tOp (uNe K) (tVar 3) (tVar 1))) (tVar 3) [3]) tNil))) (gName 2)) (tIfS (tAnd (tB (tNotN (tVar 2))) (tB (tNotN (tCall sp_paper_of [] E0 (tCons (tC (.str "helped")) (tCons (tVar 0) (tCons (tVar 1) tNil))))))) (tAsg (tTup (tCons (tVar 2) (tCons (tC (.int 0)) tNil))) (gTup K 2 (gCons (gName 0) (gCons (gName 1) gNil)))) (tAug 1 (tC (.int 1)) (ipI fun i j => i + j))))) (tRet (tVar 0)))))
/-! ### _law_pot -/
abbrev s__law_pot : Stmt := top 85
abbrev N__law_pot : List Str := ["script", "k", "cell"]
theorem sc__law_pot : FnScope N__law_pot ["script", "k"] (defScope s__law_pot) := ⟨rfl, rfl, rfl, by decide +kernel, rfl, by decide +kernel, by decide +kernel⟩
def t__law_pot (P : Program) (w : World) (K : PySem.W.Frag)   : TS :=
  (tSeq (tAsg (tIf (tTest (tOp (rI0 fun i j => .bl (decide (i < j))) (tVar 1) (tCB (rLenU K) (tCons (tVar 0) tNil)))) (tCB rAbs (tCons (tOp (rIx K) (tVar 0) (tVar 1)) tNil)) (tOp (rI0 fun i j => .int (i + j)) (tOp (rI CMul fun i j => .int (i * j)) (tC (.int 14009)) (tVar 1)) (tC (.int 14813)))) (gName 2)) (tRet (tLst (tCons (tCB rMax2 (tCons (tC (.int 0)) (tCons (tOp (rI0 fun i j => .int (i - j)) (tVar 2) (tOp (rI CPow fun i j => .int (i ^ j.toNat)) (tC (.int 10)) (tC (.int 18)))) tNil))) (tCons (tOp (rI0 fun i j => .int (i + j)) (tOp (rI (fun _ j => 0 < j) fun i j => .int (i % j)) (tCB rInt1 (tCons (tOp (rI0 fun i j => .int (i + j)) (tOp (rI0 fun i j => .int (i + j)) (tOp (rI CMul fun i j => .int (i * j)) (tOp (rI (fun _ j => 0 < j) fun i j => .int (i % j)) (tCB rInt1 (tCons (tVar 2) tNil)) (tC (.int 2147483549))) (tC (.int 13513))) (tOp (rI CMul fun i j => .int (i * j)) (tC (.int 13903)) (tVar 1))) (tC (.int 907))) tNil)) (tC (.int 2147483563))) (tC (.int 1))) tNil)))))
/-! ### _law_draw -/
abbrev s__law_draw : Stmt := top 86
abbrev N__law_draw : List Str := ["pot", "size", "digit"]
theorem sc__law_draw : FnScope N__law_draw ["pot", "size"] (defScope s__law_draw) := ⟨rfl, rfl, rfl, by decide +kernel, rfl, by decide +kernel, by decide +kernel⟩
def t__law_draw (P : Program) (w : World) (K : PySem.W.Frag)   : TS :=
  (tSeq (tIfS (tTest (tOp (rI0 fun i j => .bl (decide (j < i))) (tOp (rIx K) (tVar 0) (tC (.int 0))) (tC (.int 0)))) (tSeq (tAsg (tCB rDivmod (tCons (tOp (rIx K) (tVar 0) (tC (.int 0))) (tCons (tVar 1) tNil))) (gTup K 2 (gCons (gSub (tVar 0) (tC (.int 0)) rSetL) (gCons (gName 2) gNil)))) (tRet (tVar 2))) tNext) (tSeq (tAsg (tOp (rI (fun _ j => 0 < j) fun i j => .int (i % j)) (tCB rInt1 (tCons (tOp (rI0 fun i j => .int (i + j)) (tOp (rI CMul fun i j => .int (i * j)) (tOp (rIx K) (tVar 0) (tC (.int 1))) (tC (.int 40692))) (tC (.int 13903))) tNil)) (tC (.int 2147483399))) (gSub (tVar 0) (tC (.int 1)) rSetL)) (tRet (tOp (rI (fun _ j => 0 < j) fun i j => .int (i % j)) (tCB rInt1 (tCons (tOp (rI CDiv fun i j => .int (i / j)) (tOp (rI (fun _ j => 0 < j) fun i j => .int (i % j)) (tCB rInt1 (tCons (tOp (rI CMul fun i j => .int (i * j)) (tOp (rIx K) (tVar 0) (tC (.int 1))) (tOp (rIx K) (tVar 0) (tC (.int 1)))) tNil)) (tC (.int 2147483323))) (tC (.int 19))) tNil)) (tVar 1)))))
/-! ### _law_mixed -/
abbrev s__law_mixed : Stmt := top 87
abbrev N__law_mixed : List Str := ["pot", "head", "atoms", "turn", "left", "found"]
theorem sc__law_mixed : FnScope N__law_mixed ["pot", "head", "atoms"] (defScope s__law_mixed) := ⟨rfl, rfl, rfl, by decide +kernel, rfl, by decide +kernel, by decide +kernel⟩
def t__law_mixed (P : Program) (w : World) (K : PySem.W.Frag) (sp__law_draw : Sp)  : TS :=
  (tSeq (tPar 4 5 (tCons (tCB (rListU K) (tCons (tVar 2) tNil)) (tCons (tLst tNil) tNil))) (tSeq (tFor (iRng1 (tCons (tCB (rLenU K) (tCons (tVar 2) tNil)) tNil)) (gName 3) (tDrop (tBM K "list" rAppend (tVar 5) (tCons (tBM K "list" rPopAt (tVar 4) (tCons (tCall sp__law_draw [] E0 (tCons (tVar 0) (tCons (tCB (rLenU K) (tCons (tVar 4) tNil)) tNil))) tNil)) tNil)))) (tRet (tTup (tCons (tC (.str "ask")) (tCons (tVar 1) (tCons (tCB (rTupU K) (tCons (tVar 5) tNil)) tNil)))))))
/-! ### _law_names -/
abbrev s__law_names : Stmt := top 88
abbrev N__law_names : List Str := ["pot", "many", "turn", "left", "found"]
theorem sc__law_names : FnScope N__law_names ["pot", "many"] (defScope s__law_names) := ⟨rfl, rfl, rfl, by decide +kernel, rfl, by decide +kernel, by decide +kernel⟩
def t__law_names (P : Program) (w : World) (K : PySem.W.Frag) (sp__law_draw : Sp)  : TS :=
  (tSeq (tPar 3 4 (tCons (tLst (tCons (tC (.str "a")) (tCons (tC (.str "b")) (tCons (tC (.str "c")) (tCons (tC (.str "d")) (tCons (tC (.str "e")) (tCons (tC (.str "f")) (tCons (tC (.str "g")) (tCons (tC (.str "xx")) tNil))))))))) (tCons (tLst tNil) tNil))) (tSeq (tFor (iRng1 (tCons (tVar 1) tNil)) (gName 2) (tDrop (tBM K "list" rAppend (tVar 4) (tCons (tBM K "list" rPopAt (tVar 3) (tCons (tCall sp__law_draw [] E0 (tCons (tVar 0) (tCons (tCB (rLenU K) (tCons (tVar 3) tNil)) tNil))) tNil)) tNil)))) (tRet (tVar 4))))
/-! ### _law_star_right -/
abbrev s__law_star_right : Stmt := top 89
abbrev N__law_star_right : List Str := ["pot", "many", "names", "star", "single", "name", "kind", "at"]
theorem sc__law_star_right : FnScope N__law_star_right ["pot"] (defScope s__law_star_right) := ⟨rfl, rfl, rfl, by decide +kernel, rfl, by decide +kernel, by decide +kernel⟩
def t__law_star_right (P : Program) (w : World) (K : PySem.W.Frag) (sp__law_draw : Sp) (sp__law_mixed : Sp) (sp__law_names : Sp) (sp_are_held_alike : Sp) (sp_can_go : Sp) (sp_core : Sp) (sp_form_of : Sp) (sp_is_core : Sp) (sp_least_helped : Sp) (sp_least_union : Sp)  : TS :=
  (tSeq (tAsg (tOp (rI0 fun i j => .int (i + j)) (tC (.int 1)) (tCall sp__law_draw [] E0 (tCons (tVar 0) (tCons (tC (.int 6)) tNil)))) (gName 1)) (tSeq (tAsg (tCall sp__law_names [] E0 (tCons (tVar 0) (tCons (tOp (rI0 fun i j => .int (i + j)) (tVar 1) (tC (.int 1))) tNil))) (gName 2)) (tSeq (tAsg (tCall sp__law_mixed [] E0 (tCons (tVar 0) (tCons (tTup (tCons (tOp (rIx K) (tVar 2) (tC (.int 0))) tNil)) (tCons (tLc (iList K (tSl (rSlL K) (tVar 2) (tPart (tC (.int 1))) tNoPart)) (gName 5) tYes (tTup (tCons (tC (.str "Road")) (tCons (tTup (tCons (tOp (rIx K) (tVar 2) (tC (.int 0))) (tCons (tVar 5) tNil))) tNil))) [5]) tNil)))) (gName 3)) (tSeq (tAsg (tTup (tCons (tC (.str "ask")) (tCons (tTup (tCons (tC (.str "a")) tNil)) (tCons (tTup (tCons (tTup (tCons (tC (.str "Road")) (tCons (tTup (tCons (tC (.str "a")) (tCons (tC (.str "b")) tNil))) tNil))) tNil)) tNil)))) (gName 4)) (tSeq (tIfS (tOr (tTest (tOp (uNe K) (tCall sp_form_of [] E0 (tCons (tCall sp_core [] E0 (tCons (tVar 3) tNil)) tNil)) (tVar 4))) (tOr (tTest (tOp (uNe K) (tCall sp_is_core [] E0 (tCons (tVar 3) tNil)) (tOp (uEq K) (tVar 1) (tC (.int 1))))) (tOr (tTest (tOp rNotB (tCall sp_are_held_alike [] E0 (tCons (tVar 3) (tCons (tVar 4) tNil))) (tC (.bl true)))) (tTest (tOp (uNe K) (tCall sp_least_union [] E0 (tCons (tVar 3) tNil)) (tTup (tCons (tC (.str "any")) (tCons (tTup (tCons (tVar 4) tNil)) tNil)))))))) (tRet (tC (.bl false))) tNext) (tSeq (tIfS (tTest (tOp (uNe K) (tCall sp_form_of [] E0 (tCons (tVar 3) tNil)) (tTup (tCons (tC (.str "ask")) (tCons (tTup (tCons (tC (.str "a")) tNil)) (tCons (tCB (rTupU K) (tCons (tLc (iRng1 (tCons (tVar 1) tNil)) (gName 7) tYes (tTup (tCons (tC (.str "Road")) (tCons (tTup (tCons (tC (.str "a")) (tCons (tOp (rIx K) (tC (.str "bcdefg")) (tVar 7)) tNil))) tNil))) [7]) tNil)) tNil)))))) (tRet (tC (.bl false))) tNext) (tSeq (tIfS (tTest (tOp (uNe K) (tCB (rLenU K) (tCons (tOp (rIx K) (tCall sp_least_helped [] E0 (tCons (tVar 3) tNil)) (tC (.int 2))) tNil)) (tC (.int 1)))) (tRet (tC (.bl false))) tNext) (tRet (tOrV (tOp (uEq K) (tVar 1) (tC (.int 1))) (tOp (uEq K) (tLc (iList K (tLst (tCons (tC (.str "held")) (tCons (tC (.str "helped")) (tCons (tC (.str "ways")) (tCons (tC (.str "price")) (tCons (tC (.str "count")) (tCons (tC (.str "all")) tNil)))))))) (gName 6) tYes (tCall sp_can_go [] E0 (tCons (tVar 6) (tCons (tVar 3) (tCons (tCall sp__law_draw [] E0 (tCons (tVar 0) (tCons (tVar 1) tNil))) tNil)))) [6]) (tLst (tCons (tC (.bl true)) (tCons (tC (.bl true)) (tCons (tC (.bl false)) (tCons (tC (.bl false)) (tCons (tC (.bl false)) (tCons (tC (.bl false)) tNil)))))))))))))))))
/-! ### _law_row_right -/
abbrev s__law_row_right : Stmt := top 90
abbrev N__law_row_right : List Str := ["pot", "many", "names", "steps", "back", "both", "pair", "row", "free", "at", "table", "terms"]
theorem sc__law_row_right : FnScope N__law_row_right ["pot"] (defScope s__law_row_right) := ⟨rfl, rfl, rfl, by decide +kernel, rfl, by decide +kernel, by decide +kernel⟩
def t__law_row_right (P : Program) (w : World) (K : PySem.W.Frag) (sp__law_draw : Sp) (sp__law_mixed : Sp) (sp__law_names : Sp) (sp_are_held_alike : Sp) (sp_core : Sp) (sp_form_of : Sp) (sp_is_core : Sp)  : TS :=
  (tSeq (tAsg (tOp (rI0 fun i j => .int (i + j)) (tC (.int 1)) (tCall sp__law_draw [] E0 (tCons (tVar 0) (tCons (tC (.int 6)) tNil)))) (gName 1)) (tSeq (tAsg (tCall sp__law_names [] E0 (tCons (tVar 0) (tCons (tOp (rI0 fun i j => .int (i + j)) (tVar 1) (tC (.int 1))) tNil))) (gName 2)) (tSeq (tAsg (tLc (iRng1 (tCons (tVar 1) tNil)) (gName 9) tYes (tTup (tCons (tC (.str "Road")) (tCons (tTup (tCons (tOp (rIx K) (tVar 2) (tVar 9)) (tCons (tOp (rIx K) (tVar 2) (tOp (rI0 fun i j => .int (i + j)) (tVar 9) (tC (.int 1)))) tNil))) tNil))) [9]) (gName 3)) (tSeq (tPar 7 8 (tCons (tCall sp__law_mixed [] E0 (tCons (tVar 0) (tCons (tTup (tCons (tOp (rIx K) (tVar 2) (tC (.int 0))) tNil)) (tCons (tVar 3) tNil)))) (tCons (tCall sp__law_mixed [] E0 (tCons (tVar 0) (tCons (tTup tNil) (tCons (tVar 3) tNil)))) tNil))) (tSeq (tIfS (tOr (tNot (tB (tCall sp_is_core [] E0 (tCons (tVar 7) tNil)))) (tOr (tNot (tB (tCall sp_is_core [] E0 (tCons (tVar 8) tNil)))) (tTest (tOp (uNe K) (tCall sp_form_of [] E0 (tCons (tVar 7) tNil)) (tTup (tCons (tC (.str "ask")) (tCons (tTup (tCons (tC (.str "a")) tNil)) (tCons (tCB (rTupU K) (tCons (tLc (iRng1 (tCons (tVar 1) tNil)) (gName 9) tYes (tTup (tCons (tC (.str "Road")) (tCons (tTup (tCons (tOp (rIx K) (tC (.str "abcdefg")) (tVar 9)) (tCons (tOp (rIx K) (tC (.str "abcdefg")) (tOp (rI0 fun i j => .int (i + j)) (tVar 9) (tC (.int 1)))) tNil))) tNil))) [9]) tNil)) tNil)))))))) (tRet (tC (.bl false))) tNext) (tSeq (tAsg (tLc (iList K (tVar 3)) (gTup K 2 (gCons (gName 10) (gCons (gName 11) gNil))) tYes (tTup (tCons (tVar 10) (tCons (tRevT K (tVar 11)) tNil))) [10, 11]) (gName 4)) (tSeq (tAsg (tIf (tTest (tOp (rI0 fun i j => .bl (decide (i ≤ j))) (tVar 1) (tC (.int 3)))) (tCall sp__law_mixed [] E0 (tCons (tVar 0) (tCons (tTup tNil) (tCons (tSl (rSlL K) (tOp (rCatU K) (tVar 3) (tVar 4)) tNoPart (tPart (tC (.int 6)))) tNil)))) (tC .non)) (gName 5)) (tSeq (tIfS (tB (tIsN (tVar 5))) (tRet (tC (.bl true))) tNext) (tSeq (tAsg (tTup (tCons (tC (.str "ask")) (tCons (tTup tNil) (tCons (tTup (tCons (tTup (tCons (tC (.str "Road")) (tCons (tTup (tCons (tC (.str "a")) (tCons (tC (.str "b")) tNil))) tNil))) (tCons (tTup (tCons (tC (.str "Road")) (tCons (tTup (tCons (tC (.str "b")) (tCons (tC (.str "a")) tNil))) tNil))) tNil))) tNil)))) (gName 6)) (tRet (tAndV (tOp (uEq K) (tCall sp_form_of [] E0 (tCons (tCall sp_core [] E0 (tCons (tVar 5) tNil)) tNil)) (tVar 6)) (tAndV (tOp (uEq K) (tCB (rLenU K) (tCons (tOp (rIx K) (tCall sp_core [] E0 (tCons (tVar 5) tNil)) (tC (.int 2))) tNil)) (tC (.int 2))) (tOp rIsB (tCall sp_are_held_alike [] E0 (tCons (tVar 5) (tCons (tVar 6) tNil))) (tC (.bl true)))))))))))))))
/-! ### _law_ring_right -/
abbrev s__law_ring_right : Stmt := top 91
abbrev N__law_ring_right : List Str := ["pot", "many", "names", "ring", "free", "own", "single", "at"]
theorem sc__law_ring_right : FnScope N__law_ring_right ["pot"] (defScope s__law_ring_right) := ⟨rfl, rfl, rfl, by decide +kernel, rfl, by decide +kernel, by decide +kernel⟩
def t__law_ring_right (P : Program) (w : World) (K : PySem.W.Frag) (sp__law_draw : Sp) (sp__law_mixed : Sp) (sp__law_names : Sp) (sp_are_held_alike : Sp) (sp_can_go : Sp) (sp_core : Sp) (sp_form_of : Sp) (sp_is_core : Sp)  : TS :=
  (tSeq (tAsg (tOp (rI0 fun i j => .int (i + j)) (tC (.int 2)) (tCall sp__law_draw [] E0 (tCons (tVar 0) (tCons (tC (.int 5)) tNil)))) (gName 1)) (tSeq (tAsg (tCall sp__law_names [] E0 (tCons (tVar 0) (tCons (tVar 1) tNil))) (gName 2)) (tSeq (tAsg (tLc (iRng1 (tCons (tVar 1) tNil)) (gName 7) tYes (tTup (tCons (tC (.str "Road")) (tCons (tTup (tCons (tOp (rIx K) (tVar 2) (tVar 7)) (tCons (tOp (rIx K) (tVar 2) (tIf (tTest (tOp (rI0 fun i j => .bl (decide (i < j))) (tOp (rI0 fun i j => .int (i + j)) (tVar 7) (tC (.int 1))) (tVar 1))) (tOp (rI0 fun i j => .int (i + j)) (tVar 7) (tC (.int 1))) (tC (.int 0)))) tNil))) tNil))) [7]) (gName 3)) (tSeq (tAsg (tCall sp__law_mixed [] E0 (tCons (tVar 0) (tCons (tTup tNil) (tCons (tVar 3) tNil)))) (gName 4)) (tSeq (tIfS (tOr (tNot (tB (tCall sp_is_core [] E0 (tCons (tVar 4) tNil)))) (tTest (tOp (uNe K) (tCall sp_core [] E0 (tCons (tVar 4) tNil)) (tVar 4)))) (tRet (tC (.bl false))) tNext) (tSeq (tAsg (tCall sp__law_mixed [] E0 (tCons (tVar 0) (tCons (tTup tNil) (tCons (tOp (rCatU K) (tSl (rSlL K) (tVar 3) tNoPart (tPart (tC (.int 5)))) (tLst (tCons (tTup (tCons (tC (.str "Road")) (tCons (tTup (tCons (tOp (rIx K) (tVar 2) (tC (.int 0))) (tCons (tOp (rIx K) (tVar 2) (tC (.int 0))) tNil))) tNil))) tNil))) tNil)))) (gName 5)) (tSeq (tAsg (tTup (tCons (tC (.str "ask")) (tCons (tTup tNil) (tCons (tTup (tCons (tTup (tCons (tC (.str "Road")) (tCons (tTup (tCons (tC (.str "a")) (tCons (tC (.str "a")) tNil))) tNil))) tNil)) tNil)))) (gName 6)) (tRet (tAndV (tOp (uEq K) (tCall sp_form_of [] E0 (tCons (tCall sp_core [] E0 (tCons (tVar 5) tNil)) tNil)) (tVar 6)) (tAndV (tOp rIsB (tCall sp_are_held_alike [] E0 (tCons (tVar 5) (tCons (tVar 6) tNil))) (tC (.bl true))) (tOp (uEq K) (tLc (iRng1 (tCons (tCB (rLenU K) (tCons (tOp (rIx K) (tVar 5) (tC (.int 2))) tNil)) tNil)) (gName 7) (tTest (tOp (uEq K) (tOp (rIx K) (tOp (rIx K) (tVar 5) (tC (.int 2))) (tVar 7)) (tTup (tCons (tC (.str "Road")) (tCons (tTup (tCons (tOp (rIx K) (tVar 2) (tC (.int 0))) (tCons (tOp (rIx K) (tVar 2) (tC (.int 0))) tNil))) tNil))))) (tCall sp_can_go [] E0 (tCons (tC (.str "held")) (tCons (tVar 5) (tCons (tVar 7) tNil)))) [7]) (tLst (tCons (tC (.bl false)) tNil)))))))))))))
/-! ### law -/
abbrev s_law : Stmt := top 92
abbrev N_law : List Str := ["script", "pot"]
theorem sc_law : FnScope N_law ["script"] (defScope s_law) := ⟨rfl, rfl, rfl, by decide +kernel, rfl, by decide +kernel, by decide +kernel⟩
def t_law (P : Program) (w : World) (K : PySem.W.Frag) (sp__law_pot : Sp) (sp__law_ring_right : Sp) (sp__law_row_right : Sp) (sp__law_star_right : Sp)  : TS :=
  (tSeq (tAsg (tCall sp__law_pot [] E0 (tCons (tVar 0) (tCons (tC (.int 0)) tNil))) (gName 1)) (tRet (tAndV (tCall sp__law_star_right [] E0 (tCons (tVar 1) tNil)) (tAndV (tCall sp__law_row_right [] E0 (tCons (tVar 1) tNil)) (tCall sp__law_ring_right [] E0 (tCons (tVar 1) tNil))))))
end K68


set_option Elab.async false
set_option linter.all false
set_option maxRecDepth 100000
set_option maxHeartbeats 4000000
/-! DL13: what evaluates to what, further: chains, dicts of texts, zips, enumerations, owned objects. -/
namespace DL
open PySem L2 PySem.Spec PyProof.Rows
section
variable {K : PySem.W.Frag} {σ : L2.St} {S S' H H' : Hp} {ta tb te tc : TE} {tt tu : TT} {P P' P1 P2 : Hp → V → Prop} {R R' : Hp → List V → Prop} {v w : V} {vs : List V} {d e : PyData} {ds : List PyData} {D : Ends} {tx ty tz : TS} {g : TG}
/-! inversions -/
theorem dps1 (h : DpAll K S vs [d]) : ∃ v, vs = [v] ∧ Dp K S v d := by
  cases h with
  | cons h1 h2 => cases h2; exact ⟨_, rfl, h1⟩
theorem dps2 (h : DpAll K S vs [d, e]) : ∃ v w, vs = [v, w] ∧ Dp K S v d ∧ Dp K S w e := by
  cases h with
  | cons h1 h2 => obtain ⟨w, rfl, h3⟩ := dps1 h2; exact ⟨_, w, rfl, h1, h3⟩
theorem dps3 {d3 : PyData} (h : DpAll K S vs [d, e, d3]) : ∃ v w x, vs = [v, w, x] ∧ Dp K S v d ∧ Dp K S w e ∧ Dp K S x d3 := by
  cases h with
  | cons h1 h2 => obtain ⟨w, x, rfl, h3, h4⟩ := dps2 h2; exact ⟨_, w, x, rfl, h1, h3, h4⟩
/-! chains of ints -/
theorem ev_chain {i j k : Int} (ha : Ev ta σ S (IsD K (.int i))) (hb : Ev tb σ S (IsD K (.int j))) (hc : Ev tc σ S (IsD K (.int k))) :
    Ev (tChain (rI0 fun i j => .bl (decide (i ≤ j))) (rI0 fun i j => .bl (decide (i ≤ j))) ta tb tc) σ S (IsD K (.bool (decide (i ≤ j) && decide (j ≤ k)))) := fun S1 H1 a b Q q =>
  ha S1 H1 a b _ fun x S2 H2 ok2 p2 => hb S2 H2 (a.trans ok2.ss) ok2.sh _ fun y S3 H3 ok3 p3 => by
    have e1 := p2.now; have e2 := p3.now
    cases e1; cases e2
    refine ⟨i, j, rfl, rfl, decide (i ≤ j), rfl, ?_⟩
    by_cases h : i ≤ j
    · rw [if_pos (decide_eq_true h)]
      refine hc S3 H3 ((a.trans ok2.ss).trans ok3.ss) ok3.sh _ fun z S4 H4 ok4 p4 => ?_
      have e3 := p4.now
      cases e3
      refine ⟨j, k, rfl, rfl, ?_⟩
      have := q (.bl (decide (j ≤ k))) S4 H4 ((ok2.trans ok3).trans ok4) (by rw [decide_eq_true h, Bool.true_and]; exact perD (.bl _))
      exact this
    · rw [if_neg (by rw [decide_eq_false h]; exact Bool.false_ne_true)]
      exact q _ S3 H3 (ok2.trans ok3) (by rw [decide_eq_false h, Bool.false_and]; exact perD (.bl _))
/-! dicts of texts -/
abbrev Led := List (Str × Str)
def IsLed (m : Led) : Hp → V → Prop := fun S v => ∃ a, v = V.ref a ∧ S a = some (.dK (kvT m))
theorem perLed {m : Led} (h : IsLed m S v) : Per (IsLed m) S v := fun S1 e => let ⟨a, q, r⟩ := h; ⟨a, q, e a _ r⟩
theorem ev_led0 : Ev tDNewK σ S (IsLed []) := fun S1 H1 a b Q q p hp => q (.ref p) _ _ ((Ok.refl b).new hp) (perLed ⟨p, rfl, upd_same⟩)
theorem valV_kvT (x : Str) : ∀ m : Led, valV (kvT m) (Sum.inr x) = (m.lookup x).map V.str
  | [] => rfl
  | p :: m => by
    by_cases h : p.1 = x
    · subst h
      have e1 : valV (kvT (p :: m)) (Sum.inr p.1) = some (V.str p.2) := valV_pos (p := ((Sum.inr p.1 : Key), V.str p.2)) rfl
      rw [e1]
      obtain ⟨a, b⟩ := p
      simp [List.lookup]
    · have e1 : valV (kvT (p :: m)) (Sum.inr x) = valV (kvT m) (Sum.inr x) := valV_neg (p := ((Sum.inr p.1 : Key), V.str p.2)) (fun z => h (by injection z))
      rw [e1, valV_kvT x m]
      obtain ⟨a, b⟩ := p
      have h' : (x == a) = false := by rw [beq_eq_false_iff_ne]; exact fun z => h z.symm
      simp [List.lookup, h']
theorem kvT_len (m : Led) : (kvT m).length = m.length := by unfold kvT; rw [List.length_map]
theorem put_new {m : Led} {x y : Str} (h : m.lookup x = none) : putK (kvT m) (Sum.inr x) (V.str y) = kvT (m ++ [(x, y)]) := by
  rw [putK_new _ (by rw [valV_kvT, h]; rfl)]
  unfold kvT
  rw [List.map_append]
  rfl
theorem ev_dget {m : Led} {x y : Str} (ha : Ev ta σ S (IsLed m)) (hb : Ev tb σ S (IsD K (.str x))) (hx : m.lookup x = some y) : Ev (tDGet ta tb) σ S (IsD K (.str y)) := fun S1 H1 a b Q q =>
  ha S1 H1 a b _ fun u S2 H2 ok2 p2 => hb S2 H2 (a.trans ok2.ss) ok2.sh _ fun z S3 H3 ok3 p3 => by
    obtain ⟨l, rfl, hl⟩ := p2 S3 ok3.ss
    have e := p3.now
    cases e
    refine ⟨l, V.str y, rfl, ?_, q _ S3 H3 (ok2.trans ok3) (perD (.str y))⟩
    have := DGet.k (k := Sum.inr x) (ok3.sh l _ hl)
    rw [valV_kvT, hx] at this
    exact this
theorem ev_din {m : Led} {x : Str} (hb : Ev tb σ S (IsD K (.str x))) (ha : Ev ta σ S (IsLed m)) : Ev (tDNotIn tb ta) σ S (IsD K (.bool (!(m.lookup x).isSome))) := fun S1 H1 a b Q q =>
  hb S1 H1 a b _ fun z S2 H2 ok2 p2 => ha S2 H2 (a.trans ok2.ss) ok2.sh _ fun u S3 H3 ok3 p3 => by
    obtain ⟨l, rfl, hl⟩ := p3.now
    have e := p2.now
    cases e
    refine ⟨l, _, rfl, DGet.k (k := Sum.inr x) (ok3.sh l _ hl), ?_⟩
    rw [valV_kvT, Option.isSome_map]
    exact q _ S3 H3 (ok2.trans ok3) (perD (.bl _))
theorem ev_lenLed {m : Led} {t : TA} (h : EvA t σ S (ConsP (IsLed m) NilP)) : Ev (tCB rLenD t) σ S (IsD K (.int m.length)) :=
  ev_cb h fun S1 H1 vs Q a b r q => by
    obtain ⟨v, r1, rfl, ⟨l, rfl, hl⟩, h2⟩ := r
    cases h2
    exact ⟨l, _, rfl, b l _ hl, by rw [kvT_len]; exact q _ (perD (.int _))⟩
/-! owned objects -/
/-- a fresh object o that we own -/
def EvF (te : TE) (σ : L2.St) (S : Hp) (o : HO) : Prop :=
  ∀ S1 H1, Ex S S1 → Ex S1 H1 → ∀ Q : VK, (∀ l S2 H2, Ok S1 H1 S2 H2 → H1 l = none → S2 l = none → H2 l = some o → Q (.ref l) H2) → te σ H1 Q
theorem ef_led0 : EvF tDNewK σ S (.dK (kvT [])) := fun S1 H1 a b Q q p hp => q p S1 _ ((Ok.refl b).newH hp) hp (none_of b hp) upd_same
theorem ef_copy {m : Led} {t : TA} (h : EvA t σ S (ConsP (IsLed m) NilP)) : EvF (tCB rDictD t) σ S (.dK (kvT m)) := fun S1 H1 a b Q q => h S1 H1 a b _ fun vs S2 H2 ok p => by
  obtain ⟨v, r1, rfl, ⟨l, rfl, hl⟩, h2⟩ := p.now
  cases h2
  exact ⟨l, _, rfl, .inl (ok.sh l _ hl), fun p hp => q p S2 _ (ok.newH hp) (none_of ok.hh hp) (none_of ok.sh hp) upd_same⟩
theorem q_setF {i : Nat} {o : HO} (e : Ex S H) (h : EvF te σ S o) (k : ∀ l S' H', Ok S H S' H' → H l = none → S' l = none → H' l = some o → tz D (σ.set i (some (.ref l))) H') : tSeq (tAsg te (gName i)) tz D σ H := h S H (Evl.Ex.refl S) e _ k
/-- an owned object is read -/
theorem own_ev {l : Addr} {o : HO} (e : Ex S H) (hS : S l = none) (hH : H l = some o) (h : Ev te σ (upd S l o) P) {Q : VK} (k : ∀ v S1 H1, Ok S H (rm S1 l) H1 → H1 l = some o → Per P S1 v → Q v H1) : te σ H Q :=
  h (upd S l o) H (Evl.Ex.refl _) (ex_freeze e hS hH) Q fun v S1 H1 ok p => k v S1 H1 (ok.read hS hH).1 (ok.read hS hH).2 p
theorem own_et {l : Addr} {o : HO} {b : Bool} (e : Ex S H) (hS : S l = none) (hH : H l = some o) (h : EvT tt σ (upd S l o) b) {Q : Bool → Hp → Prop} (k : ∀ S1 H1, Ok S H (rm S1 l) H1 → H1 l = some o → Q b H1) : tt σ H Q :=
  h (upd S l o) H (Evl.Ex.refl _) (ex_freeze e hS hH) Q fun S1 H1 ok => k S1 H1 (ok.read hS hH).1 (ok.read hS hH).2
theorem rm_none {l : Addr} : rm S l l = none := rm_same
/-- a plain fact survives the removal of what it does not lean on -/
theorem ex_rm {l : Addr} (hS : S l = none) (e : Ex S S') : Ex S (rm S' l) := fun a u q => by
  have : a ≠ l := fun z => by subst z; rw [hS] at q; cases q
  rw [rm_ne this]; exact e a u q
/-! statements on owned lists -/
theorem tyV_list {l : Addr} (h : H l = some (.lst vs)) : tyV K "list" (.ref l) H := .inl ⟨rfl, vs, SqL.of h⟩
theorem q_append {i : Nat} {l : Addr} (e : Ex S H) (hσ : σ[i]? = some (some (.ref l))) (hS : S l = none) (hH : H l = some (.lst vs)) (hl : vs.length < 100000) (h : Ev te σ S P)
    (k : ∀ v S' H', Ok S H S' H' → S' l = none → H' l = some (.lst vs) → Per P S' v → tz D σ (upd H' l (.lst (vs ++ [v])))) : tSeq (tDrop (tBM K "list" rAppend (tVar i) (tCons te tNil))) tz D σ H :=
  ⟨_, hσ, tyV_list hH, h S H (Evl.Ex.refl S) e _ fun v S' H' ok p => ⟨l, vs, v, rfl, rfl, ok.hh l _ hH, Evl.sz_lt hl, k v S' H' ok (ok.av l _ hS hH) (ok.hh l _ hH) p⟩⟩
theorem s_append {i : Nat} {l : Addr} (e : Ex S H) (hσ : σ[i]? = some (some (.ref l))) (hS : S l = none) (hH : H l = some (.lst vs)) (hl : vs.length < 100000) (h : Ev te σ S P)
    (k : ∀ v S' H', Ok S H S' H' → S' l = none → H' l = some (.lst vs) → Per P S' v → D.nx σ (upd H' l (.lst (vs ++ [v])))) : tDrop (tBM K "list" rAppend (tVar i) (tCons te tNil)) D σ H :=
  q_append (D := D) (tz := tNext) e hσ hS hH hl h k
theorem s_extend {i : Nat} {l : Addr} (e : Ex S H) (hσ : σ[i]? = some (some (.ref l))) (hS : S l = none) (hH : H l = some (.lst vs)) (hl : vs.length ≤ 100000) (h : EvL te σ S R)
    (k : ∀ ws S' H', Ok S H S' H' → S' l = none → H' l = some (.lst vs) → PerA R S' ws → D.nx σ (upd H' l (.lst (vs ++ ws)))) : tDrop (tBM K "list" rExtend (tVar i) (tCons te tNil)) D σ H :=
  ⟨_, hσ, tyV_list hH, h S H (Evl.Ex.refl S) e _ fun b S' H' ws ok h1 h2 h3 p hw => ⟨l, b, vs, ws, rfl, rfl, ok.hh l _ hH, h3, by rw [sizeLine_eq]; omega, k ws S' H' ok (ok.av l _ hS hH) (ok.hh l _ hH) p⟩⟩
/-! parallel stores -/
theorem q_par {i j : Nat} (e : Ex S H) (ha : Ev ta σ S P1) (hb : Ev tb σ S P2) (k : ∀ v w S' H', Ok S H S' H' → Per P1 S' v → Per P2 S' w → tz D ((σ.set i (some v)).set j (some w)) H') : tSeq (tPar i j (tCons ta (tCons tb tNil))) tz D σ H :=
  ha S H (Evl.Ex.refl S) e _ fun v S2 H2 ok2 p2 => hb S2 H2 ok2.ss ok2.sh _ fun w S3 H3 ok3 p3 => ⟨v, w, rfl, k v w S3 H3 (ok2.trans ok3) (p2.ex ok3.ss) p3⟩
/-! walks -/
theorem ei_inl {ι : Type} {wa wb : TI} {ys : List ι} {Z : ι → Hp → V → Prop} (h : EvI wa σ S ys Z) : EvI (iOr wa wb) σ S ys Z := fun S1 H1 a b Rr q => .inl (h S1 H1 a b Rr q)
theorem ei_inr {ι : Type} {wa wb : TI} {ys : List ι} {Z : ι → Hp → V → Prop} (h : EvI wb σ S ys Z) : EvI (iOr wa wb) σ S ys Z := fun S1 H1 a b Rr q => .inr (h S1 H1 a b Rr q)
theorem ei_zipT {es : List PyData} {t : TA} (h : EvA t σ S (AreD K [.tuple ds, .tuple es])) : EvI (RZ.iZipA K t) σ S (ds.zip es) (fun p => IsD K (.tuple [p.1, p.2])) := fun S1 H1 a b Rr q => h S1 H1 a b _ fun vs S2 H2 ok p => by
  obtain ⟨v, w, rfl, h1, h2⟩ := dps2 p.now
  obtain ⟨a1, xs, rfl, hs1, ha1⟩ := dp_tuple.mp h1
  obtain ⟨a2, ys, rfl, hs2, ha2⟩ := dp_tuple.mp h2
  have l1 := dps_len ha1
  have l2 := dps_len ha2
  refine ⟨a1, a2, xs, ys, rfl, .inr ⟨Evl.ex_t ok.sh hs1, Evl.ex_t ok.sh hs2, q _ S2 H2 ok ⟨fun i H hi e => ?_, fun i H hi e => ?_, fun i y S3 H x H' hy a b yl => ?_⟩⟩⟩
  · rw [List.length_zip] at hi
    exact ⟨xs, ys, Evl.ex_t e hs1, Evl.ex_t e hs2, by omega⟩
  · rw [List.length_zip] at hi
    exact ⟨xs, ys, _, _, Evl.ex_t e hs1, Evl.ex_t e hs2, List.getElem?_eq_getElem (by omega), List.getElem?_eq_getElem (by omega)⟩
  · obtain ⟨T, x1, y1, rfl, hT, rfl, f1, f2⟩ := yl
    have g1 := f1 xs (Evl.ex_t (a.trans b) hs1)
    have g2 := f2 ys (Evl.ex_t (a.trans b) hs2)
    obtain ⟨d1, e1, q1⟩ := dps_get ha1 g1
    obtain ⟨d2, e2, q2⟩ := dps_get ha2 g2
    have hyy : y = (d1, d2) := by
      have := List.getElem?_zip_eq_some (z := y) (i := i) (l₁ := ds) (l₂ := es) |>.mp hy
      obtain ⟨z1, z2⟩ := this
      rw [e1] at z1; rw [e2] at z2
      cases z1; cases z2; rfl
    subst hyy
    refine ⟨_, (Ok.refl b).new hT, perD (.tup (SqT.of upd_same) (.cons (dp_ex (a.trans (Evl.Ex.new (none_of b hT))) _ _ q1) (.cons (dp_ex (a.trans (Evl.Ex.new (none_of b hT))) _ _ q2) .nil)))⟩
theorem ei_enumT {t : TA} (h : EvA t σ S (AreD K [.tuple ds])) : EvI (iEnumU K t) σ S ds.zipIdx (fun p => IsD K (.tuple [.int (p.2 : Int), p.1])) := fun S1 H1 a b Rr q => h S1 H1 a b _ fun vs S2 H2 ok p => by
  obtain ⟨v, rfl, h1⟩ := dps1 p.now
  obtain ⟨a1, xs, rfl, hs1, ha1⟩ := dp_tuple.mp h1
  have l1 := dps_len ha1
  refine ⟨a1, xs, rfl, .inr ⟨Evl.ex_t ok.sh hs1, q _ S2 H2 ok ⟨fun i H hi e => ?_, fun i H hi e => ?_, fun i y S3 H x H' hy a b yl => ?_⟩⟩⟩
  · rw [List.length_zipIdx] at hi
    exact ⟨xs, Evl.ex_t e hs1, by omega⟩
  · rw [List.length_zipIdx] at hi
    exact ⟨xs, _, Evl.ex_t e hs1, List.getElem?_eq_getElem (by omega)⟩
  · obtain ⟨T, x1, rfl, hT, rfl, f1⟩ := yl
    have g1 := f1 xs (Evl.ex_t (a.trans b) hs1)
    obtain ⟨d1, e1, q1⟩ := dps_get ha1 g1
    have hyy : y = (d1, i) := by
      rw [List.getElem?_zipIdx, e1] at hy
      have := (Option.some.inj hy).symm
      simpa using this
    subst hyy
    refine ⟨_, (Ok.refl b).new hT, perD (.tup (SqT.of upd_same) (.cons (.int _) (.cons (dp_ex (a.trans (Evl.Ex.new (none_of b hT))) _ _ q1) .nil)))⟩
/-! targets -/
theorem eg2 {i j : Nat} {x : V} (h : Dp K S x (.tuple [d, e])) : ∃ v w, EvG (gTup K 2 (gCons (gName i) (gCons (gName j) gNil))) x σ S ((σ.set i (some v)).set j (some w)) ∧ Dp K S v d ∧ Dp K S w e := by
  obtain ⟨a, vs, rfl, hs, ha⟩ := dp_tuple.mp h
  obtain ⟨v, w, rfl, h1, h2⟩ := dps2 ha
  exact ⟨v, w, eg_tup hs rfl (egs_cons eg_name (egs_cons eg_name egs_nil)), h1, h2⟩
theorem eg12 {i j l : Nat} {x : V} {d1 d2 d3 : PyData} (h : Dp K S x (.tuple [d1, .tuple [d2, d3]])) : ∃ u v w, EvG (gTup K 2 (gCons (gName i) (gCons (gTup K 2 (gCons (gName j) (gCons (gName l) gNil))) gNil))) x σ S (((σ.set i (some u)).set j (some v)).set l (some w)) ∧ Dp K S u d1 ∧ Dp K S v d2 ∧ Dp K S w d3 := by
  obtain ⟨a, vs, rfl, hs, ha⟩ := dp_tuple.mp h
  obtain ⟨u, y, rfl, h1, h2⟩ := dps2 ha
  obtain ⟨v, w, g, h3, h4⟩ := eg2 (σ := σ.set i (some u)) (i := j) (j := l) h2
  exact ⟨u, v, w, eg_tup hs rfl (egs_cons eg_name (egs_cons g egs_nil)), h1, h3, h4⟩
theorem eg3 {i j l : Nat} {x : V} {d1 d2 d3 : PyData} (h : Dp K S x (.tuple [d1, d2, d3])) : ∃ u v w, EvG (gTup K 3 (gCons (gName i) (gCons (gName j) (gCons (gName l) gNil)))) x σ S (((σ.set i (some u)).set j (some v)).set l (some w)) ∧ Dp K S u d1 ∧ Dp K S v d2 ∧ Dp K S w d3 := by
  obtain ⟨a, vs, rfl, hs, ha⟩ := dp_tuple.mp h
  obtain ⟨u, v, w, rfl, h1, h2, h3⟩ := dps3 ha
  exact ⟨u, v, w, eg_tup hs rfl (egs_cons eg_name (egs_cons eg_name (egs_cons eg_name egs_nil))), h1, h2, h3⟩
/-! slices, concatenation, reversal -/
theorem cut_from1 (xs : List V) : cutV xs (some 1) none = xs.drop 1 := by
  unfold cutV
  have e : HT.sIx xs.length 0 (some 1) = min 1 xs.length := HT.sIx_nat xs.length 0 1
  rw [e, HT.sIx_none]
  cases xs with
  | nil => rfl
  | cons x r =>
    have e2 : min 1 (x :: r).length = 1 := by simp
    rw [e2, List.take_of_length_le]
    simp
theorem cut_to (xs : List V) (k : Nat) : cutV xs none (some (k : Int)) = xs.take k := by
  unfold cutV
  rw [HT.sIx_nat xs.length xs.length k, HT.sIx_none]
  rw [List.drop_zero, Nat.sub_zero, List.take_eq_take_iff]
  omega
theorem dps_drop : ∀ {vs : List V} {ds : List PyData} (n : Nat), DpAll K S vs ds → DpAll K S (vs.drop n) (ds.drop n)
  | _, _, 0, h => h
  | _, [], _ + 1, h => by cases h; exact .nil
  | _, _ :: _, n + 1, h => by
    cases h with
    | cons _ h2 => exact dps_drop n h2
theorem dps_take : ∀ {vs : List V} {ds : List PyData} (n : Nat), DpAll K S vs ds → DpAll K S (vs.take n) (ds.take n)
  | _, _, 0, h => by rw [List.take_zero, List.take_zero]; exact .nil
  | _, [], _ + 1, h => by cases h; exact .nil
  | _, _ :: _, n + 1, h => by
    cases h with
    | cons h1 h2 => exact .cons h1 (dps_take n h2)
theorem dps_append : ∀ {vs ws : List V} {ds es : List PyData}, DpAll K S vs ds → DpAll K S ws es → DpAll K S (vs ++ ws) (ds ++ es)
  | _, _, [], _, h, k => by cases h; exact k
  | _, _, _ :: _, _, h, k => by
    cases h with
    | cons h1 h2 => exact .cons h1 (dps_append h2 k)
theorem dps_erase : ∀ {vs : List V} {ds : List PyData} (n : Nat), DpAll K S vs ds → DpAll K S (vs.eraseIdx n) (ds.eraseIdx n)
  | _, [], _, h => by cases h; exact .nil
  | _, _ :: _, 0, h => by
    cases h with
    | cons _ h2 => exact h2
  | _, _ :: _, n + 1, h => by
    cases h with
    | cons h1 h2 => exact .cons h1 (dps_erase n h2)
theorem el_from1 (h : Ev te σ S (IsD K (.list ds))) (hl : ds.length ≤ 100000) : EvL (tSl (rSlL K) te (tPart (tC (.int 1))) tNoPart) σ S (AreD K (ds.drop 1)) := fun S1 H1 a b Q q => h S1 H1 a b _ fun v S2 H2 ok p => by
  obtain ⟨a1, xs, rfl, hs, ha⟩ := dp_list.mp p.now
  refine ⟨1, rfl, a1, xs, rfl, Evl.ex_l ok.sh hs, fun l hn => ?_⟩
  rw [cut_from1]
  exact q l S2 _ _ (ok.newH hn) (none_of ok.hh hn) (none_of ok.sh hn) upd_same (perDs (dps_drop 1 ha)) (by rw [List.length_drop, dps_len ha]; omega)
theorem el_to {k : Nat} (h : Ev te σ S (IsD K (.list ds))) (hl : ds.length ≤ 100000) : EvL (tSl (rSlL K) te tNoPart (tPart (tC (.int (k : Int))))) σ S (AreD K (ds.take k)) := fun S1 H1 a b Q q => h S1 H1 a b _ fun v S2 H2 ok p => by
  obtain ⟨a1, xs, rfl, hs, ha⟩ := dp_list.mp p.now
  refine ⟨(k : Int), rfl, a1, xs, rfl, Evl.ex_l ok.sh hs, fun l hn => ?_⟩
  rw [cut_to]
  exact q l S2 _ _ (ok.newH hn) (none_of ok.hh hn) (none_of ok.sh hn) upd_same (perDs (dps_take k ha)) (by rw [List.length_take, dps_len ha]; omega)
theorem el_cat {es : List PyData} (h : Ev ta σ S (IsD K (.list ds))) (h2 : Ev tb σ S (IsD K (.list es))) (hl : ds.length + es.length ≤ 100000) : EvL (tOp (rCatU K) ta tb) σ S (AreD K (ds ++ es)) := fun S1 H1 a b Q q => h S1 H1 a b _ fun v S2 H2 ok p => h2 S2 H2 (a.trans ok.ss) ok.sh _ fun w S3 H3 ok3 p3 => by
  obtain ⟨a1, xs, rfl, hs, ha⟩ := dp_list.mp (p S3 ok3.ss)
  obtain ⟨a2, ys, rfl, hs2, ha2⟩ := dp_list.mp p3.now
  have l1 := dps_len ha
  have l2 := dps_len ha2
  have okk := ok.trans ok3
  refine ⟨a1, a2, xs, ys, rfl, rfl, Evl.ex_l ok3.sh hs, Evl.ex_l ok3.sh hs2, by rw [sizeLine_eq]; omega, fun l hn => q l S3 _ _ (okk.newH hn) (none_of okk.hh hn) (none_of okk.sh hn) upd_same (perDs (dps_append ha ha2)) (by rw [List.length_append]; omega)⟩
theorem ev_rev2 {d1 d2 : PyData} (h : Ev te σ S (IsD K (.tuple [d1, d2]))) : Ev (tRevT K te) σ S (IsD K (.tuple [d2, d1])) := fun S1 H1 a b Q q => h S1 H1 a b _ fun v S2 H2 ok p => by
  obtain ⟨a1, vs, rfl, hs, ha⟩ := dp_tuple.mp p.now
  obtain ⟨v, w, rfl, h1, h2⟩ := dps2 ha
  exact ⟨a1, v, w, rfl, Evl.ex_t ok.sh hs, fun p hp => q _ _ _ (ok.new hp) (perD (.tup (SqT.of upd_same) (.cons (dp_ex (Evl.Ex.new (none_of ok.sh hp)) _ _ h2) (.cons (dp_ex (Evl.Ex.new (none_of ok.sh hp)) _ _ h1) .nil))))⟩
/-- a walk over a list of data, by EvL -/
theorem ev_retL {te : TE} (e : Ex S H) (h : EvL te σ S (AreD K ds)) (k : ∀ v S' H', Ok S H S' H' → Per (IsD K (.list ds)) S' v → D.rt v H') : tRet te D σ H := s_ret e h.evD k
theorem depth0 {x : Str} : (PyData.str x).depth = 0 := rfl
/-! calls -/
theorem pure_of {ι : Type} {A : ι → Hp → List V → Prop} {Pf : ι → Hp → V → Prop} {N : List Str} {t : TS}
    (h : ∀ i S H vs, Ex S H → A i S vs → ∀ D : Ends, (∀ v S' H', Ok S H S' H' → Per (Pf i) S' v → D.rt v H') → (∀ σ' S' H', Ok S H S' H' → Per (Pf i) S' .non → D.nx σ' H') → t D (start N vs) H) :
    ∀ vs H Q E, SpOf A Pf vs H Q E → t { nx := fun _ H' => Q .non H', rt := Q } (start N vs) H := fun vs H Q E ⟨i, S, e, hA, k⟩ => h i S H vs e (hA S (Evl.Ex.refl S)) _ k fun _ S' H' ok p => k .non S' H' ok p
theorem len_of {ι : Type} {A : ι → Hp → List V → Prop} {Pf : ι → Hp → V → Prop} {n : Nat} (h : ∀ i S vs, A i S vs → vs.length = n) : ∀ vs H Q E, SpOf A Pf vs H Q E → vs.length = n := fun vs H Q E ⟨i, S, _, hA, _⟩ => h i S vs (hA S (Evl.Ex.refl S))
theorem perA_of {ι : Type} {A : ι → Hp → List V → Prop} {i : ι} (h : ∀ S S' vs, Ex S S' → A i S vs → A i S' vs) (a : A i S vs) : PerA (A i) S vs := fun S' e => h S S' vs e a
end
end DL


set_option Elab.async false
set_option linter.all false
set_option maxRecDepth 100000
set_option maxHeartbeats 4000000
/-! DL14: all, any, tuple of comprehensions. -/
namespace DL
open PySem L2 PySem.Spec PyProof.Rows
section
variable {K : PySem.W.Frag} {σ : L2.St} {S S' H H' : Hp} {ta tb te tc : TE} {tt tu : TT} {P P' P1 P2 : Hp → V → Prop} {R R' : Hp → List V → Prop} {v w : V} {vs : List V} {d e : PyData} {ds : List PyData} {D : Ends} {tx ty tz : TS} {g : TG} {ι : Type} {wi : TI} {ns : List Nat} {ys : List ι} {Z : ι → Hp → V → Prop}
theorem ev_allLc (b : ι → Bool) (p : ι → Bool) (h : EvI wi σ S ys Z) (hn : ys.length ≤ 50000)
    (hel : ∀ y S1 x, y ∈ ys → Ex S S1 → Per (Z y) S1 x → ∃ σ2, EvG g x (wipe σ ns) S1 σ2 ∧ wipe σ2 ns = wipe σ ns ∧ EvT tt σ2 S1 (b y) ∧ (b y = true → Ev te σ2 S1 (IsD K (.bool (p y))))) :
    Ev (tCB (rAll K) (tCons (tLc wi g tt te ns) tNil)) σ S (IsD K (.bool ((ys.filter b).all p))) := by
  have e : (ys.filter b).all p = ((ys.filter b).map p).all id := by rw [List.all_map]; rfl
  rw [e]
  refine ev_all (ead_cons ?_ ead_nil)
  rw [List.map_map]
  exact (el_lcD b (fun y => PyData.bool (p y)) h hn hel).evD
theorem ev_anyLc (b : ι → Bool) (p : ι → Bool) (h : EvI wi σ S ys Z) (hn : ys.length ≤ 50000)
    (hel : ∀ y S1 x, y ∈ ys → Ex S S1 → Per (Z y) S1 x → ∃ σ2, EvG g x (wipe σ ns) S1 σ2 ∧ wipe σ2 ns = wipe σ ns ∧ EvT tt σ2 S1 (b y) ∧ (b y = true → Ev te σ2 S1 (IsD K (.bool (p y))))) :
    Ev (tCB (rAny K) (tCons (tLc wi g tt te ns) tNil)) σ S (IsD K (.bool ((ys.filter b).any p))) := by
  have e : (ys.filter b).any p = ((ys.filter b).map p).any id := by rw [List.any_map]; rfl
  rw [e]
  refine ev_any (ead_cons ?_ ead_nil)
  rw [List.map_map]
  exact (el_lcD b (fun y => PyData.bool (p y)) h hn hel).evD
/-- without an if -/
theorem filter_yes : ys.filter (fun _ => true) = ys := by simp
theorem el_lcY (f : ι → PyData) (h : EvI wi σ S ys Z) (hn : ys.length ≤ 50000)
    (hel : ∀ y S1 x, y ∈ ys → Ex S S1 → Per (Z y) S1 x → ∃ σ2, EvG g x (wipe σ ns) S1 σ2 ∧ wipe σ2 ns = wipe σ ns ∧ Ev te σ2 S1 (IsD K (f y))) :
    EvL (tLc wi g tYes te ns) σ S (AreD K (ys.map f)) := by
  have := el_lcD (K := K) (tt := tYes) (te := te) (g := g) (vs := ns) (fun _ => true) f h hn fun y S1 x a b c => let ⟨σ2, g1, g2, g3⟩ := hel y S1 x a b c; ⟨σ2, g1, g2, et_yes, fun _ => g3⟩
  rw [filter_yes] at this
  exact this
theorem ev_allLcY (p : ι → Bool) (h : EvI wi σ S ys Z) (hn : ys.length ≤ 50000)
    (hel : ∀ y S1 x, y ∈ ys → Ex S S1 → Per (Z y) S1 x → ∃ σ2, EvG g x (wipe σ ns) S1 σ2 ∧ wipe σ2 ns = wipe σ ns ∧ Ev te σ2 S1 (IsD K (.bool (p y)))) :
    Ev (tCB (rAll K) (tCons (tLc wi g tYes te ns) tNil)) σ S (IsD K (.bool (ys.all p))) := by
  have := ev_allLc (K := K) (tt := tYes) (te := te) (g := g) (ns := ns) (fun _ => true) p h hn fun y S1 x a b c => let ⟨σ2, g1, g2, g3⟩ := hel y S1 x a b c; ⟨σ2, g1, g2, et_yes, fun _ => g3⟩
  rw [filter_yes] at this
  exact this
theorem ev_tupL (h : EvL te σ S (AreD K ds)) : Ev (tCB (rTupU K) (tCons te tNil)) σ S (IsD K (.tuple ds)) := ev_tupOf (ead_cons h.evD ead_nil)
theorem ev_isT {n : String} {b : Bool} (h : Ev te σ S (IsD K d)) (hk : kitB (tyName d) n = some b) : Ev (tCB (rIsi K) (tCons te (tCons (tC (.ty n)) tNil))) σ S (IsD K (.bool b)) := ev_isi (t := te) h hk
/-! an owned dict -/
theorem q_parF {i j : Nat} {o : HO} (e : Ex S H) (ha : EvF ta σ S o) (hb : ∀ S', Ex S S' → Ev tb σ S' P2) (k : ∀ l w S' H', Ok S H S' H' → H l = none → S' l = none → H' l = some o → Per P2 S' w → tz D ((σ.set i (some (.ref l))).set j (some w)) H') : tSeq (tPar i j (tCons ta (tCons tb tNil))) tz D σ H :=
  ha S H (Evl.Ex.refl S) e _ fun l S2 H2 ok2 h1 h2 h3 => hb S2 ok2.ss S2 H2 (Evl.Ex.refl S2) ok2.sh _ fun w S3 H3 ok3 p3 => ⟨.ref l, w, rfl, k l w S3 H3 (ok2.trans ok3) h1 (ok3.av l _ h2 h3) (ok3.hh l _ h3) p3⟩
theorem q_parFL {i j : Nat} {o : HO} (e : Ex S H) (ha : EvF ta σ S o) (hb : ∀ S', Ex S S' → EvL tb σ S' R) (k : ∀ l l2 ws S' H', Ok S H S' H' → H l = none → S' l = none → H' l = some o → H l2 = none → S' l2 = none → H' l2 = some (.lst ws) → l2 ≠ l → PerA R S' ws → tz D ((σ.set i (some (.ref l))).set j (some (.ref l2))) H') : tSeq (tPar i j (tCons ta (tCons tb tNil))) tz D σ H :=
  ha S H (Evl.Ex.refl S) e _ fun l S2 H2 ok2 h1 h2 h3 => hb S2 ok2.ss S2 H2 (Evl.Ex.refl S2) ok2.sh _ fun l2 S3 H3 ws ok3 g1 g2 g3 p3 _ => ⟨.ref l, .ref l2, rfl, k l l2 ws S3 H3 (ok2.trans ok3) h1 (ok3.av l _ h2 h3) (ok3.hh l _ h3) (none_of ok2.hh g1) g2 g3 (fun z => by rw [z, h3] at g1; cases g1) p3⟩
theorem dsetd_run {i : Nat} {l : Addr} {kvs : List (Key × V)} {x : Str} (e : Ex S H) (hσ : σ[i]? = some (some (.ref l))) (hS : S l = none) (hH : H l = some (.dK kvs)) (hl : kvs.length < 100000) (hy : Ev ta σ S (IsD K (.str x))) (hx : ∀ S', Ex S S' → Ev tb σ S' P2) {Q : VK}
    (k1 : ∀ v S' H', Ok S H S' H' → S' l = none → H' l = some (.dK kvs) → valV kvs (Sum.inr x) = some v → Q v H')
    (k2 : ∀ z S' H', Ok S H S' H' → S' l = none → H' l = some (.dK kvs) → Per P2 S' z → valV kvs (Sum.inr x) = none → Q z (upd H' l (.dK (putK kvs (Sum.inr x) z)))) : tDSetd (tVar i) ta tb σ H Q :=
  ⟨_, hσ, l, rfl, .inl ⟨kvs, .inl hH⟩, hy S H (Evl.Ex.refl S) e _ fun y S2 H2 ok2 p2 => hx S2 ok2.ss S2 H2 (Evl.Ex.refl S2) ok2.sh _ fun z S3 H3 ok3 p3 => by
    have ey := p2.now
    cases ey
    have okk := ok2.trans ok3
    exact ⟨kvs, Sum.inr x, okk.hh l _ hH, rfl, Evl.sz_lt hl, fun v hv => k1 v S3 H3 okk (okk.av l _ hS hH) (okk.hh l _ hH) hv, fun hn => k2 z S3 H3 okk (okk.av l _ hS hH) (okk.hh l _ hH) p3 hn⟩⟩
theorem el_nil : EvL (tLst tNil) σ S (AreD K []) := el_lstD ead_nil (Nat.zero_le _)
theorem Ev.of_ex {te : TE} (h : Ev te σ S P) : ∀ S', Ex S S' → Ev te σ S' P := fun _ e => h.ex e
theorem Ok.put {l : Addr} {o o2 : HO} {S0 H0 : Hp} (a : Ok S0 H0 S H) (h0 : H0 l = none) (hS : S l = none) : Ok S0 H0 S (upd H l o2) := a.mut h0 hS
/-- d.setdefault(k, x) != y -/
theorem setd_ne {S0 H0 : Hp} {i : Nat} {l : Addr} {kvs : List (Key × V)} {x : Str} {dv : PyData} (a0 : Ok S0 H0 S H) (h0 : H0 l = none) (hσ : σ[i]? = some (some (.ref l))) (hS : S l = none) (hH : H l = some (.dK kvs)) (hl : kvs.length < 100000) (hy : Ev ta σ S (IsD K (.str x)))
    (hx : Ev tb σ S (IsD K dv)) (ht : Ev tc σ S (IsD K dv)) (hd : dv.depth ≤ 60) (hv : ∀ v, valV kvs (Sum.inr x) = some v → ∃ d0, Dp K S v d0) {Q : Bool → Hp → Prop}
    (k1 : ∀ v d0 S4 H4, Ok S0 H0 S4 H4 → Ex S S4 → S4 l = none → H4 l = some (.dK kvs) → valV kvs (Sum.inr x) = some v → Dp K S v d0 → Q (!PyData.eqv d0 dv) H4)
    (k2 : ∀ z S4 H4, Ok S0 H0 S4 H4 → Ex S S4 → S4 l = none → H4 l = some (.dK (putK kvs (Sum.inr x) z)) → Per (IsD K dv) S4 z → valV kvs (Sum.inr x) = none → Q (!PyData.eqv dv dv) H4) : tTest (tOp (uNe K) (tDSetd (tVar i) ta tb) tc) σ H Q :=
  dsetd_run a0.sh hσ hS hH hl hy hx.of_ex (fun v S' H' ok h1 h2 h3 => ht S' H' ok.ss ok.sh _ fun y S4 H4 ok4 p4 => by
    obtain ⟨d0, hd0⟩ := hv v h3
    have okk := ok.trans ok4
    exact ⟨d0, dv, dpE (okk.ss.trans okk.sh) hd0, dpE ok4.sh p4.now, by omega, _, rfl, k1 v d0 S4 H4 (a0.trans okk) okk.ss (ok4.av l _ h1 h2) (ok4.hh l _ h2) h3 hd0⟩)
  fun z S' H' ok h1 h2 pz h3 => ht S' _ ok.ss (ex_upd ok.sh h1) _ fun y S4 H4 ok4 p4 => by
    have b0 : Ok S0 H0 S' (upd H' l (.dK (putK kvs (Sum.inr x) z))) := (a0.trans ok).mut h0 h1
    exact ⟨dv, dv, dpE ok4.sh (pz S4 ok4.ss), dpE ok4.sh p4.now, by omega, _, rfl, k2 z S4 H4 (b0.trans ok4) (ok.ss.trans ok4.ss) (ok4.av l _ h1 upd_same) (ok4.hh l _ upd_same) (pz.ex ok4.ss) h3⟩
theorem dps_strs : ∀ (xs : List Str) (ws : List V), DpAll K S ws (xs.map PyData.str) → ws = xs.map V.str
  | [], _, h => by cases h; rfl
  | c :: cs, _, h => by
    cases h with
    | cons x y => cases x; rw [List.map_cons, dps_strs cs _ y]
theorem dps_strs' : ∀ (xs : List Str), DpAll K S (xs.map V.str) (xs.map PyData.str)
  | [] => .nil
  | c :: cs => .cons (.str c) (dps_strs' cs)
end
end DL


set_option Elab.async false
set_option linter.all false
set_option maxRecDepth 100000
set_option maxHeartbeats 4000000
/-! K68A: data, promises, the first defs. -/
namespace K68
open PySem L2 DL PySem.Spec PyProof.Rows
abbrev A := Str × Str
def aD (a : A) : PyData := .tuple [.str "Road", .tuple [.str a.1, .str a.2]]
def qD (h : List Str) (as : List A) : PyData := .tuple [.str "ask", .tuple (h.map .str), .tuple (as.map aD)]
def NAMES : List Str := ["a", "b", "c", "d", "e", "f", "g", "xx"]
def OkA (a : A) : Prop := a.1 ∈ NAMES ∧ a.2 ∈ NAMES
section
variable {P : Program} {w : World} {K : PySem.W.Frag}
def sp_is_integer (K : PySem.W.Frag) : Sp := SpOf (ι := Int) (fun i => AreD K [.int i]) (fun _ => IsD K (.bool true))
def sp_is_row (K : PySem.W.Frag) : Sp := SpOf (ι := List PyData × Nat) (fun i => AreD K [.tuple i.1, .int i.2]) (fun i => IsD K (.bool (decide (i.1.length = i.2))))
def sp_is_name (K : PySem.W.Frag) : Sp := SpOf (ι := { x : Str // x ∈ NAMES }) (fun i => AreD K [.str i.1]) (fun _ => IsD K (.bool true))
def sp_is_word (K : PySem.W.Frag) : Sp := SpOf (ι := Unit) (fun _ => AreD K [.str "Road"]) (fun _ => IsD K (.bool true))
theorem k_tt : kitB "tuple" "tuple" = some true := by decide +kernel
theorem k_ss : kitB "str" "str" = some true := by decide +kernel
theorem k_ii : kitB "int" "int" = some true := by decide +kernel
theorem k_ib : kitB "int" "bool" = some false := by decide +kernel
theorem eqv_int (i j : Int) : PyData.eqv (.int i) (.int j) = decide (i = j) := by simp [PyData.eqv]; rfl
theorem eqv_str (i j : Str) : PyData.eqv (.str i) (.str j) = decide (i = j) := by simp [PyData.eqv]; rfl
theorem d_str (x : Str) : (PyData.str x).depth = 0 := rfl
theorem d_int (x : Int) : (PyData.int x).depth = 0 := rfl
theorem pure_is_integer : ∀ vs H Q E, sp_is_integer K vs H Q E → t_is_integer P w K { nx := fun _ H' => Q .non H', rt := Q } (start N_is_integer vs) H := pure_of fun i S H vs e h D k _ => by
  obtain ⟨v, rfl, h1⟩ := dps1 h
  exact s_ret e (ev_is (ev_andV (ev_isT (b := true) (ev_varD rfl h1) k_ii) fun _ => ev_notV (ev_isT (b := false) (ev_varD rfl h1) k_ib)) rfl) k
theorem pure_is_row : ∀ vs H Q E, sp_is_row K vs H Q E → t_is_row P w K { nx := fun _ H' => Q .non H', rt := Q } (start N_is_row vs) H := pure_of fun i S H vs e h D k _ => by
  obtain ⟨v, u, rfl, h1, h2⟩ := dps2 h
  refine s_ret e (ev_is (ev_andV (ev_isT (b := true) (ev_varD rfl h1) k_tt) fun _ => ev_uEq (ev_lenT (ead_cons (ev_varD rfl h1) ead_nil)) (ev_varD rfl h2) (by rw [d_int]; omega)) ?_) k
  rw [Bool.true_and, eqv_int]
  congr 2
  exact propext Int.ofNat_inj
theorem all_names : ∀ x ∈ NAMES, (x.cps.toList.all fun c => !(Builtin.Str.occurrences "abcdefghijklmnopqrstuvwxyz" ⟨#[c]⟩ 0 (Str.length "abcdefghijklmnopqrstuvwxyz") 1).isEmpty) = true ∧ (decide ((1 : Int) ≤ (x.length : Int)) && decide ((x.length : Int) ≤ 8)) = true ∧ x.length ≤ 8 := by
  decide +kernel
theorem pure_is_name : ∀ vs H Q E, sp_is_name K vs H Q E → t_is_name P w K { nx := fun _ H' => Q .non H', rt := Q } (start N_is_name vs) H := pure_of fun i S H vs e h D k _ => by
  obtain ⟨v, rfl, h1⟩ := dps1 h
  obtain ⟨n1, n2, n3⟩ := all_names i.1 i.2
  refine q_guard e (et_is (et_or (et_not (et_B (ev_isT (b := true) (ev_varD rfl h1) k_ss))) fun _ => et_not (et_test (ev_chain ev_int (ev_lenS (ead_cons (ev_varD rfl h1) ead_nil) (by omega)) ev_int))) (by rw [n2]; rfl : _ = false)) (fun z => by cases z) fun _ S' H' ok => ?_
  refine s_ret ok.sh (ev_is (ev_allLcY (fun c => !(Builtin.Str.occurrences "abcdefghijklmnopqrstuvwxyz" ⟨#[c]⟩ 0 (Str.length "abcdefghijklmnopqrstuvwxyz") 1).isEmpty) (ei_str (ev_varD rfl (dp_ex ok.ss _ _ h1))) ?_ fun y S1 x hy ex pz => ?_) ?_) fun v S2 H2 ok2 p => k v S2 H2 (ok.trans ok2) p
  · rw [Array.length_toList]
    show Str.length i.1 ≤ 50000
    omega
  · exact ⟨_, eg_name, rfl, ev_uInS (ev_var rfl pz) ev_str⟩
  · rw [n1]
theorem word_road : (Str.cps "Road").toList.all (fun c => !(Builtin.Str.occurrences "abcdefghijklmnopqrstuvwxyz" ⟨#[c]⟩ 0 (Str.length "abcdefghijklmnopqrstuvwxyz") 1).isEmpty || !(Builtin.Str.occurrences "ABCDEFGHIJKLMNOPQRSTUVWXYZ" ⟨#[c]⟩ 0 (Str.length "ABCDEFGHIJKLMNOPQRSTUVWXYZ") 1).isEmpty) = true := by decide +kernel
theorem pure_is_word : ∀ vs H Q E, sp_is_word K vs H Q E → t_is_word P w K { nx := fun _ H' => Q .non H', rt := Q } (start N_is_word vs) H := pure_of fun i S H vs e h D k _ => by
  obtain ⟨v, rfl, h1⟩ := dps1 h
  refine q_guard e (et_is (et_or (et_not (et_B (ev_isT (b := true) (ev_varD rfl h1) k_ss))) fun _ => et_or (et_not (et_test (ev_chain ev_int (ev_lenS (ead_cons (ev_varD rfl h1) ead_nil) (by decide)) ev_int))) fun _ => et_test (ev_uNotInS (ev_ixS (j := 0) (c := 82) (ev_varD rfl h1) ev_int (by decide) (by decide)) ev_str)) (by decide +kernel : _ = false)) (fun z => by cases z) fun _ S' H' ok => ?_
  refine s_ret ok.sh (ev_is (ev_allLcY (fun c => (!(Builtin.Str.occurrences "abcdefghijklmnopqrstuvwxyz" ⟨#[c]⟩ 0 (Str.length "abcdefghijklmnopqrstuvwxyz") 1).isEmpty || !(Builtin.Str.occurrences "ABCDEFGHIJKLMNOPQRSTUVWXYZ" ⟨#[c]⟩ 0 (Str.length "ABCDEFGHIJKLMNOPQRSTUVWXYZ") 1).isEmpty)) (ei_str (ev_varD rfl (dp_ex ok.ss _ _ h1))) (by decide) fun y S1 x hy ex pz => ?_) ?_) fun v S2 H2 ok2 p => k v S2 H2 (ok.trans ok2) p
  · refine ⟨_, eg_name, rfl, ev_is (ev_orV (ev_uInS (ev_var rfl pz) ev_str) fun hz => ev_orV (ev_uInS (ev_var rfl pz) ev_str) fun hz2 => ?_) (by rw [Bool.or_false])⟩
    have := List.all_eq_true.mp word_road y hy
    rw [hz, hz2] at this
    cases this
  · rw [word_road]
def sp_is_term (K : PySem.W.Frag) : Sp := SpOf (ι := { x : Str // x ∈ NAMES }) (fun i => AreD K [.str i.1]) (fun _ => IsD K (.bool true))
theorem pure_is_term : ∀ vs H Q E, sp_is_term K vs H Q E → t_is_term P w K (sp_is_name K) { nx := fun _ H' => Q .non H', rt := Q } (start N_is_term vs) H := pure_of fun i S H vs e h D k _ => by
  obtain ⟨v, rfl, h1⟩ := dps1 h
  exact s_ret e (ev_is (ev_orV (a := true) (b := false) (ev_call (ι := { x : Str // x ∈ NAMES }) i (ead_cons (ev_varD rfl h1) ead_nil)) fun z => by cases z) rfl) k
def sp_is_terms (K : PySem.W.Frag) : Sp := SpOf (ι := { p : List Str × Nat × Nat // (∀ x ∈ p.1, x ∈ NAMES) ∧ p.2.1 ≤ p.1.length ∧ p.1.length ≤ p.2.2 ∧ p.1.length ≤ 1000 })
  (fun i => AreD K [.tuple (i.1.1.map .str), .int (i.1.2.1 : Int), .int (i.1.2.2 : Int)]) (fun _ => IsD K (.bool true))
theorem pure_is_terms : ∀ vs H Q E, sp_is_terms K vs H Q E → t_is_terms P w K (sp_is_term K) { nx := fun _ H' => Q .non H', rt := Q } (start N_is_terms vs) H := pure_of fun i S H vs e h D k _ => by
  obtain ⟨⟨xs, lo, hi⟩, hn, h2, h3, h4⟩ := i
  obtain ⟨v, u, t, rfl, g1, g2, g3⟩ := dps3 h
  simp only at g1 g2 g3 hn h2 h3 h4
  refine s_ret e (ev_is (ev_andV (ev_isT (b := true) (ev_varD rfl g1) k_tt) fun _ => ev_andV (ev_chain (ev_varD rfl g2) (ev_lenT (ead_cons (ev_varD rfl g1) ead_nil)) (ev_varD rfl g3)) fun _ => ev_allLcY (fun _ => true) (ei_tup (ev_varD rfl g1)) (by rw [List.length_map]; omega) fun y S1 x hy ex pz => ?_) ?_) k
  · obtain ⟨z, hz, rfl⟩ := List.mem_map.mp hy
    exact ⟨_, eg_name, rfl, ev_call (ι := { x : Str // x ∈ NAMES }) ⟨z, hn z hz⟩ (ead_cons (ev_var rfl pz) ead_nil)⟩
  · rw [List.length_map, decide_eq_true (Int.ofNat_le.mpr h2), decide_eq_true (Int.ofNat_le.mpr h3)]
    simp
def sp_is_atom (K : PySem.W.Frag) : Sp := SpOf (ι := { a : A // OkA a }) (fun i => AreD K [aD i.1]) (fun _ => IsD K (.bool true))
theorem pure_is_atom : ∀ vs H Q E, sp_is_atom K vs H Q E → t_is_atom P w K (sp_is_row K) (sp_is_terms K) (sp_is_word K) { nx := fun _ H' => Q .non H', rt := Q } (start N_is_atom vs) H := pure_of fun i S H vs e h D k _ => by
  obtain ⟨⟨x, y⟩, hx, hy⟩ := i
  obtain ⟨v, rfl, h1⟩ := dps1 h
  have h1 : Dp K S v (.tuple [.str "Road", .tuple [.str x, .str y]]) := h1
  refine s_ret e (ev_is (ev_andV (ev_call (ι := List PyData × Nat) ([.str "Road", .tuple [.str x, .str y]], 2) (ead_cons (ev_varD rfl h1) (ead_cons ev_int ead_nil))) fun _ => ev_andV (ev_call (ι := Unit) () (ead_cons (ev_ixT (j := 0) (ev_varD rfl h1) ev_int rfl) ead_nil)) fun _ => ev_call (ι := { p : List Str × Nat × Nat // (∀ x ∈ p.1, x ∈ NAMES) ∧ p.2.1 ≤ p.1.length ∧ p.1.length ≤ p.2.2 ∧ p.1.length ≤ 1000 }) ⟨([x, y], 1, 4), ?_, Nat.le_of_ble_eq_true rfl, Nat.le_of_ble_eq_true rfl, Nat.le_of_ble_eq_true rfl⟩ (ead_cons (ev_ixT (j := 1) (ev_varD rfl h1) ev_int rfl) (ead_cons ev_int (ead_cons ev_int ead_nil)))) ?_) k
  · intro z hz
    rcases List.mem_cons.mp hz with rfl | hz
    · exact hx
    · rw [List.mem_singleton.mp hz]; exact hy
  · rfl
def atomsD (b : Bool) (as : List A) : PyData := if b = true then .list (as.map aD) else .tuple (as.map aD)
def sp_unlike_table (K : PySem.W.Frag) : Sp := SpOf (ι := { p : Bool × List A // p.2.length ≤ 100 }) (fun i => AreD K [atomsD i.1.1 i.1.2]) (fun _ => IsD K .none)
theorem ei_atoms {σ : L2.St} {S : Hp} {b : Bool} {as : List A} {i : Nat} {v : V} (hv : σ[i]? = some (some v)) (h : Dp K S v (atomsD b as)) : EvI (iOr (iList K (tVar i)) (iTup K (tVar i))) σ S (as.map aD) (DL.IsD K) := by
  cases b with
  | true => exact ei_inl (ei_list (ev_varD hv h))
  | false => exact ei_inr (ei_tup (ev_varD hv h))
theorem pure_unlike_table : ∀ vs H Q E, sp_unlike_table K vs H Q E → t_unlike_table P w K { nx := fun _ H' => Q .non H', rt := Q } (start N_unlike_table vs) H := pure_of fun i S H vs e h D k _ => by
  obtain ⟨⟨b, as⟩, hn⟩ := i
  obtain ⟨v, rfl, h1⟩ := dps1 h
  simp only at hn h1
  refine q_parFL (R := AreD K []) e ef_led0 (fun S' _ => el_nil) fun l l2 ws S1 H1 ok1 h0 hS hH g0 gS gH hne pw => ?_
  have ok2 := ok1.freeze g0 gS gH
  have hw : ws = [] := by have := pw.now; cases this; rfl
  subst hw
  have hS2 : upd S1 l2 (.lst []) l = none := by rw [upd_ne hne.symm]; exact hS
  have hf : Dp K (upd S1 l2 (.lst [])) (.ref l2) (.list []) := .lst (SqL.of upd_same) .nil
  refine q_for (σ := [some v, some (.ref l), some (.ref l2), none, none]) ok2 (ei_atoms rfl (dp_ex ok2.ss _ _ h1)) (fun i σ' S' H' => ∃ t u kvs, σ' = [some v, some (.ref l), some (.ref l2), t, u] ∧ S' l = none ∧ H' l = some (.dK kvs) ∧ (kvs = [] ∨ kvs = [((Sum.inr "Road" : Key), V.int 2)])) (fun S3 H3 ok3 => ⟨none, none, [], rfl, ok3.av l _ hS2 hH, ok3.hh l _ hH, .inl rfl⟩) ?_ ?_
  · rintro S3 ex3 i y x σ' S4 H4 S5 H5 hy lo ⟨t, u, kvs, rfl, q1, q2, q3⟩ ok5 pz
    obtain ⟨a, ha, rfl⟩ := List.mem_map.mp (List.mem_of_getElem? hy)
    obtain ⟨t', u', eg, ht, hu⟩ := eg2 (σ := [some v, some (.ref l), some (.ref l2), t, u]) (i := 3) (j := 4) (show Dp K S5 x (.tuple [.str "Road", .tuple [.str a.1, .str a.2]]) from pz.now)
    have hkl : kvs.length < 100000 := by rcases q3 with rfl | rfl <;> decide
    refine eg H5 ok5.sh _ (setd_ne (lo.ok.trans ok5) h0 rfl (ok5.av l _ q1 q2) (ok5.hh l _ q2) hkl (ev_varD rfl ht) (ev_lenT (ead_cons (ev_varD rfl hu) ead_nil)) (ev_lenT (ead_cons (ev_varD rfl hu) ead_nil)) (Nat.zero_le 60) (fun w hw => ?_) (fun w d0 S6 H6 ok6 ex6 r1 r2 hw hd => ?_) fun z S6 H6 ok6 ex6 r1 r2 pz2 hw => ?_)
    · rcases q3 with rfl | rfl
      · cases hw
      · exact ⟨.int 2, by rw [show w = .int 2 from (Option.some.inj hw).symm]; exact .int 2⟩
    · rcases q3 with rfl | rfl
      · cases hw
      · have ew : w = .int 2 := (Option.some.inj hw).symm
        subst ew
        cases hd
        exact ⟨S6, ⟨ok6, lo.ex.trans (ok5.ss.trans ex6)⟩, some t', some u', _, rfl, r1, r2, .inr rfl⟩
    · rcases q3 with rfl | rfl
      · have ez := pz2.now
        cases ez
        exact ⟨S6, ⟨ok6, lo.ex.trans (ok5.ss.trans ex6)⟩, some t', some u', _, rfl, r1, r2, .inr rfl⟩
      · cases hw
  · rintro σ' S4 H4 lo ⟨t, u, kvs, rfl, q1, q2, q3⟩
    refine s_ret lo.ok.sh (ev_if (b := false) (et_is (et_test (ev_uNe (ev_varD rfl (dp_ex lo.ex _ _ hf)) el_nil.evD (by decide))) (by decide)) (fun z => by cases z) fun _ => ev_non) fun w S5 H5 ok5 p => k w S5 H5 (lo.ok.trans ok5) p
def flat (as : List A) : List Str := as.flatMap fun a => [a.1, a.2]
theorem flat_mem {as : List A} {k : Str} : k ∈ flat as ↔ ∃ a ∈ as, k = a.1 ∨ k = a.2 := by
  unfold flat
  rw [List.mem_flatMap]
  simp
theorem flat_len : ∀ as : List A, (flat as).length = 2 * as.length
  | [] => rfl
  | a :: as => by
    have := flat_len as
    unfold flat at this ⊢
    rw [List.flatMap_cons, List.length_append, this]
    show 2 + 2 * as.length = 2 * (as.length + 1)
    omega
theorem flat_snoc (as : List A) (a : A) : flat (as ++ [a]) = flat as ++ [a.1, a.2] := by
  unfold flat
  rw [List.flatMap_append]
  simp
def NamesP (K : PySem.W.Frag) (as : List A) : Hp → V → Prop := fun S v => ∃ ys : List Str, Dp K S v (.list (ys.map .str)) ∧ (∀ k, k ∈ ys ↔ ∃ a ∈ as, k = a.1 ∨ k = a.2) ∧ ys.length ≤ 100
def sp_names_in (K : PySem.W.Frag) : Sp := SpOf (ι := { as : List A // (∀ a ∈ as, OkA a) ∧ as.length ≤ 6 }) (fun i => AreD K [.tuple (i.1.map aD)]) (fun i => NamesP K i.1)
theorem pure_names_in : ∀ vs H Q E, sp_names_in K vs H Q E → t_names_in P w K (sp_is_name K) { nx := fun _ H' => Q .non H', rt := Q } (start N_names_in vs) H := pure_of fun i S H vs e h D k _ => by
  obtain ⟨as, hok, hn⟩ := i
  obtain ⟨v, rfl, h1⟩ := dps1 h
  simp only at h1
  refine q_setL (R := AreD K []) e el_nil fun l S1 H1 ws ok1 h0 hS hH pw _ => ?_
  have hw : ws = [] := by have := pw.now; cases this; rfl
  subst hw
  refine q_for (σ := [some v, some (.ref l), none, none, none]) ok1 (ei_inr (ei_tup (ev_varD rfl (dp_ex ok1.ss _ _ h1)))) (fun i σ' S' H' => ∃ t u z, σ' = [some v, some (.ref l), t, u, z] ∧ S' l = none ∧ H' l = some (.lst ((flat (as.take i)).map V.str))) (fun S3 H3 ok3 => ⟨none, none, none, rfl, ok3.av l _ hS hH, ok3.hh l _ hH⟩) ?_ ?_
  · rintro S3 ex3 i y x σ' S4 H4 S5 H5 hy lo ⟨t, u, z, rfl, q1, q2⟩ ok5 pz
    rw [List.getElem?_map] at hy
    obtain ⟨a, ha, rfl⟩ := Option.map_eq_some_iff.mp hy
    have hil : i < as.length := (List.getElem?_eq_some_iff.mp ha).1
    obtain ⟨o1, o2⟩ := hok a (List.mem_of_getElem? ha)
    obtain ⟨t', u', eg, ht, hu⟩ := eg2 (σ := [some v, some (.ref l), t, u, z]) (i := 2) (j := 3) (show Dp K S5 x (.tuple [.str "Road", .tuple [.str a.1, .str a.2]]) from pz.now)
    have hu : Dp K S5 u' (.tuple ([a.1, a.2].map .str)) := hu
    refine eg H5 ok5.sh _ (s_extend (R := AreD K ([a.1, a.2].map .str)) ok5.sh rfl (ok5.av l _ q1 q2) (ok5.hh l _ q2) (by rw [List.length_map, flat_len, List.length_take]; omega) ?_ fun ws S6 H6 ok6 r1 r2 pws => ?_)
    · have := el_lcD (K := K) (wi := iTup K (tVar 3)) (σ := [some v, some (.ref l), some t', some u', z]) (S := S5) (te := tVar 4) (g := gName 4) (vs := [4]) (tt := tB (tCall (sp_is_name K) [] E0 (tCons (tVar 4) tNil))) (fun _ => true) id (ei_tup (ev_varD rfl hu)) (Nat.le_of_ble_eq_true rfl) fun y S7 x hy ex pz => by
        obtain ⟨n, hn, rfl⟩ := List.mem_map.mp hy
        have hnn : n ∈ NAMES := by
          rcases List.mem_cons.mp hn with rfl | hn
          · exact o1
          · rw [List.mem_singleton.mp hn]; exact o2
        exact ⟨_, eg_name, rfl, et_B (ev_call (ι := { x : Str // x ∈ NAMES }) ⟨n, hnn⟩ (ead_cons (ev_var rfl pz) ead_nil)), fun _ => ev_var rfl pz⟩
      rw [filter_yes, List.map_id] at this
      exact this
    · have hws := dps_strs _ _ pws.now
      subst hws
      refine ⟨S6, ⟨((lo.ok.trans ok5).trans ok6).mut h0 r1, lo.ex.trans (ok5.ss.trans ok6.ss)⟩, some t', some u', z, rfl, r1, ?_⟩
      rw [upd_same, ← List.map_append, ← flat_snoc, List.take_add_one, ha]
      rfl
  · rintro σ' S4 H4 lo ⟨t, u, z, rfl, q1, q2⟩
    rw [List.length_map, List.take_length] at q2
    refine ⟨_, rfl, l, _, rfl, SqL.of q2, by rw [flat_len]; omega, fun p SS n hp hSS hnn => ⟨p, SS, n, rfl, upd_same, by rw [flat_len] at hnn; omega, fun l2 ys hl2 _ hmem _ hle => ?_⟩⟩
    have okp := lo.ok.newH (o := SetXO w p SS n) hp
    refine k _ _ _ (okp.new hl2) fun S6 ex6 => ⟨ys, dp_ex ex6 _ _ (.lst (SqL.of upd_same) (dps_strs' ys)), fun kk => (hmem kk).trans ((hSS kk).trans flat_mem), by rw [flat_len] at hnn; omega⟩
def QPre (h : List Str) (as : List A) : Prop := h.length ≤ 1 ∧ (∀ x ∈ h, x ∈ NAMES) ∧ as.length ≤ 6 ∧ (∀ a ∈ as, OkA a) ∧ (as = [] ∨ ∀ x ∈ h, ∃ a ∈ as, x = a.1 ∨ x = a.2)
abbrev Qi := { p : List Str × List A // QPre p.1 p.2 }
def sp_is_question_of (K : PySem.W.Frag) : Sp := SpOf (ι := Qi) (fun i => AreD K [qD i.1.1 i.1.2]) (fun i => IsD K (.bool (!i.1.2.isEmpty)))
theorem call_is_name {σ : L2.St} {S : Hp} {te : TE} {x : Str} (hx : x ∈ NAMES) (h : Ev te σ S (DL.IsD K (.str x))) : Ev (tCall (sp_is_name K) [] E0 (tCons te tNil)) σ S (DL.IsD K (.bool true)) := ev_call (ι := { x : Str // x ∈ NAMES }) ⟨x, hx⟩ (ead_cons h ead_nil)
theorem eqv_refl_str (x : Str) : PyData.eqv (.str x) (.str x) = true := by rw [eqv_str]; exact decide_eq_true rfl
theorem dall_str : ∀ xs : List Str, PyData.depthAll (xs.map PyData.str) = 0
  | [] => rfl
  | x :: xs => by rw [List.map_cons, PyData.depthAll, dall_str xs]; rfl
theorem pure_is_question_of : ∀ vs H Q E, sp_is_question_of K vs H Q E → t_is_question_of P w K (sp_is_atom K) (sp_is_name K) (sp_is_row K) (sp_is_terms K) (sp_names_in K) (sp_unlike_table K) { nx := fun _ H' => Q .non H', rt := Q } (start N_is_question_of vs) H := pure_of fun i S H vs e h D k _ => by
  obtain ⟨⟨hd, as⟩, hh, hx, hn, hok, hin⟩ := i
  obtain ⟨v, rfl, h1⟩ := dps1 h
  simp only at hh hx hn hok hin
  have h1 : Dp K S v (.tuple [.str "ask", .tuple (hd.map .str), .tuple (as.map aD)]) := h1
  refine q_guard (b := false) e (et_is (et_or (et_not (et_B (ev_call (ι := List PyData × Nat) (_, 3) (ead_cons (ev_varD rfl h1) (ead_cons ev_int ead_nil))))) fun _ => et_or (et_test (ev_uNe (ev_ixT (j := 0) (ev_varD rfl h1) ev_int rfl) ev_str (Nat.zero_le 60))) fun _ => et_not (et_B (ev_call (ι := { p : List Str × Nat × Nat // (∀ x ∈ p.1, x ∈ NAMES) ∧ p.2.1 ≤ p.1.length ∧ p.1.length ≤ p.2.2 ∧ p.1.length ≤ 1000 }) ⟨(hd, 0, 4), hx, Nat.zero_le _, by show hd.length ≤ 4; omega, by show hd.length ≤ 1000; omega⟩ (ead_cons (ev_ixT (j := 1) (ev_varD rfl h1) ev_int rfl) (ead_cons ev_int (ead_cons ev_int ead_nil)))))) ?_) (fun z => by cases z) fun _ S1 H1 ok1 => ?_
  · rw [eqv_refl_str]; rfl
  have h2 := dp_ex ok1.ss _ _ h1
  refine q_guard (b := as.isEmpty) ok1.sh (et_is (et_or (et_not (et_B (ev_isT (b := true) (ev_ixT (j := 2) (ev_varD rfl h2) ev_int rfl) k_tt))) fun _ => et_not (et_test (ev_chain ev_int (ev_lenT (ead_cons (ev_ixT (j := 2) (ev_varD rfl h2) ev_int rfl) ead_nil)) ev_int))) ?_) (fun z S2 H2 ok2 => ?_) fun z S2 H2 ok2 => ?_
  · rw [List.length_map]
    cases as with
    | nil => rfl
    | cons a r =>
      rw [decide_eq_true (show (1 : Int) ≤ ((a :: r).length : Int) by rw [List.length_cons]; omega), decide_eq_true (show ((a :: r).length : Int) ≤ 6 by omega)]
      rfl
  · refine s_ret ok2.sh (ev_bl (K := K)) fun u S3 H3 ok3 p => k u S3 H3 ((ok1.trans ok2).trans ok3) ?_
    show Per (DL.IsD K (.bool (!as.isEmpty))) S3 u
    rw [z]
    exact p
  · have h3 := dp_ex ok2.ss _ _ h2
    refine q_guard (b := false) ok2.sh (et_is (et_not (et_B (ev_allLcY (fun _ => true) (ei_tup (ev_ixT (j := 2) (ev_varD rfl h3) ev_int rfl)) (by rw [List.length_map]; omega) fun y S3 x hy ex pz => ?_))) (by simp)) (fun z => by cases z) fun _ S3 H3 ok3 => ?_
    · obtain ⟨a, ha, rfl⟩ := List.mem_map.mp hy
      exact ⟨_, eg_name, rfl, ev_call (ι := { a : A // OkA a }) ⟨a, hok a ha⟩ (ead_cons (ev_var rfl pz) ead_nil)⟩
    have h4 := dp_ex ok3.ss _ _ h3
    refine q_set ok3.sh (ev_call (ι := { as : List A // (∀ a ∈ as, OkA a) ∧ as.length ≤ 6 }) ⟨as, hok, hn⟩ (ead_cons (ev_ixT (j := 2) (ev_varD rfl h4) ev_int rfl) ead_nil)) fun u S4 H4 ok4 pu => ?_
    have h5 := dp_ex ok4.ss _ _ h4
    obtain ⟨ys, hys, hmem, hyl⟩ := pu.now
    refine s_ret ok4.sh (ev_is (ev_andV (ev_isN (b := true) (ev_call (ι := { p : Bool × List A // p.2.length ≤ 100 }) ⟨(false, as), by show as.length ≤ 100; omega⟩ (ead_cons (ev_ixT (j := 2) (ev_varD rfl h5) ev_int rfl) ead_nil)) fun S1 x hx => ?_) fun _ => ev_allLc (fun _ => true) (fun _ => true) (ei_tup (ev_ixT (j := 1) (ev_varD rfl h5) ev_int rfl)) (by rw [List.length_map]; omega) fun y S5 x hy ex pz => ?_) ?_) fun w' S5 H5 ok5 p => k w' S5 H5 ((((ok1.trans ok2).trans ok3).trans ok4).trans ok5) p
    · cases hx; exact decide_eq_true rfl
    · obtain ⟨n, hn, rfl⟩ := List.mem_map.mp hy
      refine ⟨_, eg_name, rfl, et_B (call_is_name (hx n hn) (ev_var rfl pz)), fun _ => ev_is (ev_uInL (ev_var rfl pz) (ev_varD rfl (dp_ex ex _ _ hys)) (by rw [dall_str]; exact Nat.zero_le _)) ?_⟩
      have hne : as ≠ [] := fun e => by rw [e] at z; cases z
      have : n ∈ ys := (hmem n).mpr (hin.resolve_left hne n hn)
      congr 1
      exact List.any_eq_true.mpr ⟨.str n, List.mem_map_of_mem this, eqv_refl_str n⟩
    · rw [z]; simp
def sp_is_union_of (K : PySem.W.Frag) : Sp := SpOf (ι := Qi) (fun i => AreD K [qD i.1.1 i.1.2]) (fun i => IsD K (.bool false))
theorem pure_is_union_of : ∀ vs H Q E, sp_is_union_of K vs H Q E → t_is_union_of P w K (sp_is_row K) { nx := fun _ H' => Q .non H', rt := Q } (start N_is_union_of vs) H := pure_of fun i S H vs e h D k _ => by
  obtain ⟨v, rfl, h1⟩ := dps1 h
  have h1 : Dp K S v (.tuple [.str "ask", .tuple (i.1.1.map .str), .tuple (i.1.2.map aD)]) := h1
  refine q_guard (b := true) e (et_is (et_or (a := true) (b := false) (et_is (et_not (et_B (ev_call (ι := List PyData × Nat) (_, 2) (ead_cons (ev_varD rfl h1) (ead_cons ev_int ead_nil))))) rfl) fun z => by cases z) rfl) (fun _ S2 H2 ok2 => ?_) fun z => by cases z
  exact s_ret ok2.sh (ev_bl (K := K)) fun u S3 H3 ok3 p => k u S3 H3 (ok2.trans ok3) p
end
end K68


set_option Elab.async false
set_option linter.all false
set_option maxRecDepth 100000
set_option maxHeartbeats 4000000
/-! K68B: the search for maps. -/
namespace K68
open PySem L2 DL PySem.Spec PyProof.Rows
/-! ### the mirror -/
def kD (l : List NestedKey) : PyData := (NestedKey.tup l).data
def aK (a : A) : List NestedKey := [.text "Road", .tup [.text a.1, .text a.2]]
theorem kD_aK (a : A) : kD (aK a) = aD a := rfl
def dedupK : List (List NestedKey) → List (List NestedKey) → List (List NestedKey)
  | acc, [] => acc
  | acc, k :: ks => dedupK (if k ∈ acc then acc else acc ++ [k]) ks
theorem dedup_nodup : ∀ (ks acc : List (List NestedKey)), (acc ++ ks).Nodup → dedupK acc ks = acc ++ ks
  | [], acc, _ => by rw [List.append_nil]; rfl
  | k :: ks, acc, h => by
    have hk : k ∉ acc := fun hm => by
      have := List.nodup_append.mp h
      exact this.2.2 k hm k List.mem_cons_self rfl
    show dedupK (if k ∈ acc then acc else acc ++ [k]) ks = _
    rw [if_neg hk, dedup_nodup ks (acc ++ [k]) (by rw [List.append_assoc]; exact h), List.append_assoc]
    rfl
def agreeM : List (Str × Str) → Led → Option Led
  | [], m => some m
  | p :: r, m => match m.lookup p.1 with
    | none => agreeM r (m ++ [p])
    | some z => if z = p.2 then agreeM r m else none
def ledM : List A → List A → Led → Option Led
  | [], _, m => some m
  | a :: as, goals, m => goals.findSome? fun g => (agreeM [(a.1, g.1), (a.2, g.2)] m).bind (ledM as goals)
def OptLed (o : Option Led) : Hp → V → Prop := fun S v => match o with
  | none => v = .non
  | some m => IsLed m S v
def img (m : Led) (t : Str) : Str := (m.lookup t).getD ""
section
variable {P : Program} {w : World} {K : PySem.W.Frag} {S S' : Hp} {v : V}
theorem perOpt {o : Option Led} (h : OptLed o S v) : Per (OptLed o) S v := fun S1 e => by
  cases o with
  | none => exact h
  | some m => exact perLed h S1 e
/-! ### unlike_ones -/
abbrev Ui := { p : Bool × List (List NestedKey) // (∀ k ∈ p.2, (NestedKey.tup k).depth ≤ 8) ∧ p.2.length ≤ 1000 }
def seqD (b : Bool) (ds : List PyData) : PyData := if b = true then .list ds else .tuple ds
def sp_unlike_ones (K : PySem.W.Frag) : Sp := SpOf (ι := Ui) (fun i => AreD K [seqD i.1.1 (i.1.2.map kD)]) (fun i => IsD K (.list ((dedupK [] i.1.2).map kD)))
theorem ei_seqD {σ : L2.St} {S : Hp} {b : Bool} {ds : List PyData} {i : Nat} {v : V} (hv : σ[i]? = some (some v)) (h : Dp K S v (seqD b ds)) : EvI (iOr (iList K (tVar i)) (iTup K (tVar i))) σ S ds (DL.IsD K) := by
  cases b with
  | true => exact ei_inl (ei_list (ev_varD hv h))
  | false => exact ei_inr (ei_tup (ev_varD hv h))
theorem keys_ex {ks : List (NestedKey × Addr)} (e : Ex S S') (h : KeysAt K S ks) : KeysAt K S' ks := fun x hx => ⟨dp_ex e _ _ (h x hx).1, (h x hx).2⟩
theorem keys_dps : ∀ {ks : List (NestedKey × Addr)} {ls : List (List NestedKey)}, KeysAt K S ks → ks.map (·.1) = ls.map NestedKey.tup → DpAll K S (ks.map fun x => V.ref x.2) (ls.map kD)
  | [], [], _, _ => .nil
  | [], _ :: _, _, h => by cases h
  | _ :: _, [], _, h => by cases h
  | x :: ks, l :: ls, h, e => by
    rw [List.map_cons, List.map_cons] at e
    injection e with e1 e2
    rw [List.map_cons, List.map_cons]
    refine .cons ?_ (keys_dps (fun y hy => h y (List.mem_cons_of_mem _ hy)) e2)
    have := (h x List.mem_cons_self).1
    rw [e1] at this
    exact this
theorem tup_mem {l : List NestedKey} {ls : List (List NestedKey)} : NestedKey.tup l ∈ ls.map NestedKey.tup ↔ l ∈ ls := by
  rw [List.mem_map]
  constructor
  · rintro ⟨x, hx, e⟩
    injection e with e
    rw [← e]; exact hx
  · exact fun h => ⟨l, h, rfl⟩
theorem dedupK_take (ks acc : List (List NestedKey)) (i : Nat) (k : List NestedKey) (h : ks[i]? = some k) : dedupK acc (ks.take (i + 1)) = (if k ∈ dedupK acc (ks.take i) then dedupK acc (ks.take i) else dedupK acc (ks.take i) ++ [k]) := by
  induction ks generalizing acc i with
  | nil => simp at h
  | cons x r ih =>
    cases i with
    | zero =>
      have e : x = k := by simpa using h
      subst e
      rfl
    | succ i => exact ih _ i (by simpa using h)
theorem dedup_len (ks acc : List (List NestedKey)) : (dedupK acc ks).length ≤ acc.length + ks.length := by
  induction ks generalizing acc with
  | nil => exact Nat.le_refl _
  | cons x r ih =>
    refine Nat.le_trans (ih _) ?_
    rw [List.length_cons]
    split
    · omega
    · rw [List.length_append, List.length_singleton]; omega
theorem pure_unlike_ones : ∀ vs H Q E, sp_unlike_ones K vs H Q E → t_unlike_ones P w K { nx := fun _ H' => Q .non H', rt := Q } (start N_unlike_ones vs) H := pure_of fun i S H vs e h D k _ => by
  obtain ⟨⟨b, ks⟩, hd, hn⟩ := i
  obtain ⟨v, rfl, h1⟩ := dps1 h
  simp only at h1 hd hn
  intro l hl
  have ok1 : Ok S H S (upd H l (DN P w l [])) := (Ok.refl e).newH hl
  refine q_for (σ := [some v, some (.ref l), none]) ok1 (ei_seqD rfl h1) (fun i σ' S' H' => ∃ x ks', σ' = [some v, some (.ref l), x] ∧ S' l = none ∧ H' l = some (DN P w l ks') ∧ KeysAt K S' ks' ∧ ks'.map (·.1) = (dedupK [] (ks.take i)).map NestedKey.tup) (fun S3 H3 ok3 => ⟨none, [], rfl, ok3.av l _ (none_of e hl) upd_same, ok3.hh l _ upd_same, (fun _ hx => nomatch hx), rfl⟩) ?_ ?_
  · rintro S3 ex3 i y x σ' S4 H4 S5 H5 hy lo ⟨z, ks', rfl, q1, q2, q3, q4⟩ ok5 pz
    rw [List.getElem?_map] at hy
    obtain ⟨key, hk, rfl⟩ := Option.map_eq_some_iff.mp hy
    obtain ⟨a, ws, rfl, hs, hw⟩ := dp_tuple.mp (show Dp K S5 x (.tuple (NestedKey.datas key)) from pz.now)
    have hkl : ks'.length ≤ ks.length := by
      have := congrArg List.length q4
      rw [List.length_map, List.length_map] at this
      have h2 := dedup_len (ks.take i) []
      rw [List.length_take] at h2
      rw [this]
      show _ ≤ _
      have h3 : ([] : List (List NestedKey)).length = 0 := rfl
      omega
    have ka : KeysAt K S5 ks' := keys_ex ok5.ss q3
    refine ⟨.ref l, rfl, .ref a, rfl, l, ks', .tup key, a, rfl, rfl, ok5.hh l _ q2, Evl.sz_lt (by omega), keys_ex ok5.sh ka, dp_ex ok5.sh _ _ pz.now, hd key (List.mem_of_getElem? hk), ?_⟩
    refine ⟨S5, ⟨(lo.ok.trans ok5).mut hl (ok5.av l _ q1 q2), lo.ex.trans ok5.ss⟩, some (.ref a), addK ks' (.tup key) a, rfl, ok5.av l _ q1 q2, upd_same, ?_, ?_⟩
    · intro y hy
      unfold addK at hy
      split at hy
      · exact ka y hy
      · rcases List.mem_append.mp hy with hy | hy
        · exact ka y hy
        · rw [List.mem_singleton.mp hy]
          exact ⟨pz.now, hd key (List.mem_of_getElem? hk)⟩
    · rw [dedupK_take ks [] i key hk]
      unfold addK
      rw [q4]
      by_cases hm : key ∈ dedupK [] (ks.take i)
      · rw [if_pos hm, if_pos (tup_mem.mpr hm)]; exact q4
      · rw [if_neg hm, if_neg (fun z => hm (tup_mem.mp z)), List.map_append, List.map_append, q4]
        rfl
  · rintro σ' S4 H4 lo ⟨z, ks', rfl, q1, q2, q3, q4⟩
    rw [List.length_map, List.take_length] at q4
    refine ⟨_, rfl, l, ks', rfl, q2, fun l2 hl2 => ?_⟩
    exact k _ _ _ (lo.ok.new hl2) (perD (.lst (SqL.of upd_same) (dps_ex (Evl.Ex.new (none_of lo.ok.sh hl2)) _ _ (keys_dps q3 q4))))
/-! ### questions, members, heads -/
abbrev qL (h : List Str) (as : List A) : List PyData := [.str "ask", .tuple (h.map .str), .tuple (as.map aD)]
theorem qD_eq (h : List Str) (as : List A) : qD h as = .tuple (qL h as) := rfl
def usD (qs : List (List Str × List A)) : PyData := .tuple (qs.map fun q => qD q.1 q.2)
def sp_members_of (K : PySem.W.Frag) : Sp := SpOf (ι := List Str × List A) (fun i => AreD K [qD i.1 i.2]) (fun i => IsD K (usD [i]))
theorem pure_members_of : ∀ vs H Q E, sp_members_of K vs H Q E → t_members_of P w K { nx := fun _ H' => Q .non H', rt := Q } (start N_members_of vs) H := pure_of fun i S H vs e h D k _ => by
  obtain ⟨v, rfl, h1⟩ := dps1 h
  have h1' : Dp K S v (.tuple (qL i.1 i.2)) := h1
  refine s_ret e (ev_if (b := false) (et_is (et_test (ev_uEq (ev_ixT (j := 0) (ev_varD rfl h1') ev_int rfl) ev_str (Nat.zero_le 60))) (by rw [eqv_str]; decide)) (fun z => by cases z) fun _ => ev_tupD (ead_cons (ev_varD rfl h1) ead_nil) (Nat.le_of_ble_eq_true rfl)) k
def sp_head_length (K : PySem.W.Frag) : Sp := SpOf (ι := List Str × List A) (fun i => AreD K [qD i.1 i.2]) (fun i => IsD K (.int (i.1.length : Int)))
theorem pure_head_length : ∀ vs H Q E, sp_head_length K vs H Q E → t_head_length P w K (sp_members_of K) { nx := fun _ H' => Q .non H', rt := Q } (start N_head_length vs) H := pure_of fun i S H vs e h D k _ => by
  obtain ⟨v, rfl, h1⟩ := dps1 h
  refine s_ret e (ev_is (ev_lenT (ead_cons (ev_ixT (j := 1) (ev_ixT (j := 0) (ds := [.tuple (qL i.1 i.2)]) (ev_call (ι := List Str × List A) i (ead_cons (ev_varD rfl h1) ead_nil)) ev_int rfl) ev_int rfl) ead_nil)) ?_) k
  rw [List.length_map]
def sp_atoms_in (K : PySem.W.Frag) : Sp := SpOf (ι := { qs : List (List Str × List A) // qs.length ≤ 4 ∧ ∀ q ∈ qs, q.2.length ≤ 6 }) (fun i => AreD K [usD i.1]) (fun i => IsD K (.list ((i.1.flatMap (·.2)).map aD)))
theorem atoms_len : ∀ (qs : List (List Str × List A)), (∀ q ∈ qs, q.2.length ≤ 6) → (qs.flatMap (·.2)).length ≤ 6 * qs.length
  | [], _ => Nat.le_refl _
  | q :: qs, h => by
    have h1 := h q List.mem_cons_self
    have h2 := atoms_len qs fun x hx => h x (List.mem_cons_of_mem _ hx)
    rw [List.flatMap_cons, List.length_append, List.length_cons]
    omega
theorem pure_atoms_in : ∀ vs H Q E, sp_atoms_in K vs H Q E → t_atoms_in P w K { nx := fun _ H' => Q .non H', rt := Q } (start N_atoms_in vs) H := pure_of fun i S H vs e h D k _ => by
  obtain ⟨qs, hn, hq⟩ := i
  obtain ⟨v, rfl, h1⟩ := dps1 h
  simp only at h1
  refine q_setL (R := AreD K []) e el_nil fun l S1 H1 ws ok1 h0 hS hH pw _ => ?_
  have hw : ws = [] := by have := pw.now; cases this; rfl
  subst hw
  refine q_for (σ := [some v, some (.ref l), none]) ok1 (ei_tup (ev_varD rfl (dp_ex ok1.ss _ _ h1))) (fun i σ' S' H' => ∃ t us, σ' = [some v, some (.ref l), t] ∧ S' l = none ∧ H' l = some (.lst us) ∧ DpAll K S' us (((qs.take i).flatMap (·.2)).map aD)) (fun S3 H3 ok3 => ⟨none, [], rfl, ok3.av l _ hS hH, ok3.hh l _ hH, .nil⟩) ?_ ?_
  · rintro S3 ex3 i y x σ' S4 H4 S5 H5 hy lo ⟨t, us, rfl, q1, q2, q3⟩ ok5 pz
    rw [List.getElem?_map] at hy
    obtain ⟨q, ha, rfl⟩ := Option.map_eq_some_iff.mp hy
    have pq : Dp K S5 x (.tuple (qL q.1 q.2)) := pz.now
    have hl1 : us.length ≤ 100 := by
      rw [dps_len q3, List.length_map]
      have h2 := atoms_len (qs.take i) fun z hz => hq z (List.mem_of_mem_take hz)
      rw [List.length_take] at h2
      omega
    refine eg_name H5 ok5.sh _ (s_extend (σ := [some v, some (.ref l), some x]) (R := AreD K (q.2.map aD)) ok5.sh rfl (ok5.av l _ q1 q2) (ok5.hh l _ q2) (by omega) (el_listOf ((ea1 (ev_ixT (j := 2) (ev_varD rfl pq) ev_int rfl)).imp fun S1 vs ⟨v, r, e1, e2, e3⟩ => ⟨v, by rw [e1, e3], .inr e2⟩) (by rw [List.length_map]; have := hq q (List.mem_of_getElem? ha); omega)) fun ws S6 H6 ok6 r1 r2 pws => ?_)
    refine ⟨S6, ⟨((lo.ok.trans ok5).trans ok6).mut h0 r1, lo.ex.trans (ok5.ss.trans ok6.ss)⟩, some x, us ++ ws, rfl, r1, upd_same, ?_⟩
    rw [List.take_add_one, ha]
    show DpAll K S6 (us ++ ws) (((qs.take i ++ [q]).flatMap (·.2)).map aD)
    rw [List.flatMap_append, List.map_append]
    refine dps_append (dps_ex (ok5.ss.trans ok6.ss) _ _ q3) ?_
    have : [q].flatMap (·.2) = q.2 := by simp
    rw [this]
    exact pws.now
  · rintro σ' S4 H4 lo ⟨t, us, rfl, q1, q2, q3⟩
    rw [List.length_map, List.take_length] at q3
    have okf := lo.ok.freeze h0 q1 q2
    exact s_ret okf.sh (ev_varD rfl (.lst (SqL.of upd_same) (dps_ex (Evl.Ex.new q1) _ _ q3))) fun u S5 H5 ok5 p => k u S5 H5 (okf.trans ok5) p
/-! ### led -/
def sp_led_terms (K : PySem.W.Frag) : Sp := SpOf (ι := { p : List Str × Led // (∀ t ∈ p.1, t ∈ NAMES ∧ (p.2.lookup t).isSome = true) ∧ p.1.length ≤ 100 })
  (fun i S vs => ∃ v u, vs = [v, u] ∧ Dp K S v (.tuple (i.1.1.map .str)) ∧ IsLed i.1.2 S u) (fun i => IsD K (.tuple ((i.1.1.map (img i.1.2)).map .str)))
theorem pure_led_terms : ∀ vs H Q E, sp_led_terms K vs H Q E → t_led_terms P w K (sp_is_name K) { nx := fun _ H' => Q .non H', rt := Q } (start N_led_terms vs) H := pure_of fun i S H vs e h D k _ => by
  obtain ⟨⟨ts, m⟩, ht, hn⟩ := i
  obtain ⟨v, u, rfl, h1, h2⟩ := h
  simp only at h1 h2 ht hn
  refine s_ret e (ev_is (ev_tupL (el_lcY (fun d => match d with | .str x => .str (img m x) | _ => .none) (ei_tup (ev_varD rfl h1)) (by rw [List.length_map]; omega) fun y S1 x hy ex pz => ?_)) ?_) k
  · obtain ⟨t, htm, rfl⟩ := List.mem_map.mp hy
    obtain ⟨g1, g2⟩ := ht t htm
    obtain ⟨z, hz⟩ := Option.isSome_iff_exists.mp g2
    refine ⟨_, eg_name, rfl, ev_if (b := true) (et_B (call_is_name g1 (ev_var rfl pz))) (fun _ => ev_is (ev_dget (ev_var rfl (perLed h2 |>.ex ex)) (ev_var rfl pz) hz) ?_) fun z => by cases z⟩
    show PyData.str z = .str (img m t)
    unfold img
    rw [hz]
    rfl
  · congr 1
    rw [List.map_map, List.map_map]
    rfl
def imgA (m : Led) (a : A) : A := (img m a.1, img m a.2)
def Covers (m : Led) (as : List A) : Prop := ∀ a ∈ as, (m.lookup a.1).isSome = true ∧ (m.lookup a.2).isSome = true
def sp_led_atoms (K : PySem.W.Frag) : Sp := SpOf (ι := { p : (List Str × List A) × Led // (∀ a ∈ p.1.2, OkA a) ∧ Covers p.2 p.1.2 ∧ p.1.2.length ≤ 100 })
  (fun i S vs => ∃ v u, vs = [v, u] ∧ Dp K S v (qD i.1.1.1 i.1.1.2) ∧ IsLed i.1.2 S u) (fun i => IsD K (.list ((i.1.1.2.map (imgA i.1.2)).map aD)))
theorem pure_led_atoms : ∀ vs H Q E, sp_led_atoms K vs H Q E → t_led_atoms P w K (sp_led_terms K) { nx := fun _ H' => Q .non H', rt := Q } (start N_led_atoms vs) H := pure_of fun i S H vs e h D k _ => by
  obtain ⟨⟨⟨hd, as⟩, m⟩, hok, hc, hn⟩ := i
  obtain ⟨v, u, rfl, h1, h2⟩ := h
  simp only at h1 h2 hok hc hn
  have h1' : Dp K S v (.tuple (qL hd as)) := h1
  refine s_ret e (ev_is (EvL.evD (el_lcY (fun d => match d with | .tuple [_, .tuple [.str x, .str y]] => aD (imgA m (x, y)) | _ => .none) (ei_tup (ev_ixT (j := 2) (ev_varD rfl h1') ev_int rfl)) (by rw [List.length_map]; omega) fun y S1 x hy ex pz => ?_)) ?_) k
  · obtain ⟨a, ha, rfl⟩ := List.mem_map.mp hy
    obtain ⟨c1, c2⟩ := hc a ha
    obtain ⟨o1, o2⟩ := hok a ha
    obtain ⟨t', u', eg, ht, hu⟩ := eg2 (K := K) (σ := [some v, some u, none, none]) (i := 2) (j := 3) (show Dp K S1 x (.tuple [.str "Road", .tuple [.str a.1, .str a.2]]) from pz.now)
    refine ⟨_, eg, rfl, ev_tupD (ead_cons (ev_varD rfl ht) (ead_cons (ev_call (ι := { p : List Str × Led // (∀ t ∈ p.1, t ∈ NAMES ∧ (p.2.lookup t).isSome = true) ∧ p.1.length ≤ 100 }) ⟨([a.1, a.2], m), fun t htm => ?_, Nat.le_of_ble_eq_true rfl⟩ ((ea2 (ev_varD rfl hu) (ev_var rfl ((perLed h2).ex ex))).imp fun S2 vs ⟨v1, r1, e1, e2, v2, r2, e3, e4, e5⟩ => ⟨v1, v2, by rw [e1, e3, e5], e2, e4⟩)) ead_nil)) (Nat.le_of_ble_eq_true rfl)⟩
    rcases List.mem_cons.mp htm with rfl | htm
    · exact ⟨o1, c1⟩
    · rw [List.mem_singleton.mp htm]; exact ⟨o2, c2⟩
  · congr 1
    rw [List.map_map, List.map_map]
    rfl
/-! ### wants -/
def sp_want_question (K : PySem.W.Frag) : Sp := SpOf (ι := { p : List Str × List A // QPre p.1 p.2 ∧ p.2 ≠ [] }) (fun i => AreD K [qD i.1.1 i.1.2]) (fun i => IsD K (qD i.1.1 i.1.2))
theorem ne_emp {as : List A} (h : as ≠ []) : (!as.isEmpty) = true := by cases as with | nil => exact absurd rfl h | cons _ _ => rfl
theorem pure_want_question : ∀ vs H Q E, sp_want_question K vs H Q E → t_want_question P w K (sp_is_question_of K) { nx := fun _ H' => Q .non H', rt := Q } (start N_want_question vs) H := pure_of fun i S H vs e h D k _ => by
  obtain ⟨v, rfl, h1⟩ := dps1 h
  refine q_guard (b := false) e (et_is (et_not (et_B (ev_call (ι := Qi) ⟨i.1, i.2.1⟩ (ead_cons (ev_varD rfl h1) ead_nil)))) (by rw [ne_emp i.2.2]; rfl)) (fun z => by cases z) fun _ S2 H2 ok2 => ?_
  exact s_ret ok2.sh (ev_varD rfl (dp_ex ok2.ss _ _ h1)) fun u S3 H3 ok3 p => k u S3 H3 (ok2.trans ok3) p
def sp_want_union (K : PySem.W.Frag) : Sp := sp_want_question K
theorem pure_want_union : ∀ vs H Q E, sp_want_union K vs H Q E → t_want_union P w K (sp_is_question_of K) (sp_is_union_of K) { nx := fun _ H' => Q .non H', rt := Q } (start N_want_union vs) H := pure_of fun i S H vs e h D k _ => by
  obtain ⟨v, rfl, h1⟩ := dps1 h
  refine q_guard (b := false) e (et_is (et_and (et_not (et_B (ev_call (ι := Qi) ⟨i.1, i.2.1⟩ (ead_cons (ev_varD rfl h1) ead_nil)))) fun _ => et_not (et_B (ev_call (ι := Qi) ⟨i.1, i.2.1⟩ (ead_cons (ev_varD rfl h1) ead_nil)))) (by rw [ne_emp i.2.2]; rfl)) (fun z => by cases z) fun _ S2 H2 ok2 => ?_
  exact s_ret ok2.sh (ev_varD rfl (dp_ex ok2.ss _ _ h1)) fun u S3 H3 ok3 p => k u S3 H3 (ok2.trans ok3) p
/-! ### agreed -/
theorem agree_drop {ps : List (Str × Str)} {i : Nat} {p : Str × Str} (h : ps[i]? = some p) : ps.drop i = p :: ps.drop (i + 1) := by
  obtain ⟨hl, he⟩ := List.getElem?_eq_some_iff.mp h
  rw [List.drop_eq_getElem_cons hl, he]
def sp_agreed (K : PySem.W.Frag) : Sp := SpOf (ι := { p : List Str × List Str × Led // (∀ t ∈ p.1, t ∈ NAMES) ∧ p.1.length ≤ 10 ∧ p.2.2.length ≤ 200 })
  (fun i S vs => ∃ v u t, vs = [v, u, t] ∧ Dp K S v (.tuple (i.1.1.map .str)) ∧ Dp K S u (.tuple (i.1.2.1.map .str)) ∧ IsLed i.1.2.2 S t) (fun i => OptLed (agreeM (i.1.1.zip i.1.2.1) i.1.2.2))
theorem pure_agreed : ∀ vs H Q E, sp_agreed K vs H Q E → t_agreed P w K (sp_is_name K) { nx := fun _ H' => Q .non H', rt := Q } (start N_agreed vs) H := pure_of fun i S H vs e h D k _ => by
  obtain ⟨⟨ts, gs, m⟩, ht, hn, hm⟩ := i
  obtain ⟨v, u, t, rfl, h1, h2, h3⟩ := h
  simp only at h1 h2 h3 ht hn hm k
  refine q_setF e (ef_copy (ea1 (ev_var rfl (perLed h3)))) fun l S1 H1 ok1 h0 hS hH => ?_
  have zm : (ts.map PyData.str).zip (gs.map PyData.str) = (ts.zip gs).map fun p => (PyData.str p.1, PyData.str p.2) := by rw [List.zip_map]; rfl
  have hz : (ts.zip gs).length ≤ ts.length := by rw [List.length_zip]; exact Nat.min_le_left _ _
  refine q_for (σ := [some v, some u, some t, some (.ref l), none, none]) ok1 (ei_zipT (ead_cons (ev_varD rfl (dp_ex ok1.ss _ _ h1)) (ead_cons (ev_varD rfl (dp_ex ok1.ss _ _ h2)) ead_nil))) (fun i σ' S' H' => ∃ x y m', σ' = [some v, some u, some t, some (.ref l), x, y] ∧ S' l = none ∧ H' l = some (.dK (kvT m')) ∧ m'.length ≤ m.length + i ∧ agreeM ((ts.zip gs).drop i) m' = agreeM (ts.zip gs) m) (fun S3 H3 ok3 => ⟨none, none, m, rfl, ok3.av l _ hS hH, ok3.hh l _ hH, Nat.le_refl _, rfl⟩) ?_ ?_
  · rintro S3 ex3 i y x σ' S4 H4 S5 H5 hy lo ⟨x0, y0, m', rfl, q1, q2, q3, q4⟩ ok5 pz
    rw [zm, List.getElem?_map] at hy
    obtain ⟨p, hp, rfl⟩ := Option.map_eq_some_iff.mp hy
    have hil : i < (ts.zip gs).length := (List.getElem?_eq_some_iff.mp hp).1
    obtain ⟨x1, y1, eg, hx, hy1⟩ := eg2 (σ := [some v, some u, some t, some (.ref l), x0, y0]) (i := 4) (j := 5) (show Dp K S5 x (.tuple [.str p.1, .str p.2]) from pz.now)
    have hpn : p.1 ∈ NAMES := ht p.1 (List.of_mem_zip (a := p.1) (b := p.2) (List.mem_of_getElem? hp)).1
    rw [agree_drop hp] at q4
    refine eg H5 ok5.sh _ (s_if (b := false) ok5.sh (et_is (et_not (et_B (call_is_name hpn (ev_varD rfl hx)))) rfl) (fun z => by cases z) fun _ S6 H6 ok6 => ?_)
    have lo6 := lo.ok.trans (ok5.trans ok6)
    have e6 := lo.ex.trans (ok5.ss.trans ok6.ss)
    have n6 := ok6.av l _ (ok5.av l _ q1 q2) (ok5.hh l _ q2)
    refine setd_ne lo6 h0 rfl n6 (ok6.hh l _ (ok5.hh l _ q2)) (by rw [kvT_len]; omega) (ev_varD rfl (dp_ex ok6.ss _ _ hx)) (ev_varD rfl (dp_ex ok6.ss _ _ hy1)) (ev_varD rfl (dp_ex ok6.ss _ _ hy1)) (Nat.zero_le 60) (fun w hw => ?_) (fun w d0 S7 H7 ok7 ex7 r1 r2 hw hd => ?_) fun z S7 H7 ok7 ex7 r1 r2 pz2 hw => ?_
    · rw [valV_kvT] at hw
      obtain ⟨z, hz, rfl⟩ := Option.map_eq_some_iff.mp hw
      exact ⟨.str z, .str z⟩
    · rw [valV_kvT] at hw
      obtain ⟨z, hz, rfl⟩ := Option.map_eq_some_iff.mp hw
      cases hd
      rw [eqv_str]
      by_cases hzp : z = p.2
      · rw [decide_eq_true hzp]
        refine ⟨S7, ⟨ok7, e6.trans ex7⟩, some x1, some y1, m', rfl, r1, r2, by omega, ?_⟩
        rw [← q4]
        show _ = (match m'.lookup p.1 with | none => _ | some z => if z = p.2 then _ else _)
        rw [hz]
        show _ = if z = p.2 then _ else _
        rw [if_pos hzp]
      · rw [decide_eq_false hzp]
        refine s_ret ok7.sh (ev_non (K := K)) fun w2 S8 H8 ok8 p8 => k w2 S8 H8 (ok7.trans ok8) ?_
        have : agreeM (ts.zip gs) m = none := by
          rw [← q4]
          show (match m'.lookup p.1 with | none => _ | some z => if z = p.2 then _ else _) = none
          rw [hz]
          exact if_neg hzp
        rw [this]
        exact p8.imp fun S1 v hv => by cases hv; rfl
    · rw [valV_kvT, Option.map_eq_none_iff] at hw
      have ez := pz2.now
      cases ez
      rw [eqv_refl_str]
      refine ⟨S7, ⟨ok7, e6.trans ex7⟩, some x1, some y1, m' ++ [p], rfl, r1, ?_, ?_, ?_⟩
      · rw [r2, put_new hw]
      · rw [List.length_append, List.length_singleton]; omega
      · rw [← q4]
        show _ = (match m'.lookup p.1 with | none => _ | some z => if z = p.2 then _ else _)
        rw [hw]
  · rintro σ' S4 H4 lo ⟨x0, y0, m', rfl, q1, q2, q3, q4⟩
    rw [zm, List.length_map, List.drop_length] at q4
    have okf := lo.ok.freeze h0 q1 q2
    refine s_ret okf.sh (ev_var rfl (perLed (m := m') ⟨l, rfl, upd_same⟩)) fun w2 S5 H5 ok5 p5 => k w2 S5 H5 (okf.trans ok5) ?_
    rw [← q4]
    exact p5
end
end K68


set_option Elab.async false
set_option linter.all false
set_option maxRecDepth 100000
set_option maxHeartbeats 4000000
/-! K68C: the search for maps, further. -/
namespace K68
open PySem L2 DL PySem.Spec PyProof.Rows
section
variable {P : Program} {w : World} {K : PySem.W.Frag} {S S' H H' : Hp} {v : V} {σ : L2.St} {te : TE}
theorem optN {o : Option Led} : ∀ S1 x, OptLed o S1 x → (!decide (x = V.non)) = o.isSome := fun S1 x h => by
  cases o with
  | none => have h : x = .non := h; subst h; rfl
  | some m => obtain ⟨a, rfl, _⟩ := (show IsLed m S1 x from h); rfl
theorem optI {o : Option Led} : ∀ S1 x, OptLed o S1 x → decide (x = V.non) = o.isNone := fun S1 x h => by
  cases o with
  | none => have h : x = .non := h; subst h; rfl
  | some m => obtain ⟨a, rfl, _⟩ := (show IsLed m S1 x from h); rfl
theorem none_bind {α β : Type} {o : Option α} {f : α → Option β} (z : o.isSome = false) : o.bind f = none := by cases o with | none => rfl | some _ => cases z
theorem not_some {α : Type} {o : Option α} (z : o.isSome = false) : o = none := by cases o with | none => rfl | some _ => cases z
theorem ev_none (o : Option Led) (h : o = none) : Ev (tC .non) σ S (OptLed o) := by subst h; exact ev_c (fun _ _ => rfl)
theorem agree_len : ∀ {ps : List (Str × Str)} {m m' : Led}, agreeM ps m = some m' → m'.length ≤ m.length + ps.length
  | [], m, m', h => by have : m = m' := Option.some.inj h; subst this; exact Nat.le_refl _
  | p :: r, m, m', h => by
    have h : (match m.lookup p.1 with | none => agreeM r (m ++ [p]) | some z => if z = p.2 then agreeM r m else none) = some m' := h
    rw [List.length_cons]
    cases hl : m.lookup p.1 with
    | none =>
      rw [hl] at h
      have := agree_len h
      rw [List.length_append, List.length_singleton] at this
      omega
    | some z =>
      rw [hl] at h
      have h : (if z = p.2 then agreeM r m else none) = some m' := h
      split at h
      · have := agree_len h; omega
      · cases h
theorem eqv_emp (xs : List PyData) : PyData.eqv (.list xs) (.list []) = xs.isEmpty := by cases xs <;> simp [PyData.eqv, PyData.eqvAll]
abbrev Li (j : Nat) := { p : List A × List A × Led // p.1.length < j ∧ (∀ a ∈ p.1, OkA a) ∧ p.2.1.length ≤ 100 ∧ p.2.2.length + 2 * p.1.length ≤ 200 }
def sp_led_into (K : PySem.W.Frag) (j : Nat) : Sp := SpOf (ι := Li j)
  (fun i S vs => ∃ v u t, vs = [v, u, t] ∧ Dp K S v (.list (i.1.1.map aD)) ∧ Dp K S u (.list (i.1.2.1.map aD)) ∧ IsLed i.1.2.2 S t) (fun i => OptLed (ledM i.1.1 i.1.2.1 i.1.2.2))
theorem call_agreed {t1 t2 t3 : TE} {ts gs : List Str} {m : Led} (ht : ∀ t ∈ ts, t ∈ NAMES) (hn : ts.length ≤ 10) (hm : m.length ≤ 200) (h1 : Ev t1 σ S (DL.IsD K (.tuple (ts.map .str)))) (h2 : Ev t2 σ S (DL.IsD K (.tuple (gs.map .str)))) (h3 : Ev t3 σ S (IsLed m)) :
    Ev (tCall (sp_agreed K) [] E0 (tCons t1 (tCons t2 (tCons t3 tNil)))) σ S (OptLed (agreeM (ts.zip gs) m)) :=
  ev_call (ι := { p : List Str × List Str × Led // (∀ t ∈ p.1, t ∈ NAMES) ∧ p.1.length ≤ 10 ∧ p.2.2.length ≤ 200 }) ⟨(ts, gs, m), ht, hn, hm⟩ ((ea3 h1 h2 h3).imp fun S2 vs ⟨v1, r1, e1, e2, v2, r2, e3, e4, v3, r3, e5, e6, e7⟩ => ⟨v1, v2, v3, by rw [e1, e3, e5, e7], e2, e4, e6⟩)
theorem call_led_into {j : Nat} {t1 t2 t3 : TE} {as gs : List A} {m : Led} (hj : as.length < j) (hok : ∀ a ∈ as, OkA a) (hg : gs.length ≤ 100) (hm : m.length + 2 * as.length ≤ 200) (h1 : Ev t1 σ S (DL.IsD K (.list (as.map aD)))) (h2 : Ev t2 σ S (DL.IsD K (.list (gs.map aD)))) (h3 : Ev t3 σ S (IsLed m)) :
    Ev (tCall (sp_led_into K j) [] E0 (tCons t1 (tCons t2 (tCons t3 tNil)))) σ S (OptLed (ledM as gs m)) :=
  ev_call (ι := Li j) ⟨(as, gs, m), hj, hok, hg, hm⟩ ((ea3 h1 h2 h3).imp fun S2 vs ⟨v1, r1, e1, e2, v2, r2, e3, e4, v3, r3, e5, e6, e7⟩ => ⟨v1, v2, v3, by rw [e1, e3, e5, e7], e2, e4, e6⟩)
theorem fs_take {α β : Type} {f : α → Option β} {xs : List α} {i : Nat} {x : α} (h : xs[i]? = some x) (h0 : (xs.take i).findSome? f = none) : xs.findSome? f = (f x).or ((xs.drop (i + 1)).findSome? f) := by
  obtain ⟨hl, he⟩ := List.getElem?_eq_some_iff.mp h
  have e : xs = xs.take i ++ x :: xs.drop (i + 1) := by
    have := List.take_append_drop i xs
    rw [List.drop_eq_getElem_cons hl, he] at this
    exact this.symm
  rw [e, List.findSome?_append, h0, Option.none_or, List.findSome?_cons, ← e]
  cases f x <;> rfl
theorem fs_take_succ {α β : Type} {f : α → Option β} {xs : List α} {i : Nat} {x : α} (h : xs[i]? = some x) (h0 : (xs.take i).findSome? f = none) (hx : f x = none) : (xs.take (i + 1)).findSome? f = none := by
  rw [List.take_add_one, h, List.findSome?_append, h0, Option.none_or]
  show (x :: []).findSome? f = none
  rw [List.findSome?_cons, hx]
  rfl
theorem pure_led_into (j : Nat) : ∀ vs H Q E, sp_led_into K (j + 1) vs H Q E → t_led_into P w K (sp_agreed K) (sp_led_into K j) { nx := fun _ H' => Q .non H', rt := Q } (start N_led_into vs) H := pure_of fun i S H vs e h D k _ => by
  obtain ⟨⟨as, gs, m⟩, hj, hok, hg, hm⟩ := i
  obtain ⟨v, u, t, rfl, h1, h2, h3⟩ := h
  simp only at h1 h2 h3 hj hok hg hm k
  refine q_guard (b := (as.map aD).isEmpty) e (et_is (et_test (ev_uEq (ev_varD rfl h1) el_nil.evD (by show min _ 1 ≤ 60; omega))) (eqv_emp _)) (fun z S2 H2 ok2 => ?_) fun z S1 H1 ok1 => ?_
  · have : as = [] := by cases as with | nil => rfl | cons _ _ => cases z
    subst this
    exact s_ret ok2.sh (ev_var (P := OptLed (some m)) rfl ((perLed h3).ex ok2.ss)) fun u S3 H3 ok3 p => k u S3 H3 (ok2.trans ok3) p
  · cases as with
    | nil => cases z
    | cons a ar =>
      have h1 : Dp K S v (.list (aD a :: ar.map aD)) := h1
      have hm' : m.length + 2 * (ar.length + 1) ≤ 200 := hm
      have hj' : ar.length + 1 < j + 1 := hj
      refine q_tgt (σ2 := []) ok1.sh (ev_ixL (j := 0) (ev_varD rfl (dp_ex ok1.ss _ _ h1)) ev_int rfl) fun x S2 H2 ok2 px => ?_
      obtain ⟨tb, tm, eg, htb, htm⟩ := eg2 (σ := [some v, some u, some t, none, none, none, none, none, none]) (i := 3) (j := 4) (show Dp K S2 x (.tuple [.str "Road", .tuple [.str a.1, .str a.2]]) from px.now)
      have htm : Dp K S2 tm (.tuple ([a.1, a.2].map .str)) := htm
      refine ⟨_, eg, ?_⟩
      have ok12 := ok1.trans ok2
      refine q_for (σ := [some v, some u, some t, some tb, some tm, none, none, none, none]) ok12 (ei_list (ev_varD rfl (dp_ex ok12.ss _ _ h2))) (fun i σ' S' H' => (∃ x1 x2 x3 x4, σ' = [some v, some u, some t, some tb, some tm, x1, x2, x3, x4]) ∧ (gs.take i).findSome? (fun g => (agreeM [(a.1, g.1), (a.2, g.2)] m).bind (ledM ar gs)) = none) (fun S3 H3 ok3 => ⟨⟨none, none, none, none, rfl⟩, rfl⟩) ?_ ?_
      · rintro S3 ex3 i y x σ' S4 H4 S5 H5 hy lo ⟨⟨x1, x2, x3, x4, rfl⟩, q1⟩ ok5 pz
        rw [List.getElem?_map] at hy
        obtain ⟨g, hg', rfl⟩ := Option.map_eq_some_iff.mp hy
        obtain ⟨y1, y2, eg, hy1, hy2⟩ := eg2 (σ := [some v, some u, some t, some tb, some tm, x1, x2, x3, x4]) (i := 5) (j := 6) (show Dp K S5 x (.tuple [.str "Road", .tuple [.str g.1, .str g.2]]) from pz.now)
        have hy2 : Dp K S5 y2 (.tuple ([g.1, g.2].map .str)) := hy2
        have exx : Ex S S5 := ok12.ss.trans (ex3.trans (lo.ex.trans ok5.ss))
        have ex2 : Ex S2 S5 := ex3.trans (lo.ex.trans ok5.ss)
        have okb := lo.ok.trans ok5
        refine eg H5 ok5.sh _ (s_if (b := true) ok5.sh (et_is (et_test (ev_uEq (ev_varD rfl hy1) (ev_varD rfl (dp_ex ex2 _ _ htb)) (Nat.zero_le 60))) (eqv_refl_str _)) (fun _ S6 H6 ok6 => ?_) fun z => by cases z)
        have ex6 : Ex S S6 := exx.trans ok6.ss
        obtain ⟨o1, o2⟩ := hok a List.mem_cons_self
        refine q_set ok6.sh (call_agreed (ts := [a.1, a.2]) (gs := [g.1, g.2]) (m := m) (fun t ht => ?_) (Nat.le_of_ble_eq_true rfl) (by omega) (ev_varD rfl (dp_ex (ex2.trans ok6.ss) _ _ htm)) (ev_varD rfl (dp_ex ok6.ss _ _ hy2)) (ev_var rfl ((perLed h3).ex ex6))) fun mo S7 H7 ok7 pm => ?_
        · rcases List.mem_cons.mp ht with rfl | ht
          · exact o1
          · rw [List.mem_singleton.mp ht]; exact o2
        have pm : Per (OptLed (agreeM [(a.1, g.1), (a.2, g.2)] m)) S7 mo := pm
        refine q_set (P := OptLed ((agreeM [(a.1, g.1), (a.2, g.2)] m).bind (ledM ar gs))) ok7.sh (ev_if (b := (agreeM [(a.1, g.1), (a.2, g.2)] m).isSome) (et_B (ev_notN (K := K) (ev_var rfl pm) optN)) (fun z => ?_) fun z => ev_none _ (none_bind z)) fun fo S8 H8 ok8 pf => ?_
        · obtain ⟨m', hm2⟩ := Option.isSome_iff_exists.mp z
          rw [hm2] at pm ⊢
          have hl := agree_len hm2
          have hl : m'.length ≤ m.length + 2 := hl
          exact call_led_into (by omega) (fun b hb => hok b (List.mem_cons_of_mem _ hb)) hg (by omega) (EvL.evD (el_from1 (ev_varD rfl (dp_ex (ex6.trans ok7.ss) _ _ h1)) (by rw [List.length_cons, List.length_map]; omega))) (ev_varD rfl (dp_ex (ex6.trans ok7.ss) _ _ h2)) (ev_var rfl pm)
        have okc := ((okb.trans ok6).trans ok7).trans ok8
        refine s_if (b := ((agreeM [(a.1, g.1), (a.2, g.2)] m).bind (ledM ar gs)).isSome) ok8.sh (et_B (ev_notN (K := K) (ev_var rfl pf) optN)) (fun z S9 H9 ok9 => ?_) fun z S9 H9 ok9 => ?_
        · refine s_ret ok9.sh (ev_var rfl (pf.ex ok9.ss)) fun r Sa Ha oka pa => k r Sa Ha ((okc.trans ok9).trans oka) ?_
          have e1 : ledM (a :: ar) gs m = (agreeM [(a.1, g.1), (a.2, g.2)] m).bind (ledM ar gs) := by
            have := fs_take (f := fun g => (agreeM [(a.1, g.1), (a.2, g.2)] m).bind (ledM ar gs)) hg' q1
            show gs.findSome? (fun g => (agreeM [(a.1, g.1), (a.2, g.2)] m).bind (ledM ar gs)) = _
            rw [this]
            obtain ⟨r, hr⟩ := Option.isSome_iff_exists.mp z
            show ((agreeM [(a.1, g.1), (a.2, g.2)] m).bind (ledM ar gs)).or _ = _
            rw [hr]
            rfl
          rw [e1]
          exact pa
        · refine ⟨S9, ⟨okc.trans ok9, lo.ex.trans (ok5.ss.trans (ok6.ss.trans (ok7.ss.trans (ok8.ss.trans ok9.ss))))⟩, ⟨_, _, _, _, rfl⟩, fs_take_succ hg' q1 (not_some z)⟩
      · rintro σ' S4 H4 lo ⟨⟨x1, x2, x3, x4, rfl⟩, q1⟩
        rw [List.length_map, List.take_length] at q1
        have e1 : ledM (a :: ar) gs m = none := q1
        exact s_ret lo.ok.sh (ev_none (ledM (a :: ar) gs m) e1) fun r Sa Ha oka pa => k r Sa Ha (lo.ok.trans oka) pa
end
end K68


set_option Elab.async false
set_option linter.all false
set_option maxRecDepth 100000
set_option maxHeartbeats 4000000
/-! K68M: the plain law of the search for maps. -/
namespace K68
open PySem L2 DL PySem.Spec PyProof.Rows
def Fits (f : Str → Str) (m : Led) : Prop := ∀ x y, m.lookup x = some y → f x = y
def Sub (m m' : Led) : Prop := ∀ x y, m.lookup x = some y → m'.lookup x = some y
theorem Sub.refl (m : Led) : Sub m m := fun _ _ h => h
theorem Sub.trans {a b c : Led} (h : Sub a b) (k : Sub b c) : Sub a c := fun x y q => k x y (h x y q)
theorem lookup_snoc (m : Led) (p : Str × Str) (x : Str) : (m ++ [p]).lookup x = (m.lookup x).or (if x = p.1 then some p.2 else none) := by
  induction m with
  | nil =>
    obtain ⟨a, b⟩ := p
    show List.lookup x [(a, b)] = _
    by_cases h : x = a
    · subst h; simp [List.lookup]
    · have : (x == a) = false := by rw [beq_eq_false_iff_ne]; exact h
      simp [List.lookup, this, h]
  | cons q m ih =>
    obtain ⟨a, b⟩ := q
    rw [List.cons_append]
    by_cases h : x = a
    · subst h; simp [List.lookup]
    · have : (x == a) = false := by rw [beq_eq_false_iff_ne]; exact h
      simp only [List.lookup, this]
      exact ih
theorem agree_sound : ∀ {ps : List (Str × Str)} {m m' : Led}, agreeM ps m = some m' → Sub m m' ∧ ∀ p ∈ ps, m'.lookup p.1 = some p.2
  | [], m, m', h => by have : m = m' := Option.some.inj h; subst this; exact ⟨Sub.refl m, fun _ hp => nomatch hp⟩
  | p :: r, m, m', h => by
    have h : (match m.lookup p.1 with | none => agreeM r (m ++ [p]) | some z => if z = p.2 then agreeM r m else none) = some m' := h
    cases hl : m.lookup p.1 with
    | none =>
      rw [hl] at h
      obtain ⟨h1, h2⟩ := agree_sound h
      have hp : (m ++ [p]).lookup p.1 = some p.2 := by rw [lookup_snoc, hl, if_pos rfl]; rfl
      refine ⟨fun x y q => h1 x y (by rw [lookup_snoc, q]; rfl), fun q hq => ?_⟩
      rcases List.mem_cons.mp hq with rfl | hq
      · exact h1 _ _ hp
      · exact h2 q hq
    | some z =>
      rw [hl] at h
      have h : (if z = p.2 then agreeM r m else none) = some m' := h
      split at h
      · rename_i hz
        obtain ⟨h1, h2⟩ := agree_sound h
        refine ⟨h1, fun q hq => ?_⟩
        rcases List.mem_cons.mp hq with rfl | hq
        · exact h1 _ _ (by rw [hl, hz])
        · exact h2 q hq
      · cases h
theorem agree_full {f : Str → Str} : ∀ {ps : List (Str × Str)} {m : Led}, Fits f m → (∀ p ∈ ps, f p.1 = p.2) → ∃ m', agreeM ps m = some m' ∧ Fits f m'
  | [], m, h, _ => ⟨m, rfl, h⟩
  | p :: r, m, h, hp => by
    have hpp := hp p List.mem_cons_self
    have hr : ∀ q ∈ r, f q.1 = q.2 := fun q hq => hp q (List.mem_cons_of_mem _ hq)
    show ∃ m', (match m.lookup p.1 with | none => agreeM r (m ++ [p]) | some z => if z = p.2 then agreeM r m else none) = some m' ∧ _
    cases hl : m.lookup p.1 with
    | none =>
      refine agree_full (fun x y q => ?_) hr
      rw [lookup_snoc] at q
      cases hx : m.lookup x with
      | some z =>
        rw [hx] at q
        have : z = y := Option.some.inj q
        rw [← this]; exact h x z hx
      | none =>
        rw [hx] at q
        have q : (if x = p.1 then some p.2 else none) = some y := q
        split at q
        · rename_i e
          rw [e, hpp]; exact Option.some.inj q
        · cases q
    | some z =>
      have hz : z = p.2 := by rw [← h _ _ hl]; exact hpp
      show ∃ m', (if z = p.2 then agreeM r m else none) = some m' ∧ _
      rw [if_pos hz]
      exact agree_full h hr
theorem led_sound : ∀ {as gs : List A} {m m' : Led}, ledM as gs m = some m' → Sub m m' ∧ ∀ a ∈ as, (m'.lookup a.1).isSome = true ∧ (m'.lookup a.2).isSome = true ∧ imgA m' a ∈ gs
  | [], gs, m, m', h => by have : m = m' := Option.some.inj h; subst this; exact ⟨Sub.refl m, fun _ hp => nomatch hp⟩
  | a :: as, gs, m, m', h => by
    have h : (gs.findSome? fun g => (agreeM [(a.1, g.1), (a.2, g.2)] m).bind (ledM as gs)) = some m' := h
    obtain ⟨g, hg, hb⟩ := List.exists_of_findSome?_eq_some h
    obtain ⟨m1, e1, e2⟩ := Option.bind_eq_some_iff.mp hb
    obtain ⟨s1, s2⟩ := agree_sound e1
    obtain ⟨t1, t2⟩ := led_sound e2
    refine ⟨s1.trans t1, fun b hb => ?_⟩
    rcases List.mem_cons.mp hb with rfl | hb
    · have l1 := t1 _ _ (s2 (b.1, g.1) List.mem_cons_self)
      have l2 := t1 _ _ (s2 (b.2, g.2) (List.mem_cons_of_mem _ List.mem_cons_self))
      refine ⟨by rw [l1]; rfl, by rw [l2]; rfl, ?_⟩
      have : imgA m' b = g := by
        unfold imgA img
        rw [l1, l2]
        rfl
      rw [this]; exact hg
    · exact t2 b hb
theorem led_full {f : Str → Str} : ∀ {as gs : List A} {m : Led}, Fits f m → (∀ a ∈ as, (f a.1, f a.2) ∈ gs) → ∃ m', ledM as gs m = some m'
  | [], gs, m, _, _ => ⟨m, rfl⟩
  | a :: as, gs, m, h, ha => by
    have hg := ha a List.mem_cons_self
    obtain ⟨m1, e1, f1⟩ := agree_full (ps := [(a.1, f a.1), (a.2, f a.2)]) h (fun p hp => by
      rcases List.mem_cons.mp hp with rfl | hp
      · rfl
      · rw [List.mem_singleton.mp hp])
    obtain ⟨m2, e2⟩ := led_full f1 fun b hb => ha b (List.mem_cons_of_mem _ hb)
    cases hf : ledM (a :: as) gs m with
    | some m' => exact ⟨m', rfl⟩
    | none =>
      have hf : (gs.findSome? fun g => (agreeM [(a.1, g.1), (a.2, g.2)] m).bind (ledM as gs)) = none := hf
      have := List.findSome?_eq_none_iff.mp hf _ hg
      rw [e1] at this
      have this : ledM as gs m1 = none := this
      rw [e2] at this
      cases this
/-! ### maps of a question -/
def mapM (h : List Str) (as gs : List A) (hd : List Str) : Option Led := (agreeM (h.zip hd) []).bind (ledM as gs)
/-- f maps the question (h, as) into gs, its head to hd -/
def Hom (f : Str → Str) (h : List Str) (as gs : List A) (hd : List Str) : Prop := (∀ p ∈ h.zip hd, f p.1 = p.2) ∧ ∀ a ∈ as, (f a.1, f a.2) ∈ gs
theorem map_full {f : Str → Str} {h : List Str} {as gs : List A} {hd : List Str} (H : Hom f h as gs hd) : (mapM h as gs hd).isSome = true := by
  obtain ⟨m1, e1, f1⟩ := agree_full (f := f) (m := []) (fun x y q => by cases q) H.1
  obtain ⟨m2, e2⟩ := led_full f1 H.2
  unfold mapM
  rw [e1]
  show (ledM as gs m1).isSome = true
  rw [e2]; rfl
theorem map_sound {h : List Str} {as gs : List A} {hd : List Str} {m : Led} (e : mapM h as gs hd = some m) : (∀ p ∈ h.zip hd, m.lookup p.1 = some p.2) ∧ ∀ a ∈ as, (m.lookup a.1).isSome = true ∧ (m.lookup a.2).isSome = true ∧ imgA m a ∈ gs := by
  obtain ⟨m1, e1, e2⟩ := Option.bind_eq_some_iff.mp e
  obtain ⟨s1, s2⟩ := agree_sound e1
  obtain ⟨t1, t2⟩ := led_sound e2
  exact ⟨fun p hp => t1 _ _ (s2 p hp), t2⟩
theorem map_hom {h : List Str} {as gs : List A} {hd : List Str} {m : Led} (e : mapM h as gs hd = some m) : Hom (img m) h as gs hd := by
  obtain ⟨h1, h2⟩ := map_sound e
  exact ⟨fun p hp => by unfold img; rw [h1 p hp]; rfl, fun a ha => (h2 a ha).2.2⟩
def foldM (h : List Str) (as : List A) : Option Led := as.findSome? fun r => mapM h as (as.filter fun a => decide (a ≠ r)) h
theorem fold_none {h : List Str} {as : List A} (e : foldM h as = none) {f : Str → Str} {r : A} (hr : r ∈ as) (H : Hom f h as (as.filter fun a => decide (a ≠ r)) h) : False := by
  have := List.findSome?_eq_none_iff.mp e r hr
  have h2 := map_full H
  rw [this] at h2
  cases h2
theorem fold_some {h : List Str} {as : List A} {m : Led} (e : foldM h as = some m) : ∃ r ∈ as, mapM h as (as.filter fun a => decide (a ≠ r)) h = some m := List.exists_of_findSome?_eq_some e
theorem no_hom_none {h : List Str} {as : List A} (H : ∀ f r, r ∈ as → ¬ Hom f h as (as.filter fun a => decide (a ≠ r)) h) : foldM h as = none := by
  cases e : foldM h as with
  | none => rfl
  | some m =>
    obtain ⟨r, hr, hm⟩ := fold_some e
    exact (H _ r hr (map_hom hm)).elim
/-- what core_of does -/
inductive CoreR (h : List Str) : List A → List A → Prop
  | done {as} : foldM h as = none → CoreR h as as
  | step {as as'} {m} : foldM h as = some m → CoreR h (as.filter fun a => decide (a ∈ as.map (imgA m))) as' → CoreR h as as'
end K68


set_option Elab.async false
set_option linter.all false
set_option maxRecDepth 100000
set_option maxHeartbeats 4000000
/-! K68D: maps, folds, cores. -/
namespace K68
open PySem L2 DL PySem.Spec PyProof.Rows
section
variable {P : Program} {w : World} {K : PySem.W.Frag} {S S' H H' : Hp} {v : V} {σ : L2.St} {te : TE}
theorem zip_le {α β : Type} (xs : List α) (ys : List β) : (xs.zip ys).length ≤ xs.length := by rw [List.length_zip]; exact Nat.min_le_left _ _
abbrev Mi := { p : List Str × List A × List A × List Str // (∀ x ∈ p.1, x ∈ NAMES) ∧ p.1.length ≤ 4 ∧ (∀ a ∈ p.2.1, OkA a) ∧ p.2.1.length ≤ 6 ∧ p.2.2.1.length ≤ 100 }
def sp_map_into (K : PySem.W.Frag) : Sp := SpOf (ι := Mi) (fun i => AreD K [qD i.1.1 i.1.2.1, .list (i.1.2.2.1.map aD), .tuple (i.1.2.2.2.map .str)]) (fun i => OptLed (mapM i.1.1 i.1.2.1 i.1.2.2.1 i.1.2.2.2))
theorem pure_map_into : ∀ vs H Q E, sp_map_into K vs H Q E → t_map_into P w K (sp_agreed K) (sp_led_into K 7) { nx := fun _ H' => Q .non H', rt := Q } (start N_map_into vs) H := pure_of fun i S H vs e h D k _ => by
  obtain ⟨⟨hq, as, gs, hd⟩, c1, c2, c3, c4, c5⟩ := i
  obtain ⟨v, u, t, rfl, h1, h2, h3⟩ := dps3 h
  simp only at h1 h2 h3 c1 c2 c3 c4 c5 k
  have h1' : Dp K S v (.tuple (qL hq as)) := h1
  refine q_set e (call_agreed (ts := hq) (gs := hd) (m := []) c1 (by omega) (by decide) (ev_ixT (j := 1) (ev_varD rfl h1') ev_int rfl) (ev_varD rfl h3) ev_led0) fun st S1 H1 ok1 p1 => ?_
  refine s_ret ok1.sh (P := OptLed (mapM hq as gs hd)) (ev_if (b := (agreeM (hq.zip hd) []).isNone) (et_B (ev_isN (K := K) (ev_var rfl p1) optI)) (fun z => ev_none _ (none_bind (by rw [Option.isNone_iff_eq_none.mp z]; rfl))) fun z => ?_) fun r S2 H2 ok2 p2 => k r S2 H2 (ok1.trans ok2) p2
  cases hm : agreeM (hq.zip hd) [] with
  | none => rw [hm] at z; cases z
  | some m =>
    rw [hm] at p1
    have hl := agree_len hm
    have hz := zip_le hq hd
    have e1 : mapM hq as gs hd = ledM as gs m := by unfold mapM; rw [hm]; rfl
    rw [e1]
    have h00 : ([] : Led).length = 0 := rfl
    exact call_led_into (by omega) c3 c5 (by omega) (EvL.evD (el_listOf ((ea1 (ev_ixT (j := 2) (ev_varD rfl (dp_ex ok1.ss _ _ h1')) ev_int rfl)).imp fun S1 vs ⟨v, r, e1, e2, e3⟩ => ⟨v, by rw [e1, e3], .inr e2⟩) (by rw [List.length_map]; omega))) (ev_varD rfl (dp_ex ok1.ss _ _ h2)) (ev_var rfl p1)
theorem call_map_into {t1 t2 t3 : TE} {hq : List Str} {as gs : List A} {hd : List Str} (c1 : ∀ x ∈ hq, x ∈ NAMES) (c2 : hq.length ≤ 4) (c3 : ∀ a ∈ as, OkA a) (c4 : as.length ≤ 6) (c5 : gs.length ≤ 100) (h1 : Ev t1 σ S (DL.IsD K (qD hq as))) (h2 : Ev t2 σ S (DL.IsD K (.list (gs.map aD)))) (h3 : Ev t3 σ S (DL.IsD K (.tuple (hd.map .str)))) :
    Ev (tCall (sp_map_into K) [] E0 (tCons t1 (tCons t2 (tCons t3 tNil)))) σ S (OptLed (mapM hq as gs hd)) := ev_call (ι := Mi) ⟨(hq, as, gs, hd), c1, c2, c3, c4, c5⟩ (ead_cons h1 (ead_cons h2 (ead_cons h3 ead_nil)))
/-! ### want_alike, want_two -/
theorem q_drop {D : Ends} {tz : TS} {Pq : Hp → V → Prop} (e : Ex S H) (h : Ev te σ S Pq) (k : ∀ v S' H', Ok S H S' H' → Per Pq S' v → tz D σ H') : tSeq (tDrop te) tz D σ H := h S H (Evl.Ex.refl S) e _ k
theorem s_drop {D : Ends} {Pq : Hp → V → Prop} (e : Ex S H) (h : Ev te σ S Pq) (k : ∀ v S' H', Ok S H S' H' → Per Pq S' v → D.nx σ H') : tDrop te D σ H := h S H (Evl.Ex.refl S) e _ k
abbrev Wa := { p : List Str × List A // QPre p.1 p.2 ∧ p.2 ≠ [] }
theorem call_want_question {h : List Str} {as : List A} (c : QPre h as ∧ as ≠ []) (h1 : Ev te σ S (DL.IsD K (qD h as))) : Ev (tCall (sp_want_question K) [] E0 (tCons te tNil)) σ S (DL.IsD K (qD h as)) := ev_call (ι := Wa) ⟨(h, as), c⟩ (ead_cons h1 ead_nil)
theorem call_want_union {h : List Str} {as : List A} (c : QPre h as ∧ as ≠ []) (h1 : Ev te σ S (DL.IsD K (qD h as))) : Ev (tCall (sp_want_union K) [] E0 (tCons te tNil)) σ S (DL.IsD K (qD h as)) := ev_call (ι := Wa) ⟨(h, as), c⟩ (ead_cons h1 ead_nil)
abbrev Wi := { p : (List Str × List A) × (List Str × List A) // p.1.1.length = p.2.1.length ∧ p.1.2.length ≤ 6 ∧ p.2.2.length ≤ 6 }
def sp_want_alike (K : PySem.W.Frag) : Sp := SpOf (ι := Wi) (fun i => AreD K [qD i.1.1.1 i.1.1.2, qD i.1.2.1 i.1.2.2]) (fun _ => IsD K .none)
theorem ev_catT {d1 d2 : PyData} {ta tb : TE} (h : Ev ta σ S (DL.IsD K (.tuple [d1]))) (h2 : Ev tb σ S (DL.IsD K (.tuple [d2]))) : Ev (tOp (rCatT K) ta tb) σ S (DL.IsD K (.tuple [d1, d2])) := fun S1 H1 a b Q q => h S1 H1 a b _ fun v S2 H2 ok p => h2 S2 H2 (a.trans ok.ss) ok.sh _ fun w S3 H3 ok3 p3 => by
  obtain ⟨a1, xs, rfl, hs, ha⟩ := dp_tuple.mp (p S3 ok3.ss)
  obtain ⟨a2, ys, rfl, hs2, ha2⟩ := dp_tuple.mp p3.now
  obtain ⟨x, rfl, g1⟩ := dps1 ha
  obtain ⟨y, rfl, g2⟩ := dps1 ha2
  refine ⟨a1, a2, [x], [y], rfl, rfl, Evl.ex_t ok3.sh hs, Evl.ex_t ok3.sh hs2, List.cons_ne_nil _ _, by show 2 ≤ sizeLine; decide, (fun z => by cases z), fun _ p hp => ?_⟩
  exact q _ _ _ ((ok.trans ok3).new hp) (perD (.tup (SqT.of upd_same) (.cons (dp_ex (Evl.Ex.new (none_of ok3.sh hp)) _ _ g1) (.cons (dp_ex (Evl.Ex.new (none_of ok3.sh hp)) _ _ g2) .nil))))
theorem pure_want_alike : ∀ vs H Q E, sp_want_alike K vs H Q E → t_want_alike P w K (sp_atoms_in K) (sp_head_length K) (sp_members_of K) (sp_unlike_table K) { nx := fun _ H' => Q .non H', rt := Q } (start N_want_alike vs) H := pure_of fun i S H vs e h D _ k => by
  obtain ⟨⟨⟨h1, as1⟩, ⟨h2, as2⟩⟩, c1, c2, c3⟩ := i
  obtain ⟨v, u, rfl, g1, g2⟩ := dps2 h
  simp only at g1 g2 c1 c2 c3 k
  refine q_guard (b := false) e (et_is (et_test (ev_uNe (ev_call (ι := List Str × List A) (h1, as1) (ead_cons (ev_varD rfl g1) ead_nil)) (ev_call (ι := List Str × List A) (h2, as2) (ead_cons (ev_varD rfl g2) ead_nil)) (Nat.zero_le 60))) ?_) (fun z => by cases z) fun _ S1 H1 ok1 => ?_
  · rw [eqv_int, decide_eq_true (by show (h1.length : Int) = (h2.length : Int); rw [c1])]; rfl
  have e1 := dp_ex ok1.ss _ _ g1
  have e2 := dp_ex ok1.ss _ _ g2
  refine q_set ok1.sh (ev_call (ι := { p : Bool × List A // p.2.length ≤ 100 }) ⟨(true, as1 ++ as2), ?_⟩ (ead_cons (ev_is (ev_call (ι := { qs : List (List Str × List A) // qs.length ≤ 4 ∧ ∀ q ∈ qs, q.2.length ≤ 6 }) ⟨[(h1, as1), (h2, as2)], Nat.le_of_ble_eq_true rfl, ?_⟩ (ead_cons (ev_catT (ev_call (ι := List Str × List A) (h1, as1) (ead_cons (ev_varD rfl e1) ead_nil)) (ev_call (ι := List Str × List A) (h2, as2) (ead_cons (ev_varD rfl e2) ead_nil))) ead_nil)) ?_) ead_nil)) fun t S2 H2 ok2 p2 => ?_
  · show (as1 ++ as2).length ≤ 100
    rw [List.length_append]; omega
  · intro q hq
    rcases List.mem_cons.mp hq with rfl | hq
    · exact c2
    · rw [List.mem_singleton.mp hq]; exact c3
  · show PyData.list (([(h1, as1), (h2, as2)].flatMap (fun q : List Str × List A => q.2)).map aD) = PyData.list ((as1 ++ as2).map aD)
    have : [(h1, as1), (h2, as2)].flatMap (fun q : List Str × List A => q.2) = as1 ++ as2 := by simp
    rw [this]
  refine s_if (b := false) ok2.sh (et_B (ev_notN (K := K) (ev_var rfl p2) fun S1 x hx => by cases hx; rfl)) (fun z => by cases z) fun _ S3 H3 ok3 => k _ S3 H3 ((ok1.trans ok2).trans ok3) (perD .non)
abbrev Ti := { p : (List Str × List A) × (List Str × List A) // (QPre p.1.1 p.1.2 ∧ p.1.2 ≠ []) ∧ (QPre p.2.1 p.2.2 ∧ p.2.2 ≠ []) ∧ p.1.1.length = p.2.1.length }
def sp_want_two (K : PySem.W.Frag) : Sp := SpOf (ι := Ti) (fun i => AreD K [qD i.1.1.1 i.1.1.2, qD i.1.2.1 i.1.2.2]) (fun _ => IsD K .none)
theorem pure_want_two : ∀ vs H Q E, sp_want_two K vs H Q E → t_want_two P w K (sp_want_alike K) (sp_want_union K) { nx := fun _ H' => Q .non H', rt := Q } (start N_want_two vs) H := pure_of fun i S H vs e h D _ k => by
  obtain ⟨⟨p1, p2⟩, c1, c2, c3⟩ := i
  obtain ⟨v, u, rfl, g1, g2⟩ := dps2 h
  simp only at g1 g2 c1 c2 c3 k
  refine q_drop e (call_want_union c1 (ev_varD rfl g1)) fun x S1 H1 ok1 _ => ?_
  refine s_drop ok1.sh (ev_call (ι := Wi) ⟨(p1, p2), c3, c1.1.2.2.1, c2.1.2.2.1⟩ (ead_cons (ev_varD rfl (dp_ex ok1.ss _ _ g1)) (ead_cons (call_want_union c2 (ev_varD rfl (dp_ex ok1.ss _ _ g2))) ead_nil))) fun y S2 H2 ok2 _ => k _ S2 H2 (ok1.trans ok2) (perD .non)
/-! ### told_map -/
def ToldP (K : PySem.W.Frag) : Hp → V → Prop := fun S v => ∃ ks : List NestedKey, Dp K S v (kD ks) ∧ (NestedKey.tup ks).depth ≤ 8
theorem perTold (h : ToldP K S v) : Per (ToldP K) S v := fun S1 e => let ⟨ks, a, b⟩ := h; ⟨ks, dp_ex e _ _ a, b⟩
theorem Ok_many {T : List Addr} (e : Ex S H) (hx : Ex H H') (hT : ∀ t ∈ T, H t = none) : Ok S H (fun b => if b ∈ T then H' b else S b) H' where
  ss := fun a u q => by
    have : a ∉ T := fun ha => by have := e a u q; rw [hT a ha] at this; cases this
    show (if a ∈ T then H' a else S a) = some u
    rw [if_neg this]; exact q
  sh := fun a u q => by
    have q : (if a ∈ T then H' a else S a) = some u := q
    split at q
    · exact q
    · exact hx a u (e a u q)
  hh := hx
  av := fun a u q1 q2 => by
    have : a ∉ T := fun ha => by rw [hT a ha] at q2; cases q2
    show (if a ∈ T then H' a else S a) = none
    rw [if_neg this]; exact q1
def pairK (p : Str × Str) : NestedKey := .tup [.text p.1, .text p.2]
theorem datas_map : ∀ ks : List NestedKey, NestedKey.datas ks = ks.map NestedKey.data
  | [] => rfl
  | k :: ks => by rw [NestedKey.datas, datas_map ks]; rfl
theorem depth_pairs : ∀ m : List (Str × Str), NestedKey.depthAll (m.map pairK) ≤ 1
  | [] => Nat.zero_le _
  | p :: m => by
    have := depth_pairs m
    show max (NestedKey.depth (pairK p)) (NestedKey.depthAll (m.map pairK)) ≤ 1
    exact Nat.max_le.mpr ⟨Nat.le_refl _, this⟩
def sp_told_map (K : PySem.W.Frag) : Sp := SpOf (ι := { m : Led // m.length < 1000 }) (fun i S vs => ∃ v, vs = [v] ∧ IsLed i.1 S v) (fun _ => ToldP K)
theorem pure_told_map : ∀ vs H Q E, sp_told_map K vs H Q E → t_told_map P w K { nx := fun _ H' => Q .non H', rt := Q } (start N_told_map vs) H := pure_of fun i S H vs e h D k _ => by
  obtain ⟨m, hm⟩ := i
  obtain ⟨v, rfl, a, rfl, ha⟩ := h
  have hHa := e a _ ha
  refine ⟨_, rfl, .inr (.inr (.inl ⟨rfl, .inl ⟨_, hHa⟩⟩)), a, _, rfl, rfl, .inl hHa, fun p hp => ?_⟩
  have hap : a ≠ p := ne_of_none hHa hp
  refine ⟨p, a, m, rfl, upd_same, .inl (by rw [upd_ne hap]; exact hHa), hm, fun H2 l zs hx hl hperm hll hzs => ?_⟩
  have hx0 : Ex H H2 := (Evl.Ex.new hp).trans hx
  refine ⟨l, _, rfl, .inl ⟨SqL.of hll, fun q hq => ?_⟩⟩
  have hT : ∀ t ∈ zs.map (·.1), H t = none := fun t ht => by
    obtain ⟨z, hz, rfl⟩ := List.mem_map.mp ht
    obtain ⟨z1, z2, z3⟩ := hzs z hz
    by_cases hzp : z.1 = p
    · rw [hzp]; exact hp
    · rw [upd_ne hzp] at z1; exact z1
  have ok1 := Ok_many e hx0 hT
  have hq' := none_of ok1.sh hq
  have ok2 := ok1.new (o := .tup (zs.map fun z => V.ref z.1)) hq
  refine k _ _ _ ok2 (perTold ⟨(zs.map (·.2)).map pairK, ?_, Nat.le_trans (Nat.succ_le_succ (depth_pairs _)) (by decide)⟩)
  show Dp K _ _ (.tuple (NestedKey.datas ((zs.map (·.2)).map pairK)))
  rw [datas_map]
  refine .tup (SqT.of upd_same) (dps_ex (Evl.Ex.new hq') _ _ ?_)
  have all : ∀ ys : List (Addr × Str × Str), (∀ z ∈ ys, z ∈ zs) → DpAll K (fun b => if b ∈ zs.map (·.1) then H2 b else S b) (ys.map fun z => V.ref z.1) (((ys.map (·.2)).map pairK).map NestedKey.data) := by
    intro ys
    induction ys with
    | nil => intro _; exact .nil
    | cons z ys ih =>
      intro hy
      refine .cons ?_ (ih fun x hx => hy x (List.mem_cons_of_mem _ hx))
      have hz := hy z List.mem_cons_self
      obtain ⟨z1, z2, z3⟩ := hzs z hz
      refine .tup (xs := [.str z.2.1, .str z.2.2]) (SqT.of ?_) (.cons (.str _) (.cons (.str _) .nil))
      show (if z.1 ∈ zs.map (·.1) then H2 z.1 else S z.1) = _
      rw [if_pos (List.mem_map_of_mem hz)]
      exact z3
  exact all zs fun z hz => hz
end
end K68


set_option Elab.async false
set_option linter.all false
set_option maxRecDepth 100000
set_option maxHeartbeats 4000000
/-! K68N: the plain law, further: parts, cores. -/
namespace K68
open PySem L2 DL PySem.Spec PyProof.Rows
theorem eqv_aD (a b : A) : PyData.eqv (aD a) (aD b) = decide (a = b) := by
  obtain ⟨x, y⟩ := a
  obtain ⟨z, w⟩ := b
  simp only [aD, PyData.eqv, PyData.eqvAll, Bool.and_true]
  by_cases h1 : x = z
  · by_cases h2 : y = w
    · subst h1 h2; simp
    · have : (y == w) = false := by rw [beq_eq_false_iff_ne]; exact h2
      rw [this, decide_eq_false (fun e => h2 (Prod.mk.inj e).2)]; simp
  · have : (x == z) = false := by rw [beq_eq_false_iff_ne]; exact h1
    rw [this, decide_eq_false (fun e => h1 (Prod.mk.inj e).1)]; simp
theorem aK_inj {a b : A} (h : aK a = aK b) : a = b := by
  obtain ⟨x, y⟩ := a
  obtain ⟨z, w⟩ := b
  unfold aK at h
  injection h with _ h
  injection h with h _
  injection h with h
  injection h with h1 h2
  injection h1 with h1
  injection h2 with h2 _
  injection h2 with h2
  exact Prod.ext h1 h2
theorem nodup_map {α β : Type} {f : α → β} (hf : ∀ a b, f a = f b → a = b) : ∀ {l : List α}, l.Nodup → (l.map f).Nodup
  | [], _ => List.nodup_nil
  | x :: l, h => by
    rw [List.nodup_cons] at h
    rw [List.map_cons, List.nodup_cons]
    refine ⟨fun hm => ?_, nodup_map hf h.2⟩
    obtain ⟨y, hy, e⟩ := List.mem_map.mp hm
    exact h.1 (hf _ _ e ▸ hy)
theorem dedup_atoms {as : List A} (h : as.Nodup) : dedupK [] (as.map aK) = as.map aK := by
  rw [dedup_nodup _ [] (by rw [List.nil_append]; exact nodup_map (fun _ _ => aK_inj) h)]
  rfl
theorem kD_atoms (as : List A) : (as.map aK).map kD = as.map aD := by rw [List.map_map]; rfl
/-! parts by places -/
def sel (as : List A) (is : List Nat) : List A := is.map fun i => as.getD i ("", "")
theorem zipIdx_map' {α β : Type} (f : α → β) : ∀ (l : List α) (n : Nat), (l.map f).zipIdx n = (l.zipIdx n).map fun p => (f p.1, p.2)
  | [], _ => rfl
  | x :: l, n => by rw [List.map_cons, List.zipIdx_cons, List.zipIdx_cons, List.map_cons, zipIdx_map' f l]
theorem zipIdx_fst {α : Type} : ∀ (l : List α) (n : Nat), (l.zipIdx n).map (·.1) = l
  | [], _ => rfl
  | x :: l, n => by rw [List.zipIdx_cons, List.map_cons, zipIdx_fst l]
theorem sel_zip (as : List A) (q : A → Bool) : sel as ((as.zipIdx.filter fun p => q p.1).map (·.2)) = as.filter q := by
  unfold sel
  rw [List.map_map]
  have e : (as.zipIdx.filter fun p => q p.1).map ((fun i => as.getD i ("", "")) ∘ (·.2)) = (as.zipIdx.filter fun p => q p.1).map (·.1) := by
    refine List.map_congr_left fun p hp => ?_
    have hm := (List.mem_filter.mp hp).1
    have := List.mem_zipIdx_iff_getElem?.mp hm
    show as.getD p.2 ("", "") = p.1
    rw [List.getD_eq_getElem?_getD, this]
    rfl
  rw [e]
  have e2 : (as.zipIdx.filter fun p => q p.1) = as.zipIdx.filter (q ∘ (·.1)) := rfl
  rw [e2, ← List.filter_map, zipIdx_fst]
theorem zipIdx_snd {α : Type} : ∀ (l : List α) (n : Nat), (l.zipIdx n).map (·.2) = List.range' n l.length
  | [], _ => rfl
  | x :: l, n => by rw [List.zipIdx_cons, List.map_cons, zipIdx_snd l, List.length_cons, List.range'_succ]
theorem others_eq {as : List A} (hn : as.Nodup) {i : Nat} {a : A} (h : as[i]? = some a) : (as.zipIdx.filter fun p => decide (p.2 ≠ i)).map (·.1) = as.filter fun b => decide (b ≠ a) := by
  have e : (as.zipIdx.filter fun p => decide (p.2 ≠ i)) = as.zipIdx.filter ((fun b => decide (b ≠ a)) ∘ (·.1)) := by
    refine List.filter_congr fun p hp => ?_
    have hp' := List.mem_zipIdx_iff_getElem?.mp hp
    show decide (p.2 ≠ i) = decide (p.1 ≠ a)
    refine decide_eq_decide.mpr ⟨fun hne e => hne ?_, fun hne e => hne ?_⟩
    · have hl : p.2 < as.length := (List.getElem?_eq_some_iff.mp hp').1
      exact (List.getElem?_inj hl hn).mp (by rw [hp', h, e])
    · rw [e, h] at hp'
      exact (Option.some.inj hp').symm
  rw [e, ← List.filter_map, zipIdx_fst]
theorem sel_range {as : List A} (hn : as.Nodup) {i : Nat} {a : A} (h : as[i]? = some a) : sel as ((List.range as.length).filter fun j => decide (j ≠ i)) = as.filter fun b => decide (b ≠ a) := by
  have e0 : List.range as.length = as.zipIdx.map (·.2) := by rw [zipIdx_snd]; exact List.range_eq_range'
  rw [e0, List.filter_map, ← others_eq hn h]
  unfold sel
  rw [List.map_map]
  refine List.map_congr_left fun p hp => ?_
  have hm := (List.mem_filter.mp hp).1
  have := List.mem_zipIdx_iff_getElem?.mp hm
  show as.getD p.2 ("", "") = p.1
  rw [List.getD_eq_getElem?_getD, this]
  rfl
theorem zip_self_mem {α : Type} : ∀ {h : List α} {x : α}, x ∈ h → (x, x) ∈ h.zip h
  | y :: h, x, hx => by
    rcases List.mem_cons.mp hx with rfl | hx
    · exact List.mem_cons_self
    · exact List.mem_cons_of_mem _ (zip_self_mem hx)
/-! cores -/
theorem core_step {h : List Str} {as : List A} {m : Led} (q : QPre h as) (hn : as.Nodup) (hne : as ≠ []) (e : foldM h as = some m) :
    QPre h (as.filter fun a => decide (a ∈ as.map (imgA m))) ∧ (as.filter fun a => decide (a ∈ as.map (imgA m))).Nodup ∧ (as.filter fun a => decide (a ∈ as.map (imgA m))) ≠ [] ∧
    (as.filter fun a => decide (a ∈ as.map (imgA m))).length < as.length ∧ Covers m as ∧ (∀ b, b ∈ (as.filter fun a => decide (a ∈ as.map (imgA m))) ↔ b ∈ as.map (imgA m)) := by
  obtain ⟨r, hr, hm⟩ := fold_some e
  obtain ⟨s1, s2⟩ := map_sound hm
  have himg : ∀ a ∈ as, imgA m a ∈ as ∧ imgA m a ≠ r := fun a ha => by
    have := (s2 a ha).2.2
    obtain ⟨h1, h2⟩ := List.mem_filter.mp this
    exact ⟨h1, of_decide_eq_true h2⟩
  have hmem : ∀ b, b ∈ (as.filter fun a => decide (a ∈ as.map (imgA m))) ↔ b ∈ as.map (imgA m) := fun b => by
    rw [List.mem_filter, decide_eq_true_iff]
    refine ⟨fun h => h.2, fun h => ⟨?_, h⟩⟩
    obtain ⟨a, ha, rfl⟩ := List.mem_map.mp h
    exact (himg a ha).1
  have hr' : r ∉ as.map (imgA m) := fun hm => by
    obtain ⟨a, ha, e⟩ := List.mem_map.mp hm
    exact (himg a ha).2 e
  obtain ⟨q1, q2, q3, q4, q5⟩ := q
  have hlt : (as.filter fun a => decide (a ∈ as.map (imgA m))).length < as.length := List.length_filter_lt_length_iff_exists.mpr ⟨r, hr, by rw [decide_eq_true_iff]; exact hr'⟩
  refine ⟨⟨q1, q2, by omega, fun a ha => q4 a (List.mem_filter.mp ha).1, .inr fun x hx => ?_⟩, hn.filter _, ?_, hlt, fun a ha => ⟨(s2 a ha).1, (s2 a ha).2.1⟩, hmem⟩
  · obtain ⟨a, ha, hxa⟩ := q5.resolve_left hne x hx
    have hz : (x, x) ∈ h.zip h := zip_self_mem hx
    have hl := s1 (x, x) hz
    have hi : img m x = x := by unfold img; rw [hl]; rfl
    refine ⟨imgA m a, (hmem _).mpr (List.mem_map_of_mem ha), ?_⟩
    rcases hxa with e1 | e1
    · left; show x = img m a.1; rw [← e1, hi]
    · right; show x = img m a.2; rw [← e1, hi]
  · obtain ⟨a, ha⟩ := List.exists_mem_of_ne_nil _ hne
    exact List.ne_nil_of_mem ((hmem _).mpr (List.mem_map_of_mem (f := imgA m) ha))
end K68


set_option Elab.async false
set_option linter.all false
set_option maxRecDepth 100000
set_option maxHeartbeats 4000000
/-! K68E: parts, folds, cores. -/
namespace K68
open PySem L2 DL PySem.Spec PyProof.Rows
section
variable {P : Program} {w : World} {K : PySem.W.Frag} {S S' H H' : Hp} {v : V} {σ : L2.St} {te : TE}
theorem call_is_question {h : List Str} {as : List A} (c : QPre h as) (h1 : Ev te σ S (DL.IsD K (qD h as))) : Ev (tCall (sp_is_question_of K) [] E0 (tCons te tNil)) σ S (DL.IsD K (.bool (!as.isEmpty))) := ev_call (ι := Qi) ⟨(h, as), c⟩ (ead_cons h1 ead_nil)
/-! ### part_of -/
def PartP (K : PySem.W.Frag) (h : List Str) (as : List A) : Hp → V → Prop := fun S v => (as = [] → v = .non) ∧ (as ≠ [] → Dp K S v (qD h as))
theorem perPart {h : List Str} {as : List A} (p : PartP K h as S v) : Per (PartP K h as) S v := fun S1 e => ⟨p.1, fun n => dp_ex e _ _ (p.2 n)⟩
abbrev Pi := { p : List Str × List A × List Nat // (∀ i ∈ p.2.2, i < p.2.1.length) ∧ p.2.1.length ≤ 6 ∧ p.2.2.length ≤ 6 ∧ QPre p.1 (sel p.2.1 p.2.2) }
def intsD (is : List Nat) : List PyData := is.map fun (i : Nat) => .int (i : Int)
def sp_part_of (K : PySem.W.Frag) : Sp := SpOf (ι := Pi) (fun i => AreD K [qD i.1.1 i.1.2.1, .list (intsD i.1.2.2)]) (fun i => PartP K i.1.1 (sel i.1.2.1 i.1.2.2))
theorem pure_part_of : ∀ vs H Q E, sp_part_of K vs H Q E → t_part_of P w K (sp_is_question_of K) { nx := fun _ H' => Q .non H', rt := Q } (start N_part_of vs) H := pure_of fun i S H vs e h D k _ => by
  obtain ⟨⟨hq, as, is⟩, c1, c2, c3, c4⟩ := i
  obtain ⟨v, u, rfl, h1, h2⟩ := dps2 h
  simp only at h1 h2 c1 c2 c3 c4 k
  have h1' : Dp K S v (.tuple (qL hq as)) := h1
  have hs : (sel as is).map aD = (intsD is).map fun d => match d with | .int i => aD (as.getD i.toNat ("", "")) | _ => .none := by
    unfold sel intsD
    rw [List.map_map, List.map_map]
    rfl
  refine q_set (P := DL.IsD K (qD hq (sel as is))) e (ev_tupD (ead_cons (ev_ixT (j := 0) (ev_varD rfl h1') ev_int rfl) (ead_cons (ev_ixT (j := 1) (ev_varD rfl h1') ev_int rfl) (ead_cons (ev_tupL ?_) ead_nil))) (Nat.le_of_ble_eq_true rfl)) fun x S1 H1 ok1 p1 => ?_
  · rw [hs]
    refine el_lcY (σ := start N_part_of [v, u]) (wi := iList K (tVar 1)) (fun d => match d with | .int i => aD (as.getD i.toNat ("", "")) | _ => .none) (ei_list (ev_varD rfl h2)) (by unfold intsD; rw [List.length_map]; omega) fun y S1 x hy ex pz => ?_
    obtain ⟨i, hi, rfl⟩ := List.mem_map.mp hy
    have hl := c1 i hi
    refine ⟨_, eg_name, rfl, ev_ixT (j := i) (ev_ixT (j := 2) (ev_varD rfl (dp_ex ex _ _ h1')) ev_int rfl) (ev_var rfl pz) ?_⟩
    show (as.map aD)[i]? = some (aD (as.getD i ("", "")))
    rw [List.getElem?_map, List.getD_eq_getElem?_getD, List.getElem?_eq_getElem hl]
    rfl
  · refine s_ret ok1.sh (P := PartP K hq (sel as is)) (ev_if (b := !(sel as is).isEmpty) (et_B (call_is_question c4 (ev_var rfl p1))) (fun z => ?_) fun z => ?_) fun r S2 H2 ok2 p2 => k r S2 H2 (ok1.trans ok2) p2
    · exact (ev_var rfl p1).imp fun S2 v hv => ⟨fun e => (by rw [e] at z; cases z), fun _ => hv⟩
    · refine (ev_non (K := K)).imp fun S2 v hv => ⟨fun _ => (by cases hv; rfl), fun hne => ?_⟩
      rw [ne_emp hne] at z; cases z
theorem call_part_of {t1 t2 : TE} {h : List Str} {as : List A} {is : List Nat} (c1 : ∀ i ∈ is, i < as.length) (c2 : as.length ≤ 6) (c3 : is.length ≤ 6) (c4 : QPre h (sel as is)) (h1 : Ev t1 σ S (DL.IsD K (qD h as))) (h2 : Ev t2 σ S (DL.IsD K (.list (intsD is)))) :
    Ev (tCall (sp_part_of K) [] E0 (tCons t1 (tCons t2 tNil))) σ S (PartP K h (sel as is)) := ev_call (ι := Pi) ⟨(h, as, is), c1, c2, c3, c4⟩ (ead_cons h1 (ead_cons h2 ead_nil))
/-! ### unlike_ones of atoms -/
theorem call_unlike {as : List A} (hn : as.Nodup) (hl : as.length ≤ 1000) (h1 : Ev te σ S (DL.IsD K (.tuple (as.map aD)))) : Ev (tCall (sp_unlike_ones K) [] E0 (tCons te tNil)) σ S (DL.IsD K (.list (as.map aD))) := by
  have := ev_call (E := E0) (A := fun (i : Ui) => AreD K [seqD i.1.1 (i.1.2.map kD)]) (Pf := fun i => DL.IsD K (.list ((dedupK [] i.1.2).map kD))) ⟨(false, as.map aK), fun k hk => by
    obtain ⟨a, _, rfl⟩ := List.mem_map.mp hk
    exact Nat.le_of_ble_eq_true rfl, by rw [List.length_map]; exact hl⟩ (ead_cons (d := seqD false ((as.map aK).map kD)) (by rw [kD_atoms]; exact h1) ead_nil)
  rw [dedup_atoms hn, kD_atoms] at this
  exact this
/-! ### fold_of -/
abbrev Fi := { p : List Str × List A // (∀ x ∈ p.1, x ∈ NAMES) ∧ p.1.length ≤ 4 ∧ (∀ a ∈ p.2, OkA a) ∧ p.2.length ≤ 6 ∧ p.2.Nodup }
def sp_fold_of (K : PySem.W.Frag) : Sp := SpOf (ι := Fi) (fun i => AreD K [qD i.1.1 i.1.2]) (fun i => OptLed (foldM i.1.1 i.1.2))
theorem filter_aD (as : List A) (a : A) : (as.map aD).filter (fun d => !PyData.eqv d (aD a)) = (as.filter fun b => decide (b ≠ a)).map aD := by
  rw [List.filter_map]
  congr 1
  refine List.filter_congr fun b _ => ?_
  show (!PyData.eqv (aD b) (aD a)) = decide (b ≠ a)
  rw [eqv_aD, decide_not]
theorem pure_fold_of : ∀ vs H Q E, sp_fold_of K vs H Q E → t_fold_of P w K (sp_map_into K) (sp_unlike_ones K) { nx := fun _ H' => Q .non H', rt := Q } (start N_fold_of vs) H := pure_of fun i S H vs e h D k _ => by
  obtain ⟨⟨hq, as⟩, c1, c2, c3, c4, c5⟩ := i
  obtain ⟨v, rfl, h1⟩ := dps1 h
  simp only at h1 c1 c2 c3 c4 c5 k
  have h1' : Dp K S v (.tuple (qL hq as)) := h1
  refine q_set e (call_unlike c5 (by omega) (ev_ixT (j := 2) (ev_varD rfl h1') ev_int rfl)) fun rv S1 H1 ok1 p1 => ?_
  refine q_for (σ := [some v, some rv, none, none, none]) ok1 (ei_list (ev_var rfl p1)) (fun i σ' S' H' => (∃ x1 x2 x3, σ' = [some v, some rv, x1, x2, x3]) ∧ (as.take i).findSome? (fun r => mapM hq as (as.filter fun a => decide (a ≠ r)) hq) = none) (fun S3 H3 ok3 => ⟨⟨none, none, none, rfl⟩, rfl⟩) ?_ ?_
  · rintro S3 ex3 i y x σ' S4 H4 S5 H5 hy lo ⟨⟨x1, x2, x3, rfl⟩, q1⟩ ok5 pz
    rw [List.getElem?_map] at hy
    obtain ⟨r, hr, rfl⟩ := Option.map_eq_some_iff.mp hy
    have e5 : Ex S1 S5 := ex3.trans (lo.ex.trans ok5.ss)
    have p5 := p1.ex e5
    have h5 := dp_ex (ok1.ss.trans e5) _ _ h1
    have h5' := dp_ex (ok1.ss.trans e5) _ _ h1'
    have hll : (as.filter fun a => decide (a ≠ r)).length ≤ 100 := Nat.le_trans (List.length_filter_le _ _) (by omega)
    refine eg_name H5 ok5.sh _ (q_set (σ := [some v, some rv, some x, x2, x3]) ok5.sh (call_map_into (hq := hq) (as := as) (gs := as.filter fun a => decide (a ≠ r)) (hd := hq) c1 c2 c3 c4 hll (ev_varD rfl h5) (EvL.evD ?_) (ev_ixT (j := 1) (ev_varD rfl h5') ev_int rfl)) fun fo S6 H6 ok6 pf => ?_)
    · rw [← filter_aD]
      have := el_lcD (K := K) (σ := [some v, some rv, some x, x2, x3]) (S := S5) (wi := iList K (tVar 1)) (g := gName 4) (tt := tTest (tOp (uNe K) (tVar 4) (tVar 2))) (te := tVar 4) (vs := [4]) (fun d => !PyData.eqv d (aD r)) id (ei_list (ev_var rfl p5)) (by rw [List.length_map]; omega) fun y S7 x' hy' ex' pz' =>
        ⟨_, eg_name, rfl, et_test (ev_uNe (ev_var rfl pz') (ev_var rfl (pz.ex ex')) (by have : (aD r).depth = 2 := rfl; omega)), fun _ => ev_var rfl pz'⟩
      rw [List.map_id] at this
      exact this
    · refine s_if (b := (mapM hq as (as.filter fun a => decide (a ≠ r)) hq).isSome) ok6.sh (et_B (ev_notN (K := K) (ev_var rfl pf) optN)) (fun z S7 H7 ok7 => ?_) fun z S7 H7 ok7 => ?_
      · refine s_ret ok7.sh (ev_var rfl (pf.ex ok7.ss)) fun r' S8 H8 ok8 p8 => k r' S8 H8 ((((lo.ok.trans ok5).trans ok6).trans ok7).trans ok8) ?_
        have e1 : foldM hq as = mapM hq as (as.filter fun a => decide (a ≠ r)) hq := by
          have := fs_take (f := fun r => mapM hq as (as.filter fun a => decide (a ≠ r)) hq) hr q1
          unfold foldM
          rw [this]
          obtain ⟨m, hm⟩ := Option.isSome_iff_exists.mp z
          rw [hm]; rfl
        rw [e1]; exact p8
      · exact ⟨S7, ⟨((lo.ok.trans ok5).trans ok6).trans ok7, lo.ex.trans (ok5.ss.trans (ok6.ss.trans ok7.ss))⟩, ⟨_, _, _, rfl⟩, fs_take_succ hr q1 (not_some z)⟩
  · rintro σ' S4 H4 lo ⟨⟨x1, x2, x3, rfl⟩, q1⟩
    rw [List.length_map, List.take_length] at q1
    have e1 : foldM hq as = none := q1
    exact s_ret lo.ok.sh (ev_none (foldM hq as) e1) fun r Sa Ha oka pa => k r Sa Ha (lo.ok.trans oka) pa
theorem call_fold {h : List Str} {as : List A} (q : QPre h as) (hn : as.Nodup) (h1 : Ev te σ S (DL.IsD K (qD h as))) : Ev (tCall (sp_fold_of K) [] E0 (tCons te tNil)) σ S (OptLed (foldM h as)) :=
  ev_call (ι := Fi) ⟨(h, as), q.2.1, Nat.le_trans q.1 (by decide), q.2.2.2.1, q.2.2.1, hn⟩ (ead_cons h1 ead_nil)
end
end K68


set_option Elab.async false
set_option linter.all false
set_option maxRecDepth 100000
set_option maxHeartbeats 4000000
/-! K68F: cores. -/
namespace K68
open PySem L2 DL PySem.Spec PyProof.Rows
section
variable {P : Program} {w : World} {K : PySem.W.Frag} {S S' H H' : Hp} {v : V} {σ : L2.St} {te : TE}
def CoreP (K : PySem.W.Frag) (h : List Str) (as : List A) : Hp → V → Prop := fun S v => ∃ as', CoreR h as as' ∧ Dp K S v (qD h as')
theorem perCore {h : List Str} {as : List A} (p : CoreP K h as S v) : Per (CoreP K h as) S v := fun S1 e => let ⟨a, b, c⟩ := p; ⟨a, b, dp_ex e _ _ c⟩
abbrev Ci := { p : List Str × List A // QPre p.1 p.2 ∧ p.2.Nodup ∧ p.2 ≠ [] }
def sp_core_of (K : PySem.W.Frag) : Sp := SpOf (ι := Ci) (fun i => AreD K [qD i.1.1 i.1.2]) (fun i => CoreP K i.1.1 i.1.2)
theorem dall_aD : ∀ as : List A, PyData.depthAll (as.map aD) ≤ 2
  | [] => Nat.zero_le _
  | a :: as => by
    rw [List.map_cons, PyData.depthAll]
    exact Nat.max_le.mpr ⟨Nat.le_refl _, dall_aD as⟩
theorem any_aD (as : List A) (a : A) : ((as.map aD).any fun z => PyData.eqv z (aD a)) = decide (a ∈ as) := by
  rw [Bool.eq_iff_iff, List.any_eq_true, decide_eq_true_iff]
  constructor
  · rintro ⟨z, hz, e⟩
    obtain ⟨b, hb, rfl⟩ := List.mem_map.mp hz
    rw [eqv_aD] at e
    rw [← of_decide_eq_true e]; exact hb
  · exact fun h => ⟨aD a, List.mem_map_of_mem h, by rw [eqv_aD]; exact decide_eq_true rfl⟩
theorem used_ints (as us : List A) : (((as.map aD).zipIdx.filter fun p => (us.map aD).any fun z => PyData.eqv z p.1).map fun p => PyData.int (p.2 : Int)) = intsD ((as.zipIdx.filter fun p => decide (p.1 ∈ us)).map (·.2)) := by
  rw [zipIdx_map', List.filter_map, List.map_map]
  unfold intsD
  rw [List.map_map]
  have e : ((fun p => (us.map aD).any fun z => PyData.eqv z p.1) ∘ fun p : A × Nat => (aD p.1, p.2)) = fun p : A × Nat => decide (p.1 ∈ us) := by
    funext p
    exact any_aD us p.1
  rw [e]
  rfl
theorem pure_core_of : ∀ vs H Q E, sp_core_of K vs H Q E → t_core_of P w K (sp_fold_of K) (sp_led_atoms K) (sp_part_of K) (sp_unlike_ones K) { nx := fun _ H' => Q .non H', rt := Q } (start N_core_of vs) H := pure_of fun i S H vs e h D k _ => by
  obtain ⟨⟨hq, as⟩, c1, c2, c3⟩ := i
  obtain ⟨v, rfl, h1⟩ := dps1 h
  simp only at h1 c1 c2 c3 k
  refine q_set e (call_fold c1 c2 (ev_varD rfl h1)) fun fo S1 H1 ok1 p1 => ?_
  refine s_while (D := { D with nx := _ }) (S0 := S) (H0 := H) (fun m σ' S' H' => ∃ cur fo x y z as', σ' = [some cur, some fo, x, y, z] ∧ as'.length = m ∧ Dp K S' cur (qD hq as') ∧ OptLed (foldM hq as') S' fo ∧ QPre hq as' ∧ as'.Nodup ∧ as' ≠ [] ∧ ∀ as'', CoreR hq as' as'' → CoreR hq as as'') as.length ok1 ⟨v, fo, none, none, none, as, rfl, rfl, dp_ex ok1.ss _ _ h1, p1.now, c1, c2, c3, fun _ h => h⟩ ?_
  rintro m σ' S2 H2 ok2 ⟨cur, fo, x, y, z, as', rfl, hlen, g1, g2, g3, g4, g5, g6⟩
  refine ⟨(foldM hq as').isSome, et_B (ev_notN (K := K) (ev_var rfl (perOpt g2)) optN), fun hz S3 H3 ok3 => ?_, fun hz S3 H3 ok3 => ?_⟩
  · obtain ⟨mm, hm⟩ := Option.isSome_iff_exists.mp hz
    obtain ⟨s1, s2, s3, s4, s5, s6⟩ := core_step g3 g4 g5 hm
    have l6 : as'.length ≤ 6 := g3.2.2.1
    have g2 : IsLed mm S2 fo := by rw [hm] at g2; exact g2
    have d3 := dp_ex ok3.ss _ _ g1
    refine q_set ok3.sh (ev_call (ι := { p : (List Str × List A) × Led // (∀ a ∈ p.1.2, OkA a) ∧ Covers p.2 p.1.2 ∧ p.1.2.length ≤ 100 }) ⟨((hq, as'), mm), g3.2.2.2.1, s5, by show as'.length ≤ 100; omega⟩ ((ea2 (ev_varD rfl d3) (ev_var rfl ((perLed g2).ex ok3.ss))).imp fun S2 vs ⟨v1, r1, e1, e2, v2, r2, e3, e4, e5⟩ => ⟨v1, v2, by rw [e1, e3, e5], e2, e4⟩)) fun us S4 H4 ok4 p4 => ?_
    have d4 := dp_ex ok4.ss _ _ d3
    have d4' : Dp K S4 cur (.tuple (qL hq as')) := d4
    have hsel := sel_zip as' (fun a => decide (a ∈ as'.map (imgA mm)))
    have lis : ((as'.zipIdx.filter fun p => decide (p.1 ∈ as'.map (imgA mm))).map (·.2)).length ≤ 6 := by
      rw [List.length_map]
      refine Nat.le_trans (List.length_filter_le _ _) ?_
      rw [List.length_zipIdx]; exact l6
    refine q_set ok4.sh (call_part_of (is := (as'.zipIdx.filter fun p => decide (p.1 ∈ as'.map (imgA mm))).map (·.2)) (fun i hi => ?_) l6 lis (by rw [hsel]; exact s1) (ev_varD rfl d4) (EvL.evD ?_)) fun nq S5 H5 ok5 p5 => ?_
    · obtain ⟨p, hp, rfl⟩ := List.mem_map.mp hi
      exact (List.getElem?_eq_some_iff.mp (List.mem_zipIdx_iff_getElem?.mp (List.mem_filter.mp hp).1)).1
    · rw [← used_ints]
      refine el_lcD (σ := [some cur, some fo, some us, y, z]) (wi := iEnumU K (tCons (tOp (rIx K) (tVar 0) (tC (.int 2))) tNil)) (fun p => ((as'.map (imgA mm)).map aD).any fun z => PyData.eqv z p.1) (fun p => .int (p.2 : Int)) (ei_enumT (ead_cons (ev_ixT (j := 2) (ev_varD rfl d4') ev_int rfl) ead_nil)) (by rw [List.length_zipIdx, List.length_map]; omega) fun q S6 x' hy ex pz => ?_
      obtain ⟨v1, v2, eg, hv1, hv2⟩ := eg2 (K := K) (σ := [some cur, some fo, some us, none, none]) (i := 3) (j := 4) pz.now
      refine ⟨_, eg, rfl, et_test (ev_uInL (ev_varD rfl hv2) (ev_var rfl (p4.ex ex)) ?_), fun _ => ev_varD rfl hv1⟩
      have := dall_aD (as'.map (imgA mm))
      omega
    · refine s_set ok5.sh (call_fold s1 s2 (ev_varD rfl (by have := p5.now.2; rw [hsel] at this; exact this s3))) fun fo2 S6 H6 ok6 p6 => ?_
      refine ⟨_, S6, ?_, ok2.trans (ok3.trans (ok4.trans (ok5.trans ok6))), nq, fo2, _, _, _, _, rfl, rfl, ?_, p6.now, s1, s2, s3, fun as'' hc => g6 as'' (.step hm hc)⟩
      · rw [← hlen]; exact s4
      · have := p5.now.2; rw [hsel] at this; exact dp_ex ok6.ss _ _ (this s3)
  · have d3 := dp_ex ok3.ss _ _ g1
    have d3' : Dp K S3 cur (.tuple (qL hq as')) := d3
    refine s_ret ok3.sh (ev_tupD (ds := qL hq as') (ead_cons (ev_ixT (j := 0) (ev_varD rfl d3') ev_int rfl) (ead_cons (ev_ixT (j := 1) (ev_varD rfl d3') ev_int rfl) (ead_cons (ev_tupOf (ead_cons (call_unlike g4 (by have := g3.2.2.1; omega) (ev_ixT (j := 2) (ev_varD rfl d3') ev_int rfl)) ead_nil)) ead_nil))) (Nat.le_of_ble_eq_true rfl)) fun r S4 H4 ok4 p4 => k r S4 H4 ((ok2.trans ok3).trans ok4) (perCore ⟨as', g6 _ (.done (not_some hz)), p4.now⟩)
theorem call_core_of {h : List Str} {as : List A} (c1 : QPre h as) (c2 : as.Nodup) (c3 : as ≠ []) (h1 : Ev te σ S (DL.IsD K (qD h as))) : Ev (tCall (sp_core_of K) [] E0 (tCons te tNil)) σ S (CoreP K h as) := ev_call (ι := Ci) ⟨(h, as), c1, c2, c3⟩ (ead_cons h1 ead_nil)
def sp_is_core (K : PySem.W.Frag) : Sp := SpOf (ι := Ci) (fun i => AreD K [qD i.1.1 i.1.2]) (fun i => IsD K (.bool (foldM i.1.1 i.1.2).isNone))
theorem pure_is_core : ∀ vs H Q E, sp_is_core K vs H Q E → t_is_core P w K (sp_fold_of K) (sp_unlike_ones K) (sp_want_question K) { nx := fun _ H' => Q .non H', rt := Q } (start N_is_core vs) H := pure_of fun i S H vs e h D k _ => by
  obtain ⟨⟨hq, as⟩, c1, c2, c3⟩ := i
  obtain ⟨v, rfl, h1⟩ := dps1 h
  simp only at h1 c1 c2 c3 k
  refine q_drop e (call_want_question ⟨c1, c3⟩ (ev_varD rfl h1)) fun x S1 H1 ok1 _ => ?_
  have d1 := dp_ex ok1.ss _ _ h1
  have d1' : Dp K S1 v (.tuple (qL hq as)) := d1
  refine s_ret ok1.sh (ev_is (ev_andV (ev_isN (b := (foldM hq as).isNone) (call_fold c1 c2 (ev_varD rfl d1)) optI) fun _ => ev_uEq (ev_lenL (ead_cons (call_unlike c2 (by have := c1.2.2.1; omega) (ev_ixT (j := 2) (ev_varD rfl d1') ev_int rfl)) ead_nil)) (ev_lenT (ead_cons (ev_ixT (j := 2) (ev_varD rfl d1') ev_int rfl) ead_nil)) (Nat.zero_le 60)) ?_) fun r S2 H2 ok2 p2 => k r S2 H2 (ok1.trans ok2) p2
  rw [eqv_int, decide_eq_true rfl, Bool.and_true]
def sp_core (K : PySem.W.Frag) : Sp := sp_core_of K
theorem pure_core : ∀ vs H Q E, sp_core K vs H Q E → t_core P w K (sp_core_of K) (sp_want_question K) { nx := fun _ H' => Q .non H', rt := Q } (start N_core vs) H := pure_of fun i S H vs e h D k _ => by
  obtain ⟨⟨hq, as⟩, c1, c2, c3⟩ := i
  obtain ⟨v, rfl, h1⟩ := dps1 h
  simp only at h1 c1 c2 c3 k
  exact s_ret e (call_core_of c1 c2 c3 (call_want_question ⟨c1, c3⟩ (ev_varD rfl h1))) k
end
end K68


set_option Elab.async false
set_option linter.all false
set_option maxRecDepth 100000
set_option maxHeartbeats 4000000
/-! K68O: the plain law, further: coverings. -/
namespace K68
open PySem L2 DL PySem.Spec PyProof.Rows
theorem led_len : ∀ {as gs : List A} {m m' : Led}, ledM as gs m = some m' → m'.length ≤ m.length + 2 * as.length
  | [], gs, m, m', h => by have : m = m' := Option.some.inj h; subst this; exact Nat.le_refl _
  | a :: as, gs, m, m', h => by
    have h : (gs.findSome? fun g => (agreeM [(a.1, g.1), (a.2, g.2)] m).bind (ledM as gs)) = some m' := h
    obtain ⟨g, hg, hb⟩ := List.exists_of_findSome?_eq_some h
    obtain ⟨m1, e1, e2⟩ := Option.bind_eq_some_iff.mp hb
    have h1 := agree_len e1
    have h2 := led_len e2
    have h3 : [(a.1, g.1), (a.2, g.2)].length = 2 := rfl
    rw [List.length_cons]
    omega
theorem map_len {h : List Str} {as gs : List A} {hd : List Str} {m : Led} (e : mapM h as gs hd = some m) : m.length ≤ h.length + 2 * as.length := by
  obtain ⟨m1, e1, e2⟩ := Option.bind_eq_some_iff.mp e
  have h1 := agree_len e1
  have h2 := led_len e2
  have h3 : (h.zip hd).length ≤ h.length := by rw [List.length_zip]; exact Nat.min_le_left _ _
  have h4 : ([] : Led).length = 0 := rfl
  omega
def others (as : List A) (i : Nat) : List A := (as.zipIdx.filter fun p => decide (p.2 ≠ i)).map (·.1)
theorem others_len (as : List A) (i : Nat) : (others as i).length ≤ as.length := by
  unfold others
  rw [List.length_map]
  refine Nat.le_trans (List.length_filter_le _ _) ?_
  rw [List.length_zipIdx]; exact Nat.le_refl _
theorem others_mem {as : List A} {i : Nat} {b : A} (h : b ∈ others as i) : b ∈ as := by
  obtain ⟨p, hp, rfl⟩ := List.mem_map.mp h
  exact List.mem_of_getElem? (List.mem_zipIdx_iff_getElem?.mp (List.mem_filter.mp hp).1)
def usingF (as goals : List A) (g : A) (st : Led) (p : A × Nat) : Option Led := (agreeM [(p.1.1, g.1), (p.1.2, g.2)] st).bind (ledM (others as p.2) goals)
def usingM (h hd : List Str) (as goals : List A) (g : A) : Option Led := (agreeM (h.zip hd) []).bind fun st => as.zipIdx.findSome? (usingF as goals g st)
theorem using_len {h hd : List Str} {as goals : List A} {g : A} {m : Led} (e : usingM h hd as goals g = some m) : m.length ≤ h.length + 2 + 2 * as.length := by
  obtain ⟨m1, e1, e2⟩ := Option.bind_eq_some_iff.mp e
  obtain ⟨p, hp, e3⟩ := List.exists_of_findSome?_eq_some e2
  obtain ⟨m2, e4, e5⟩ := Option.bind_eq_some_iff.mp e3
  have h1 := agree_len e1
  have h2 := agree_len e4
  have h3 := led_len e5
  have h4 := others_len as p.2
  have h5 : (h.zip hd).length ≤ h.length := by rw [List.length_zip]; exact Nat.min_le_left _ _
  have h6 : ([] : Led).length = 0 := rfl
  have h7 : [(p.1.1, g.1), (p.1.2, g.2)].length = 2 := rfl
  omega
theorem using_full {f : Str → Str} {h hd : List Str} {as goals : List A} {g : A} (H : Hom f h as goals hd) {i : Nat} {a : A} (ha : as[i]? = some a) (hg : (f a.1, f a.2) = g) : (usingM h hd as goals g).isSome = true := by
  obtain ⟨m1, e1, f1⟩ := agree_full (f := f) (m := []) (fun x y q => by cases q) H.1
  obtain ⟨m2, e2, f2⟩ := agree_full (ps := [(a.1, g.1), (a.2, g.2)]) f1 (fun p hp => by
    rw [← hg] at hp
    rcases List.mem_cons.mp hp with rfl | hp
    · rfl
    · rw [List.mem_singleton.mp hp])
  obtain ⟨m3, e3⟩ := led_full (as := others as i) f2 fun b hb => H.2 b (others_mem hb)
  have hu : usingF as goals g m1 (a, i) = some m3 := by
    unfold usingF
    show (agreeM [(a.1, g.1), (a.2, g.2)] m1).bind _ = _
    rw [e2]; exact e3
  have hm : (a, i) ∈ as.zipIdx := List.mem_zipIdx_iff_getElem?.mpr ha
  unfold usingM
  rw [e1]
  show (as.zipIdx.findSome? (usingF as goals g m1)).isSome = true
  cases hf : as.zipIdx.findSome? (usingF as goals g m1) with
  | some _ => rfl
  | none =>
    have := List.findSome?_eq_none_iff.mp hf _ hm
    rw [hu] at this
    cases this
/-- covering: each goal is met -/
def covM (h : List Str) (as : List A) (h' : List Str) (as' : List A) : Bool := as'.all fun g => (usingM h h' as as' g).isSome
def LATT : List Str := ["held", "level", "least"]
def paperM (kind : Str) (h : List Str) (as L : List A) : Bool := if kind ∈ LATT then (mapM h as L h).isSome else if kind = "helped" then (covM h L h as && covM h as h L) else false
end K68


set_option Elab.async false
set_option linter.all false
set_option maxRecDepth 100000
set_option maxHeartbeats 4000000
/-! K68H: coverings, papers. -/
namespace K68
open PySem L2 DL PySem.Spec PyProof.Rows
section
variable {P : Program} {w : World} {K : PySem.W.Frag} {S S' H H' : Hp} {v : V} {σ : L2.St} {te : TE}
theorem ev_chainG {ta tb tc : TE} {i j k : Int} (p1 p2 : Int → Int → Bool) (ha : Ev ta σ S (DL.IsD K (.int i))) (hb : Ev tb σ S (DL.IsD K (.int j))) (hc : Ev tc σ S (DL.IsD K (.int k))) :
    Ev (tChain (rI0 fun i j => .bl (p1 i j)) (rI0 fun i j => .bl (p2 i j)) ta tb tc) σ S (DL.IsD K (.bool (p1 i j && p2 j k))) := fun S1 H1 a b Q q =>
  ha S1 H1 a b _ fun x S2 H2 ok2 q2 => hb S2 H2 (a.trans ok2.ss) ok2.sh _ fun y S3 H3 ok3 q3 => by
    have e1 := q2.now; have e2 := q3.now
    cases e1; cases e2
    refine ⟨i, j, rfl, rfl, p1 i j, rfl, ?_⟩
    cases h : p1 i j with
    | true =>
      rw [if_pos rfl]
      refine hc S3 H3 ((a.trans ok2.ss).trans ok3.ss) ok3.sh _ fun z S4 H4 ok4 q4 => ?_
      have e3 := q4.now
      cases e3
      refine ⟨j, k, rfl, rfl, ?_⟩
      exact q (.bl (p2 j k)) S4 H4 ((ok2.trans ok3).trans ok4) (by rw [h, Bool.true_and]; exact perD (.bl _))
    | false =>
      rw [if_neg Bool.false_ne_true]
      exact q _ S3 H3 (ok2.trans ok3) (by rw [h, Bool.false_and]; exact perD (.bl _))
/-! ### map_using -/
abbrev Ui2 := { p : (List Str × List A) × List A × List Str × A // (∀ x ∈ p.1.1, x ∈ NAMES) ∧ p.1.1.length ≤ 4 ∧ (∀ a ∈ p.1.2, OkA a) ∧ p.1.2.length ≤ 6 ∧ p.2.1.length ≤ 100 }
def sp_map_using (K : PySem.W.Frag) : Sp := SpOf (ι := Ui2) (fun i => AreD K [qD i.1.1.1 i.1.1.2, .list (i.1.2.1.map aD), .tuple (i.1.2.2.1.map .str), aD i.1.2.2.2]) (fun i => OptLed (usingM i.1.1.1 i.1.2.2.1 i.1.1.2 i.1.2.1 i.1.2.2.2))
theorem dps4 {vs : List V} {d1 d2 d3 d4 : PyData} (h : DpAll K S vs [d1, d2, d3, d4]) : ∃ v1 v2 v3 v4, vs = [v1, v2, v3, v4] ∧ Dp K S v1 d1 ∧ Dp K S v2 d2 ∧ Dp K S v3 d3 ∧ Dp K S v4 d4 := by
  cases h with
  | cons h1 h2 => obtain ⟨w, x, y, rfl, h3, h4, h5⟩ := dps3 h2; exact ⟨_, w, x, y, rfl, h1, h3, h4, h5⟩
theorem others_aD (as : List A) (i : Nat) : (((as.map aD).zipIdx.filter fun p => decide (p.2 ≠ i)).map (·.1)) = (others as i).map aD := by
  rw [zipIdx_map', List.filter_map, List.map_map]
  unfold others
  rw [List.map_map]
  rfl
theorem nat_ne (a b : Nat) : (!PyData.eqv (.int (a : Int)) (.int (b : Int))) = decide (a ≠ b) := by
  rw [eqv_int, decide_not]
  congr 1
  exact decide_eq_decide.mpr Int.ofNat_inj
theorem pure_map_using : ∀ vs H Q E, sp_map_using K vs H Q E → t_map_using P w K (sp_agreed K) (sp_led_into K 7) { nx := fun _ H' => Q .non H', rt := Q } (start N_map_using vs) H := pure_of fun i S H vs e h D k _ => by
  obtain ⟨⟨⟨hq, as⟩, gs, hd, g⟩, c1, c2, c3, c4, c5⟩ := i
  obtain ⟨v, u, t, gv, rfl, h1, h2, h3, h4⟩ := dps4 h
  simp only at h1 h2 h3 h4 c1 c2 c3 c4 c5 k
  have h1' : Dp K S v (.tuple (qL hq as)) := h1
  have h4' : Dp K S gv (.tuple [.str "Road", .tuple ([g.1, g.2].map .str)]) := h4
  refine q_set e (call_agreed (ts := hq) (gs := hd) (m := []) c1 (by omega) (Nat.zero_le _) (ev_ixT (j := 1) (ev_varD rfl h1') ev_int rfl) (ev_varD rfl h3) ev_led0) fun st S1 H1 ok1 p1 => ?_
  refine q_guard (b := (agreeM (hq.zip hd) []).isNone) ok1.sh (et_B (ev_isN (K := K) (ev_var rfl p1) optI)) (fun z S2 H2 ok2 => ?_) fun z S2 H2 ok2 => ?_
  · have e1 : usingM hq hd as gs g = none := by unfold usingM; rw [Option.isNone_iff_eq_none.mp z]; rfl
    exact s_ret ok2.sh (ev_none (usingM hq hd as gs g) e1) fun r S3 H3 ok3 p3 => k r S3 H3 ((ok1.trans ok2).trans ok3) p3
  cases hm : agreeM (hq.zip hd) [] with
  | none => rw [hm] at z; cases z
  | some m =>
    rw [hm] at p1
    have hl := agree_len hm
    have hz := zip_le hq hd
    have h00 : ([] : Led).length = 0 := rfl
    have e1 : usingM hq hd as gs g = as.zipIdx.findSome? (usingF as gs g m) := by unfold usingM; rw [hm]; rfl
    rw [e1] at k
    have ok12 := ok1.trans ok2
    refine q_for (σ := [some v, some u, some t, some gv, some st, none, none, none, none, none, none, none]) ok12 (ei_enumT (ead_cons (ev_ixT (j := 2) (ev_varD rfl (dp_ex ok12.ss _ _ h1')) ev_int rfl) ead_nil)) (fun i σ' S' H' => (∃ x1 x2 x3 x4 x5 x6 x7, σ' = [some v, some u, some t, some gv, some st, x1, x2, x3, x4, x5, x6, x7]) ∧ (as.zipIdx.take i).findSome? (usingF as gs g m) = none) (fun S3 H3 ok3 => ⟨⟨none, none, none, none, none, none, none, rfl⟩, rfl⟩) ?_ ?_
    · rintro S3 ex3 i y x σ' S4 H4 S5 H5 hy lo ⟨⟨x1, x2, x3, x4, x5, x6, x7, rfl⟩, q1⟩ ok5 pz
      rw [zipIdx_map', List.getElem?_map] at hy
      obtain ⟨⟨a, n⟩, hp, rfl⟩ := Option.map_eq_some_iff.mp hy
      have ham : (a, n) ∈ as.zipIdx := List.mem_of_getElem? hp
      have han := List.mem_of_getElem? (List.mem_zipIdx_iff_getElem?.mp ham)
      obtain ⟨y1, y2, y3, eg, hy1, hy2, hy3⟩ := eg12 (σ := [some v, some u, some t, some gv, some st, x1, x2, x3, x4, x5, x6, x7]) (i := 5) (j := 7) (l := 8) (show Dp K S5 x (.tuple [.int (n : Int), .tuple [.str "Road", .tuple [.str a.1, .str a.2]]]) from pz.now)
      have hy3 : Dp K S5 y3 (.tuple ([a.1, a.2].map .str)) := hy3
      have exx : Ex S S5 := ok12.ss.trans (ex3.trans (lo.ex.trans ok5.ss))
      have exs : Ex S1 S5 := ok2.ss.trans (ex3.trans (lo.ex.trans ok5.ss))
      obtain ⟨o1, o2⟩ := c3 a han
      have hnn : ∀ t ∈ [a.1, a.2], t ∈ NAMES := fun t ht => by
        rcases List.mem_cons.mp ht with rfl | ht
        · exact o1
        · rw [List.mem_singleton.mp ht]; exact o2
      refine eg H5 ok5.sh _ (q_set (P := OptLed (agreeM [(a.1, g.1), (a.2, g.2)] m)) ok5.sh (ev_if (b := true) (et_is (et_test (ev_uEq (ev_varD rfl hy2) (ev_ixT (j := 0) (ev_varD rfl (dp_ex exx _ _ h4')) ev_int rfl) (Nat.zero_le 60))) (eqv_refl_str _)) (fun _ => call_agreed (ts := [a.1, a.2]) (gs := [g.1, g.2]) (m := m) hnn (Nat.le_of_ble_eq_true rfl) (by omega) (ev_varD rfl hy3) (ev_ixT (j := 1) (ev_varD rfl (dp_ex exx _ _ h4')) ev_int rfl) (ev_var rfl (p1.ex exs))) fun z => by cases z) fun mo S6 H6 ok6 pm => ?_)
      have okb := (lo.ok.trans ok5).trans ok6
      refine s_if (b := (agreeM [(a.1, g.1), (a.2, g.2)] m).isSome) ok6.sh (et_B (ev_notN (K := K) (ev_var rfl pm) optN)) (fun z S7 H7 ok7 => ?_) fun z S7 H7 ok7 => ?_
      · obtain ⟨m', hm2⟩ := Option.isSome_iff_exists.mp z
        rw [hm2] at pm
        have hl2 := agree_len hm2
        have hl2 : m'.length ≤ m.length + 2 := hl2
        have ol := others_len as n
        have ex7 : Ex S S7 := exx.trans (ok6.ss.trans ok7.ss)
        have e2 : usingF as gs g m (a, n) = ledM (others as n) gs m' := by
          unfold usingF
          show (agreeM [(a.1, g.1), (a.2, g.2)] m).bind _ = _
          rw [hm2]; rfl
        refine q_set ok7.sh (call_led_into (j := 7) (as := others as n) (gs := gs) (m := m') (by omega) (fun b hb => c3 b (others_mem hb)) c5 (by omega) (EvL.evD ?_) (ev_varD rfl (dp_ex ex7 _ _ h2)) (ev_var rfl (pm.ex ok7.ss))) fun fo S8 H8 ok8 pf => ?_
        · rw [← others_aD]
          refine el_lcD (σ := [some v, some u, some t, some gv, some st, some y1, some mo, some y2, some y3, x5, x6, x7]) (wi := iEnumU K (tCons (tOp (rIx K) (tVar 0) (tC (.int 2))) tNil)) (fun p => decide (p.2 ≠ n)) (·.1) (ei_enumT (ead_cons (ev_ixT (j := 2) (ev_varD rfl (dp_ex ex7 _ _ h1')) ev_int rfl) ead_nil)) (by rw [List.length_zipIdx, List.length_map]; omega) fun q S9 x' hy' ex' pz' => ?_
          obtain ⟨w1, w2, eg', hw1, hw2⟩ := eg2 (K := K) (σ := [some v, some u, some t, some gv, some st, some y1, some mo, some y2, some y3, x5, none, none]) (i := 10) (j := 11) pz'.now
          exact ⟨_, eg', rfl, et_is (et_test (ev_uNe (ev_varD rfl hw1) (ev_varD rfl (dp_ex (ok6.ss.trans (ok7.ss.trans ex')) _ _ hy1)) (Nat.zero_le 60))) (nat_ne _ _), fun _ => ev_varD rfl hw2⟩
        · rw [← e2] at pf
          refine s_if (b := (usingF as gs g m (a, n)).isSome) ok8.sh (et_B (ev_notN (K := K) (ev_var rfl pf) optN)) (fun z S9 H9 ok9 => ?_) fun z S9 H9 ok9 => ?_
          · refine s_ret ok9.sh (ev_var rfl (pf.ex ok9.ss)) fun r Sa Ha oka pa => k r Sa Ha ((((okb.trans ok7).trans ok8).trans ok9).trans oka) ?_
            have := fs_take (f := usingF as gs g m) hp q1
            rw [this]
            obtain ⟨m3, hm3⟩ := Option.isSome_iff_exists.mp z
            rw [hm3] at pa ⊢
            exact pa
          · exact ⟨S9, ⟨((okb.trans ok7).trans ok8).trans ok9, lo.ex.trans (ok5.ss.trans (ok6.ss.trans (ok7.ss.trans (ok8.ss.trans ok9.ss))))⟩, ⟨_, _, _, _, _, _, _, rfl⟩, fs_take_succ hp q1 (not_some z)⟩
      · refine ⟨S7, ⟨okb.trans ok7, lo.ex.trans (ok5.ss.trans (ok6.ss.trans ok7.ss))⟩, ⟨_, _, _, _, _, _, _, rfl⟩, fs_take_succ hp q1 ?_⟩
        unfold usingF
        exact none_bind z
    · rintro σ' S4 H4 lo ⟨⟨x1, x2, x3, x4, x5, x6, x7, rfl⟩, q1⟩
      rw [List.length_zipIdx, List.length_map, ← List.length_zipIdx (l := as) (i := 0), List.take_length] at q1
      exact s_ret lo.ok.sh (ev_none (as.zipIdx.findSome? (usingF as gs g m)) q1) fun r Sa Ha oka pa => k r Sa Ha (lo.ok.trans oka) pa
theorem call_map_using {t1 t2 t3 t4 : TE} {h hd : List Str} {as gs : List A} {g : A} (c1 : ∀ x ∈ h, x ∈ NAMES) (c2 : h.length ≤ 4) (c3 : ∀ a ∈ as, OkA a) (c4 : as.length ≤ 6) (c5 : gs.length ≤ 100) (h1 : Ev t1 σ S (DL.IsD K (qD h as))) (h2 : Ev t2 σ S (DL.IsD K (.list (gs.map aD)))) (h3 : Ev t3 σ S (DL.IsD K (.tuple (hd.map .str)))) (h4 : Ev t4 σ S (DL.IsD K (aD g))) :
    Ev (tCall (sp_map_using K) [] E0 (tCons t1 (tCons t2 (tCons t3 (tCons t4 tNil))))) σ S (OptLed (usingM h hd as gs g)) := ev_call (ι := Ui2) ⟨((h, as), gs, hd, g), c1, c2, c3, c4, c5⟩ (ead_cons h1 (ead_cons h2 (ead_cons h3 (ead_cons h4 ead_nil))))
end
end K68


set_option Elab.async false
set_option linter.all false
set_option maxRecDepth 100000
set_option maxHeartbeats 4000000
/-! K68I: coverings, papers, going. -/
namespace K68
open PySem L2 DL PySem.Spec PyProof.Rows
section
variable {P : Program} {w : World} {K : PySem.W.Frag} {S S' H H' : Hp} {v : V} {σ : L2.St} {te : TE}
/-- not None, if b -/
def SomeP (b : Bool) : Hp → V → Prop := fun _ v => (!decide (v = V.non)) = b
theorem perSome {b : Bool} (h : SomeP b S v) : Per (SomeP b) S v := fun _ _ => h
theorem somI {b : Bool} : ∀ S1 x, SomeP b S1 x → decide (x = V.non) = !b := fun S1 x h => by
  have h : (!decide (x = V.non)) = b := h
  rw [← h, Bool.not_not]
theorem dp_some {d : PyData} (h : Dp K S v (.tuple [d])) : SomeP true S v := by
  obtain ⟨a, vs, rfl, _⟩ := dp_tuple.mp h
  rfl
theorem dpT_some {ds : List PyData} (h : Dp K S v (.tuple ds)) : SomeP true S v := by
  obtain ⟨a, vs, rfl, _⟩ := dp_tuple.mp h
  rfl
theorem call_told {m : Led} (hm : m.length < 1000) (h : Ev te σ S (IsLed m)) : Ev (tCall (sp_told_map K) [] E0 (tCons te tNil)) σ S (ToldP K) :=
  ev_call (ι := { m : Led // m.length < 1000 }) ⟨m, hm⟩ ((ea1 h).imp fun S1 vs ⟨v, r, e1, e2, e3⟩ => ⟨v, by rw [e1, e3], e2⟩)
theorem q_parL {D : Ends} {tz : TS} {ta tb : TE} {P2 : Hp → V → Prop} {R : Hp → List V → Prop} {i j : Nat} (e : Ex S H) (ha : EvL ta σ S R) (hb : ∀ S', Ex S S' → Ev tb σ S' P2) (k : ∀ l w ws S' H', Ok S H S' H' → H l = none → S' l = none → H' l = some (.lst ws) → PerA R S' ws → Per P2 S' w → tz D ((σ.set i (some (.ref l))).set j (some w)) H') : tSeq (tPar i j (tCons ta (tCons tb tNil))) tz D σ H :=
  ha S H (Evl.Ex.refl S) e _ fun l S2 H2 ws ok2 h1 h2 h3 pr _ => hb S2 ok2.ss S2 H2 (Evl.Ex.refl S2) ok2.sh _ fun w S3 H3 ok3 p3 => ⟨.ref l, w, rfl, k l w ws S3 H3 (ok2.trans ok3) h1 (ok3.av l _ h2 h3) (ok3.hh l _ h3) (pr.ex ok3.ss) p3⟩
/-! ### covering -/
abbrev Vi := { p : (List Str × List A) × (List Str × List A) // (∀ x ∈ p.1.1, x ∈ NAMES) ∧ p.1.1.length ≤ 4 ∧ (∀ a ∈ p.1.2, OkA a) ∧ p.1.2.length ≤ 6 ∧ p.2.2.length ≤ 6 ∧ p.2.2.Nodup }
def sp_covering (K : PySem.W.Frag) : Sp := SpOf (ι := Vi) (fun i => AreD K [qD i.1.1.1 i.1.1.2, qD i.1.2.1 i.1.2.2]) (fun i => SomeP (covM i.1.1.1 i.1.1.2 i.1.2.1 i.1.2.2))
theorem pure_covering : ∀ vs H Q E, sp_covering K vs H Q E → t_covering P w K (sp_map_using K) (sp_told_map K) (sp_unlike_ones K) { nx := fun _ H' => Q .non H', rt := Q } (start N_covering vs) H := pure_of fun i S H vs e h D k _ => by
  obtain ⟨⟨⟨hq, as⟩, ⟨hd, gs⟩⟩, c1, c2, c3, c4, c5, c6⟩ := i
  obtain ⟨v, u, rfl, h1, h2⟩ := dps2 h
  simp only at h1 h2 c1 c2 c3 c4 c5 c6 k
  have h2' : Dp K S u (.tuple (qL hd gs)) := h2
  refine q_parL (R := AreD K []) e el_nil (fun S' ex => call_unlike c6 (by omega) (ev_ixT (j := 2) (ev_varD rfl (dp_ex ex _ _ h2')) ev_int rfl)) fun l gv ws S1 H1 ok1 h0 hS hH pw pg => ?_
  have hw : ws = [] := by have := pw.now; cases this; rfl
  subst hw
  refine q_for (σ := [some v, some u, none, some (.ref l), some gv, none]) ok1 (ei_list (ev_var rfl pg)) (fun i σ' S' H' => (∃ x1 x2, σ' = [some v, some u, x1, some (.ref l), some gv, x2]) ∧ ((gs.take i).all fun g => (usingM hq hd as gs g).isSome) = true ∧ S' l = none ∧ ∃ us kss, H' l = some (.lst us) ∧ DpAll K S' us (kss.map kD) ∧ (∀ ks ∈ kss, (NestedKey.tup ks).depth ≤ 8) ∧ kss.length ≤ i) (fun S3 H3 ok3 => ⟨⟨none, none, rfl⟩, rfl, ok3.av l _ hS hH, [], [], ok3.hh l _ hH, .nil, (fun _ hx => nomatch hx), Nat.le_refl _⟩) ?_ ?_
  · rintro S3 ex3 i y x σ' S4 H4 S5 H5 hy lo ⟨⟨x1, x2, rfl⟩, q1, q2, us, kss, q3, q4, q5, q6⟩ ok5 pz
    rw [List.getElem?_map] at hy
    obtain ⟨g, hg, rfl⟩ := Option.map_eq_some_iff.mp hy
    have hil : i < gs.length := (List.getElem?_eq_some_iff.mp hg).1
    have ex5 : Ex S1 S5 := ex3.trans (lo.ex.trans ok5.ss)
    have exx : Ex S S5 := ok1.ss.trans ex5
    refine eg_name H5 ok5.sh _ (q_set (σ := [some v, some u, some x, some (.ref l), some gv, x2]) ok5.sh (call_map_using (g := g) c1 c2 c3 c4 (by omega) (ev_varD rfl (dp_ex exx _ _ h1)) (ev_var rfl (pg.ex ex5)) (ev_ixT (j := 1) (ev_varD rfl (dp_ex exx _ _ h2')) ev_int rfl) (ev_var rfl pz)) fun mo S6 H6 ok6 pm => ?_)
    have okb := (lo.ok.trans ok5).trans ok6
    have n6 : S6 l = none := ok6.av l _ (ok5.av l _ q2 q3) (ok5.hh l _ q3)
    have g6 : H6 l = some (.lst us) := ok6.hh l _ (ok5.hh l _ q3)
    refine q_guard (b := (usingM hq hd as gs g).isNone) ok6.sh (et_B (ev_isN (K := K) (ev_var rfl pm) optI)) (fun z S7 H7 ok7 => ?_) fun z S7 H7 ok7 => ?_
    · refine s_ret ok7.sh (ev_non (K := K)) fun r S8 H8 ok8 p8 => k r S8 H8 ((okb.trans ok7).trans ok8) ?_
      have e1 : covM hq as hd gs = false := by
        unfold covM
        refine List.all_eq_false.mpr ⟨g, List.mem_of_getElem? hg, ?_⟩
        rw [Option.isNone_iff_eq_none.mp z]
        exact Bool.false_ne_true
      rw [e1]
      exact p8.imp fun S9 v hv => by cases hv; rfl
    · cases hm : usingM hq hd as gs g with
      | none => rw [hm] at z; cases z
      | some m =>
        rw [hm] at pm
        have hl := using_len hm
        have hul : us.length ≤ 6 := by have := dps_len q4; rw [List.length_map] at this; omega
        refine s_append (vs := us) ok7.sh rfl (ok7.av l _ n6 g6) (ok7.hh l _ g6) (by omega) (call_told (m := m) (by omega) (ev_var rfl (pm.ex ok7.ss))) fun tv S8 H8 ok8 r1 r2 pt => ?_
        obtain ⟨ks, pk, pd⟩ := pt.now
        refine ⟨S8, ⟨((okb.trans ok7).trans ok8).mut h0 r1, lo.ex.trans (ok5.ss.trans (ok6.ss.trans (ok7.ss.trans ok8.ss)))⟩, ⟨_, _, rfl⟩, ?_, r1, us ++ [tv], kss ++ [ks], upd_same, ?_, ?_, ?_⟩
        · rw [List.take_add_one, hg, List.all_append, q1]
          show (true && ((usingM hq hd as gs g).isSome && true)) = true
          rw [hm]; rfl
        · rw [List.map_append]
          exact dps_append (dps_ex (ok5.ss.trans (ok6.ss.trans (ok7.ss.trans ok8.ss))) _ _ q4) (.cons pk .nil)
        · intro k2 hk2
          rcases List.mem_append.mp hk2 with hk2 | hk2
          · exact q5 k2 hk2
          · rw [List.mem_singleton.mp hk2]; exact pd
        · rw [List.length_append, List.length_singleton]; omega
  · rintro σ' S4 H4 lo ⟨⟨x1, x2, rfl⟩, q1, q2, us, kss, q3, q4, q5, q6⟩
    rw [List.length_map, List.take_length] at q1
    rw [List.length_map] at q6
    have okf := lo.ok.freeze h0 q2 q3
    have e1 : covM hq as hd gs = true := q1
    refine s_ret okf.sh (ev_tupOf (ead_cons (ev_call (ι := Ui) ⟨(true, kss), q5, by show kss.length ≤ 1000; omega⟩ (ead_cons (ev_varD rfl (.lst (SqL.of upd_same) (dps_ex (Evl.Ex.new q2) _ _ q4))) ead_nil)) ead_nil)) fun r S5 H5 ok5 p5 => k r S5 H5 (okf.trans ok5) ?_
    rw [e1]
    exact p5.imp fun S6 v hv => dpT_some hv
theorem call_covering {t1 t2 : TE} {h hd : List Str} {as gs : List A} (c1 : ∀ x ∈ h, x ∈ NAMES) (c2 : h.length ≤ 4) (c3 : ∀ a ∈ as, OkA a) (c4 : as.length ≤ 6) (c5 : gs.length ≤ 6) (c6 : gs.Nodup) (h1 : Ev t1 σ S (DL.IsD K (qD h as))) (h2 : Ev t2 σ S (DL.IsD K (qD hd gs))) :
    Ev (tCall (sp_covering K) [] E0 (tCons t1 (tCons t2 tNil))) σ S (SomeP (covM h as hd gs)) := ev_call (ι := Vi) ⟨((h, as), (hd, gs)), c1, c2, c3, c4, c5, c6⟩ (ead_cons h1 (ead_cons h2 ead_nil))
theorem bn_t {b : Bool} (h : (!b) = true) : b = false := by cases b <;> first | rfl | cases h
theorem bn_f {b : Bool} (h : (!b) = false) : b = true := by cases b <;> first | rfl | cases h
/-! ### paper_of -/
def LATTD : PyData := .tuple (LATT.map .str)
def KINDS : List Str := ["held", "level", "least", "helped", "ways", "counted", "used", "all", "price", "sure", "count"]
def KINDSD : PyData := .tuple (KINDS.map .str)
theorem any_str (xs : List Str) (x : Str) : ((xs.map PyData.str).any fun z => PyData.eqv z (.str x)) = decide (x ∈ xs) := by
  rw [Bool.eq_iff_iff, List.any_eq_true, decide_eq_true_iff]
  constructor
  · rintro ⟨z, hz, e⟩
    obtain ⟨b, hb, rfl⟩ := List.mem_map.mp hz
    rw [eqv_str] at e
    rw [← of_decide_eq_true e]; exact hb
  · exact fun h => ⟨.str x, List.mem_map_of_mem h, by rw [eqv_str]; exact decide_eq_true rfl⟩
/-- the question, a place, the atoms without that place -/
structure Less (h : List Str) (as : List A) (i : Nat) (a : A) : Prop where
  q : QPre h as
  nd : as.Nodup
  get : as[i]? = some a
  ql : QPre h (as.filter fun b => decide (b ≠ a))
abbrev Ppi := { p : Str × (List Str × List A) × Nat × A // Less p.2.1.1 p.2.1.2 p.2.2.1 p.2.2.2 ∧ (p.2.1.2.filter fun b => decide (b ≠ p.2.2.2)) ≠ [] }
def sp_paper_of (K : PySem.W.Frag) : Sp := SpOf (ι := Ppi) (fun i => AreD K [.str i.1.1, qD i.1.2.1.1 i.1.2.1.2, .int (i.1.2.2.1 : Int)]) (fun i => SomeP (paperM i.1.1 i.1.2.1.1 i.1.2.1.2 (i.1.2.1.2.filter fun b => decide (b ≠ i.1.2.2.2))))
theorem range_ints (n i : Nat) : (((List.range n).filter fun (j : Nat) => !PyData.eqv (.int (j : Int)) (.int (i : Int))).map fun (j : Nat) => PyData.int (j : Int)) = intsD ((List.range n).filter fun j => decide (j ≠ i)) := by
  unfold intsD
  congr 1
  exact List.filter_congr fun j _ => nat_ne j i
/-- the call of part_of by [x for x in range(n) if x != position] -/
theorem ev_lesser {h : List Str} {as : List A} {i : Nat} {a : A} {tq tn tp : TE} {s : Nat} (L : Less h as i a) (hq : ∀ S', Ex S S' → Ev tq σ S' (DL.IsD K (qD h as))) (hn : Ev tn σ S (DL.IsD K (.int (as.length : Int))))
    (hw : ∀ x, (((wipe σ [s]).set s (some x))[s]? = some (some x)) ∧ wipe ((wipe σ [s]).set s (some x)) [s] = wipe σ [s]) (hp : ∀ x S', Ex S S' → Ev tp ((wipe σ [s]).set s (some x)) S' (DL.IsD K (.int (i : Int)))) :
    Ev (tCall (sp_part_of K) [] E0 (tCons tq (tCons (tLc (iRng1 (tCons tn tNil)) (gName s) (tTest (tOp (uNe K) (tVar s) tp)) (tVar s) [s]) tNil))) σ S (PartP K h (as.filter fun b => decide (b ≠ a))) := by
  have l6 := L.q.2.2.1
  have hs := sel_range L.nd L.get
  have := call_part_of (K := K) (σ := σ) (S := S) (t1 := tq) (t2 := tLc (iRng1 (tCons tn tNil)) (gName s) (tTest (tOp (uNe K) (tVar s) tp)) (tVar s) [s]) (h := h) (as := as) (is := (List.range as.length).filter fun j => decide (j ≠ i)) (fun j hj => List.mem_range.mp (List.mem_filter.mp hj).1) l6 (Nat.le_trans (List.length_filter_le _ _) (by rw [List.length_range]; exact l6)) (by rw [hs]; exact L.ql) (hq S (Evl.Ex.refl S)) (EvL.evD (by
    rw [← range_ints]
    exact el_lcD (fun (j : Nat) => !PyData.eqv (.int (j : Int)) (.int (i : Int))) (fun (j : Nat) => PyData.int (j : Int)) (ei_rng1 (ead_cons hn ead_nil) (by omega)) (by rw [List.length_range]; omega) fun y S1 x hy ex pz =>
      ⟨_, eg_name, (hw x).2, et_test (ev_uNe (ev_var (hw x).1 pz) (hp x S1 ex) (Nat.zero_le 60)), fun _ => ev_var (hw x).1 pz⟩))
  rw [hs] at this
  exact this
theorem pure_paper_of {aL : Addr} (cL : ∀ S, Dp K S (.ref aL) LATTD) : ∀ vs H Q E, sp_paper_of K vs H Q E → t_paper_of P w K (sp_covering K) (sp_map_into K) (sp_part_of K) (sp_told_map K) aL { nx := fun _ H' => Q .non H', rt := Q } (start N_paper_of vs) H := pure_of fun i S H vs e h D k kn => by
  obtain ⟨⟨kind, ⟨hq, as⟩, i, a⟩, L, hne⟩ := i
  obtain ⟨kv, v, pv, rfl, h1, h2, h3⟩ := dps3 h
  simp only at h1 h2 h3 L hne k
  have h2' : Dp K S v (.tuple (qL hq as)) := h2
  refine q_set e (ev_lesser L (fun S' ex => ev_varD rfl (dp_ex ex _ _ h2)) (ev_is (ev_lenT (ead_cons (ev_ixT (j := 2) (ev_varD rfl h2') ev_int rfl) ead_nil)) (by rw [List.length_map])) (fun x => ⟨rfl, rfl⟩) fun x S' ex => ev_varD rfl (dp_ex ex _ _ h3)) fun lv S1 H1 ok1 p1 => ?_
  have pl := p1.now.2 hne
  have pl' : Dp K S1 lv (.tuple (qL hq (as.filter fun b => decide (b ≠ a)))) := pl
  obtain ⟨⟨a1, a2, a3, a4, a5⟩, nd, gt, bb⟩ := L
  have ndl := nd.filter fun b => decide (b ≠ a)
  clear kn h
  obtain ⟨LL, hLL⟩ : ∃ LL, LL = as.filter fun b => decide (b ≠ a) := ⟨_, rfl⟩
  rw [← hLL] at hne pl pl' k bb ndl
  clear p1 hLL
  obtain ⟨b1, b2, b3, b4, b5⟩ := bb
  have d1 := dp_ex ok1.ss _ _ h2
  refine q_guard (b := decide (kind ∈ LATT)) ok1.sh (et_is (et_test (ev_uInT (ev_varD rfl (dp_ex ok1.ss _ _ h1)) (ev_c fun S' _ => cL S') (Nat.zero_le _))) (any_str _ _)) (fun z S2 H2 ok2 => ?_) fun z S2 H2 ok2 => ?_
  · refine q_set ok2.sh (call_map_into (gs := LL) (hd := hq) a2 (by omega) a4 a3 (by omega) (ev_varD rfl (dp_ex ok2.ss _ _ d1)) (EvL.evD (el_listOf ((ea1 (ev_ixT (j := 2) (ev_varD rfl (dp_ex ok2.ss _ _ pl')) ev_int rfl)).imp fun S1 vs ⟨v, r, e1, e2, e3⟩ => ⟨v, by rw [e1, e3], .inr e2⟩) (by rw [List.length_map]; omega))) (ev_ixT (j := 1) (ev_varD rfl (dp_ex ok2.ss _ _ pl')) ev_int rfl)) fun mo S3 H3 ok3 pm => ?_
    have e1 : paperM kind hq as LL = (mapM hq as LL hq).isSome := by unfold paperM; rw [if_pos (of_decide_eq_true z)]
    rw [e1] at k
    refine s_ret ok3.sh (P := SomeP (mapM hq as LL hq).isSome) (ev_if (b := (mapM hq as LL hq).isNone) (et_B (ev_isN (K := K) (ev_var rfl pm) optI)) (fun y => ?_) fun y => ?_) fun r S4 H4 ok4 p4 => k r S4 H4 (((ok1.trans ok2).trans ok3).trans ok4) p4
    · rw [Option.isNone_iff_eq_none.mp y]
      exact ev_c fun _ _ => rfl
    · cases hm : mapM hq as LL hq with
      | none => rw [hm] at y; cases y
      | some m =>
        rw [hm] at pm
        have hl := map_len hm
        exact ev_tup (ea1 (call_told (m := m) (by omega) (ev_var rfl pm))) (fun S1 vs ⟨v, r, e1, e2, e3⟩ => by rw [e1, e3]; exact Nat.le_of_ble_eq_true rfl) fun S1 vs p _ => .inl fun _ _ => rfl
  · have nz : ¬ kind ∈ LATT := fun hz => by rw [decide_eq_true hz] at z; cases z
    refine q_guard (b := !decide (kind = "helped")) ok2.sh (et_is (et_test (ev_uNe (ev_varD rfl (dp_ex (ok1.ss.trans ok2.ss) _ _ h1)) ev_str (Nat.zero_le 60))) (by rw [eqv_str])) (fun y S3 H3 ok3 => ?_) fun y S3 H3 ok3 => ?_
    · have e1 : paperM kind hq as LL = false := by
        unfold paperM
        rw [if_neg nz, if_neg (fun hk => by rw [decide_eq_true hk] at y; cases y)]
      rw [e1] at k
      exact s_ret ok3.sh (ev_c (P := SomeP false) fun _ _ => rfl) fun r S4 H4 ok4 p4 => k r S4 H4 (((ok1.trans ok2).trans ok3).trans ok4) p4
    · have hk : kind = "helped" := by
        by_cases hk : kind = "helped"
        · exact hk
        · rw [decide_eq_false hk] at y; cases y
      have e1 : paperM kind hq as LL = (covM hq LL hq as && covM hq as hq LL) := by
        unfold paperM
        rw [if_neg nz, if_pos hk]
      rw [e1] at k
      have ok23 := ok2.trans ok3
      have dl := dp_ex ok23.ss _ _ pl
      have dq := dp_ex ok23.ss _ _ d1
      refine q_par ok3.sh (call_covering (hd := hq) (gs := as) a2 (by omega) b4 b3 a3 nd (ev_varD rfl dl) (ev_varD rfl dq)) (call_covering (hd := hq) (gs := LL) a2 (by omega) a4 a3 b3 ndl (ev_varD rfl dq) (ev_varD rfl dl)) fun tv bv S4 H4 ok4 pt pb => ?_
      refine s_ret ok4.sh (P := SomeP (covM hq LL hq as && covM hq as hq LL)) (ev_if (b := !(covM hq LL hq as && covM hq as hq LL)) (et_is (et_or (et_B (ev_isN (K := K) (ev_var rfl pt) somI)) fun _ => et_B (ev_isN (K := K) (ev_var rfl pb) somI)) (by rw [Bool.not_and])) (fun x => ?_) fun x => ?_) fun r S5 H5 ok5 p5 => k r S5 H5 (((ok1.trans ok23).trans ok4).trans ok5) p5
      · rw [show (covM hq LL hq as && covM hq as hq LL) = false from bn_t x]
        exact ev_c fun _ _ => rfl
      · rw [show (covM hq LL hq as && covM hq as hq LL) = true from bn_f x]
        exact ev_tup (ea2 (ev_var rfl pt) (ev_var rfl pb)) (fun S1 vs ⟨v, r, e1, e2, v2, r2, e3, e4, e5⟩ => by rw [e1, e3, e5]; exact Nat.le_of_ble_eq_true rfl) fun S1 vs p _ => .inl fun _ _ => rfl
end
end K68


set_option Elab.async false
set_option linter.all false
set_option maxRecDepth 100000
set_option maxHeartbeats 4000000
/-! K68J: going, can_go, least_helped. -/
namespace K68
open PySem L2 DL PySem.Spec PyProof.Rows
section
variable {P : Program} {w : World} {K : PySem.W.Frag} {S S' H H' : Hp} {v : V} {σ : L2.St} {te : TE}
def sp_is_kind (K : PySem.W.Frag) : Sp := SpOf (ι := { x : Str // x ∈ KINDS }) (fun i => AreD K [.str i.1]) (fun _ => IsD K (.bool true))
theorem pure_is_kind {aK : Addr} (cK : ∀ S, Dp K S (.ref aK) KINDSD) : ∀ vs H Q E, sp_is_kind K vs H Q E → t_is_kind P w K aK { nx := fun _ H' => Q .non H', rt := Q } (start N_is_kind vs) H := pure_of fun i S H vs e h D k _ => by
  obtain ⟨v, rfl, h1⟩ := dps1 h
  exact s_ret e (ev_is (ev_andV (ev_isT (b := true) (ev_varD rfl h1) k_ss) fun _ => ev_uInT (ev_varD rfl h1) (ev_c fun S' _ => cK S') (Nat.zero_le _)) (by rw [any_str, decide_eq_true i.2]; rfl)) k
def sp_want_kind (K : PySem.W.Frag) : Sp := SpOf (ι := { x : Str // x ∈ KINDS }) (fun i => AreD K [.str i.1]) (fun i => IsD K (.str i.1))
theorem pure_want_kind : ∀ vs H Q E, sp_want_kind K vs H Q E → t_want_kind P w K (sp_is_kind K) { nx := fun _ H' => Q .non H', rt := Q } (start N_want_kind vs) H := pure_of fun i S H vs e h D k _ => by
  obtain ⟨v, rfl, h1⟩ := dps1 h
  refine q_guard (b := false) e (et_is (et_not (et_B (ev_call (ι := { x : Str // x ∈ KINDS }) i (ead_cons (ev_varD rfl h1) ead_nil)))) rfl) (fun z => by cases z) fun _ S2 H2 ok2 => ?_
  exact s_ret ok2.sh (ev_varD rfl (dp_ex ok2.ss _ _ h1)) fun u S3 H3 ok3 p => k u S3 H3 (ok2.trans ok3) p
abbrev Gi := { p : Str × (List Str × List A) × Nat × A // (Less p.2.1.1 p.2.1.2 p.2.2.1 p.2.2.2 ∧ (p.2.1.2.filter fun b => decide (b ≠ p.2.2.2)) ≠ []) ∧ p.1 ∈ KINDS }
theorem get_ne {as : List A} {i : Nat} {a : A} (h : as[i]? = some a) : as ≠ [] := fun e => by rw [e] at h; simp at h
def sp_want_going (K : PySem.W.Frag) : Sp := SpOf (ι := Gi) (fun i => AreD K [.str i.1.1, qD i.1.2.1.1 i.1.2.1.2, .int (i.1.2.2.1 : Int)]) (fun _ => IsD K .none)
theorem pure_want_going : ∀ vs H Q E, sp_want_going K vs H Q E → t_want_going P w K (sp_is_integer K) (sp_part_of K) (sp_want_kind K) (sp_want_question K) { nx := fun _ H' => Q .non H', rt := Q } (start N_want_going vs) H := pure_of fun i S H vs e h D _ k => by
  obtain ⟨⟨kind, ⟨hq, as⟩, i, a⟩, ⟨L, hne⟩, hk⟩ := i
  obtain ⟨kv, v, pv, rfl, h1, h2, h3⟩ := dps3 h
  simp only at h1 h2 h3 L hne hk k
  have hii : i < as.length := (List.getElem?_eq_some_iff.mp L.get).1
  refine q_drop e (ev_call (ι := { x : Str // x ∈ KINDS }) ⟨kind, hk⟩ (ead_cons (ev_varD rfl h1) ead_nil)) fun _ S1 H1 ok1 _ => ?_
  refine q_set (P := DL.IsD K (.int (as.length : Int))) ok1.sh (ev_is (ev_lenT (ead_cons (ev_ixT (j := 2) (ds := qL hq as) (call_want_question ⟨L.q, get_ne L.get⟩ (ev_varD rfl (dp_ex ok1.ss _ _ h2))) ev_int rfl) ead_nil)) (by rw [List.length_map])) fun nv S2 H2 ok2 pn => ?_
  have ok12 := ok1.trans ok2
  refine q_guard (b := false) ok2.sh (et_is (et_or (et_not (et_B (ev_call (ι := Int) (i : Int) (ead_cons (ev_varD rfl (dp_ex ok12.ss _ _ h3)) ead_nil)))) fun _ => et_not (et_test (ev_chainG (fun i j => decide (i ≤ j)) (fun i j => decide (i < j)) ev_int (ev_varD rfl (dp_ex ok12.ss _ _ h3)) (ev_var rfl pn)))) ?_) (fun z => by cases z) fun _ S3 H3 ok3 => ?_
  · rw [decide_eq_true (Int.natCast_nonneg i), decide_eq_true (Int.ofNat_lt.mpr hii)]; rfl
  have ok13 := ok12.trans ok3
  refine s_if (b := false) ok3.sh (et_B (ev_isN (K := K) (ev_lesser L (fun S' ex => ev_varD rfl (dp_ex (ok13.ss.trans ex) _ _ h2)) (ev_var rfl (pn.ex ok3.ss)) (fun x => ⟨rfl, rfl⟩) fun x S' ex => ev_varD rfl (dp_ex (ok13.ss.trans ex) _ _ h3)) fun S1 x hx => ?_)) (fun z => by cases z) fun _ S4 H4 ok4 => k _ S4 H4 (ok13.trans ok4) (perD .non)
  have := hx.2 hne
  obtain ⟨b, ws, rfl, _⟩ := dp_tuple.mp (show Dp K S1 x (.tuple (qL hq _)) from this)
  rfl
def goP (p : Str × (List Str × List A) × Nat × A) : Bool := paperM p.1 p.2.1.1 p.2.1.2 (p.2.1.2.filter fun b => decide (b ≠ p.2.2.2))
def sp_going_paper (K : PySem.W.Frag) : Sp := SpOf (ι := Gi) (fun i => AreD K [.str i.1.1, qD i.1.2.1.1 i.1.2.1.2, .int (i.1.2.2.1 : Int)]) (fun i => SomeP (goP i.1))
theorem call_paper {t1 t2 t3 : TE} {kind : Str} {hq : List Str} {as : List A} {i : Nat} {a : A} (L : Less hq as i a) (hne : (as.filter fun b => decide (b ≠ a)) ≠ []) (h1 : Ev t1 σ S (DL.IsD K (.str kind))) (h2 : Ev t2 σ S (DL.IsD K (qD hq as))) (h3 : Ev t3 σ S (DL.IsD K (.int (i : Int)))) :
    Ev (tCall (sp_paper_of K) [] E0 (tCons t1 (tCons t2 (tCons t3 tNil)))) σ S (SomeP (paperM kind hq as (as.filter fun b => decide (b ≠ a)))) := ev_call (ι := Ppi) ⟨(kind, (hq, as), i, a), L, hne⟩ (ead_cons h1 (ead_cons h2 (ead_cons h3 ead_nil)))
theorem pure_going_paper : ∀ vs H Q E, sp_going_paper K vs H Q E → t_going_paper P w K (sp_paper_of K) (sp_want_going K) { nx := fun _ H' => Q .non H', rt := Q } (start N_going_paper vs) H := pure_of fun i S H vs e h D k _ => by
  obtain ⟨⟨kind, ⟨hq, as⟩, i, a⟩, ⟨L, hne⟩, hk⟩ := i
  obtain ⟨kv, v, pv, rfl, h1, h2, h3⟩ := dps3 h
  simp only at h1 h2 h3 L hne hk k
  refine q_drop e (ev_call (ι := Gi) ⟨(kind, (hq, as), i, a), ⟨L, hne⟩, hk⟩ (ead_cons (ev_varD rfl h1) (ead_cons (ev_varD rfl h2) (ead_cons (ev_varD rfl h3) ead_nil)))) fun _ S1 H1 ok1 _ => ?_
  exact s_ret ok1.sh (call_paper L hne (ev_varD rfl (dp_ex ok1.ss _ _ h1)) (ev_varD rfl (dp_ex ok1.ss _ _ h2)) (ev_varD rfl (dp_ex ok1.ss _ _ h3))) fun u S3 H3 ok3 p => k u S3 H3 (ok1.trans ok3) p
def sp_can_go (K : PySem.W.Frag) : Sp := SpOf (ι := Gi) (fun i => AreD K [.str i.1.1, qD i.1.2.1.1 i.1.2.1.2, .int (i.1.2.2.1 : Int)]) (fun i => IsD K (.bool (goP i.1)))
theorem pure_can_go : ∀ vs H Q E, sp_can_go K vs H Q E → t_can_go P w K (sp_going_paper K) { nx := fun _ H' => Q .non H', rt := Q } (start N_can_go vs) H := pure_of fun i S H vs e h D k _ => by
  obtain ⟨kv, v, pv, rfl, h1, h2, h3⟩ := dps3 h
  exact s_ret e (ev_notN (b := goP i.1) (ev_call (ι := Gi) i (ead_cons (ev_varD rfl h1) (ead_cons (ev_varD rfl h2) (ead_cons (ev_varD rfl h3) ead_nil)))) fun S1 x hx => hx) k
/-! ### least_helped of a star -/
structure Star (h : List Str) (as : List A) : Prop where
  q : QPre h as
  nd : as.Nodup
  ne : as ≠ []
  hd : ∀ a ∈ as, ∀ x ∈ h, x = a.1
  tl : ∀ a ∈ as, ∀ x ∈ h, a.2 ≠ x
theorem Star.less {h : List Str} {as : List A} {i : Nat} {a : A} (s : Star h as) (g : as[i]? = some a) : Less h as i a := by
  obtain ⟨⟨q1, q2, q3, q4, q5⟩, nd, ne, hd, tl⟩ := s
  refine ⟨⟨q1, q2, q3, q4, q5⟩, nd, g, q1, q2, Nat.le_trans (List.length_filter_le _ _) q3, fun b hb => q4 b (List.mem_filter.mp hb).1, ?_⟩
  by_cases hl : (as.filter fun b => decide (b ≠ a)) = []
  · exact .inl hl
  · obtain ⟨b, hb⟩ := List.exists_mem_of_ne_nil _ hl
    exact .inr fun x hx => ⟨b, hb, .inl (hd b (List.mem_filter.mp hb).1 x hx)⟩
theorem Star.sub {h : List Str} {as : List A} {a : A} (s : Star h as) (hl : (as.filter fun b => decide (b ≠ a)) ≠ []) : Star h (as.filter fun b => decide (b ≠ a)) := by
  obtain ⟨⟨q1, q2, q3, q4, q5⟩, nd, ne, hd, tl⟩ := s
  refine ⟨⟨q1, q2, Nat.le_trans (List.length_filter_le _ _) q3, fun b hb => q4 b (List.mem_filter.mp hb).1, ?_⟩, nd.filter _, hl, (fun b hb => hd b (List.mem_filter.mp hb).1), fun b hb => tl b (List.mem_filter.mp hb).1⟩
  obtain ⟨b, hb⟩ := List.exists_mem_of_ne_nil _ hl
  exact .inr fun x hx => ⟨b, hb, .inl (hd b (List.mem_filter.mp hb).1 x hx)⟩
def OneP (K : PySem.W.Frag) (h : List Str) : Hp → V → Prop := fun S v => ∃ a : A, Dp K S v (qD h [a])
/-- every place of such a question may go, helped, while two are left -/
def Helpful (h : List Str) : Prop := ∀ as a, Star h as → a ∈ as → (as.filter fun b => decide (b ≠ a)) ≠ [] → paperM "helped" h as (as.filter fun b => decide (b ≠ a)) = true
def sp_least_helped (K : PySem.W.Frag) : Sp := SpOf (ι := { p : List Str × List A // Star p.1 p.2 ∧ Helpful p.1 }) (fun i => AreD K [qD i.1.1 i.1.2]) (fun i => OneP K i.1.1)
theorem pure_least_helped : ∀ vs H Q E, sp_least_helped K vs H Q E → t_least_helped P w K (sp_paper_of K) (sp_part_of K) (sp_want_question K) { nx := fun _ H' => Q .non H', rt := Q } (start N_least_helped vs) H := pure_of fun i S H vs e h D k _ => by
  obtain ⟨⟨hq, as⟩, st, hf⟩ := i
  obtain ⟨v, rfl, h1⟩ := dps1 h
  simp only at h1 st hf k
  refine q_drop e (call_want_question ⟨st.q, st.ne⟩ (ev_varD rfl h1)) fun _ S1 H1 ok1 _ => ?_
  refine q_set ok1.sh (ev_int (K := K)) fun z S2 H2 ok2 pz => ?_
  have ok12 := ok1.trans ok2
  refine s_while (D := { D with nx := _ }) (S0 := S) (H0 := H) (fun m σ' S' H' => ∃ cur x y t as', σ' = [some cur, some x, y, t] ∧ Dp K S' cur (qD hq as') ∧ Star hq as' ∧ ((x = .int 0 ∧ m = as'.length + 1) ∨ (x = .int 1 ∧ as'.length = 1 ∧ m = 0))) (as.length + 1) ok12 ⟨v, z, none, none, as, rfl, dp_ex ok12.ss _ _ h1, st, .inl ⟨by have := pz.now; cases this; rfl, rfl⟩⟩ ?_
  rintro m σ' S3 H3 ok3 ⟨cur, x, y, t, as', rfl, g1, g2, g3⟩
  have g1' : Dp K S3 cur (.tuple (qL hq as')) := g1
  have hl0 : 0 < as'.length := List.length_pos_iff.mpr g2.ne
  rcases g3 with ⟨rfl, rfl⟩ | ⟨rfl, hl1, rfl⟩
  · refine ⟨true, et_is (et_test (ev_I0 (ev_varD rfl (.int 0)) (ev_lenT (ead_cons (ev_ixT (j := 2) (ev_varD rfl g1') ev_int rfl) ead_nil)) (perD (K := K) (.bl _)))) (decide_eq_true (by rw [List.length_map]; omega)), fun _ S4 H4 ok4 => ?_, fun z => by cases z⟩
    obtain ⟨a, ar, ha⟩ : ∃ a ar, as' = a :: ar := by
      cases as' with
      | nil => exact absurd rfl g2.ne
      | cons a ar => exact ⟨a, ar, rfl⟩
    have hget : as'[0]? = some a := by rw [ha]; rfl
    have L := g2.less hget
    have d4 := dp_ex ok4.ss _ _ g1
    have d4' := dp_ex ok4.ss _ _ g1'
    refine q_set ok4.sh (ev_lesser L (fun S' ex => ev_varD rfl (dp_ex ex _ _ d4)) (ev_is (ev_lenT (ead_cons (ev_ixT (j := 2) (ev_varD rfl d4') ev_int rfl) ead_nil)) (by rw [List.length_map])) (fun x => ⟨rfl, rfl⟩) fun x S' ex => ev_varD rfl (.int 0)) fun lv S5 H5 ok5 p5 => ?_
    have d5 := dp_ex ok5.ss _ _ d4
    have okk := ok3.trans (ok4.trans ok5)
    by_cases hl : (as'.filter fun b => decide (b ≠ a)) = []
    · have el : lv = .non := p5.now.1 hl
      subst el
      refine s_if (b := false) ok5.sh (et_is (et_and (a := false) (b := false) (et_B (ev_notN (K := K) (P1 := IsV .non) (ev_var rfl perV) fun S1 x hx => by subst hx; rfl)) fun z => by cases z) rfl) (fun z => by cases z) fun _ S6 H6 ok6 => ?_
      have h1a : as'.length = 1 := by
        have : ar = [] := by
          rw [ha, List.filter_cons, if_neg (by simp)] at hl
          have nda := g2.nd
          rw [ha, List.nodup_cons] at nda
          cases ar with
          | nil => rfl
          | cons b r =>
            have := List.filter_eq_nil_iff.mp hl b List.mem_cons_self
            exact (this (decide_eq_true fun e => nda.1 (e ▸ List.mem_cons_self))).elim
        rw [ha, this]; rfl
      refine ⟨.int 0, rfl, 0, 1, rfl, rfl, 0, S6, Nat.succ_pos _, okk.trans ok6, cur, _, _, _, as', rfl, dp_ex ok6.ss _ _ d5, g2, .inr ⟨rfl, h1a, rfl⟩⟩
    · have dl := p5.now.2 hl
      have hpap := hf as' a g2 (by rw [ha]; exact List.mem_cons_self) hl
      refine s_if (b := true) ok5.sh (et_is (et_and (a := true) (b := true) (et_B (ev_notN (K := K) (ev_varD rfl dl) fun S1 x hx => ?_)) fun _ => et_B (ev_notN (K := K) (call_paper L hl ev_str (ev_varD rfl d5) (ev_varD rfl (.int 0))) fun S1 x hx => hx.trans hpap)) rfl) (fun _ S6 H6 ok6 => ?_) fun z => by cases z
      · obtain ⟨b, ws, rfl, _⟩ := dp_tuple.mp (show Dp K S1 x (.tuple (qL hq _)) from hx)
        rfl
      · refine s_asg ok6.sh (ev_tupD (ead_cons (ev_varD rfl (dp_ex ok6.ss _ _ dl)) (ead_cons (d := .int 0) ev_int ead_nil)) (Nat.le_of_ble_eq_true rfl)) fun tv S7 H7 ok7 p7 => ?_
        obtain ⟨y1, y2, eg, hy1, hy2⟩ := eg2 (K := K) (σ := [some cur, some (.int 0), some lv, t]) (i := 0) (j := 1) p7.now
        cases hy2
        refine eg H7 ok7.sh _ ⟨_, S7, ?_, okk.trans (ok6.trans ok7), y1, .int 0, some lv, t, _, rfl, hy1, g2.sub hl, .inl ⟨rfl, rfl⟩⟩
        have : (as'.filter fun b => decide (b ≠ a)).length < as'.length := List.length_filter_lt_length_iff_exists.mpr ⟨a, by rw [ha]; exact List.mem_cons_self, by simp⟩
        omega
  · refine ⟨false, et_is (et_test (ev_I0 (ev_varD rfl (.int 1)) (ev_lenT (ead_cons (ev_ixT (j := 2) (ev_varD rfl g1') ev_int rfl) ead_nil)) (perD (K := K) (.bl _)))) (decide_eq_false (by rw [List.length_map]; omega)), fun z => (by cases z), fun _ S4 H4 ok4 => ?_⟩
    refine s_ret ok4.sh (ev_varD rfl (dp_ex ok4.ss _ _ g1)) fun r S5 H5 ok5 p5 => k r S5 H5 ((ok3.trans ok4).trans ok5) ?_
    obtain ⟨a, rfl⟩ := List.length_eq_one_iff.mp hl1
    exact p5.imp fun S6 v hv => ⟨a, hv⟩
end
end K68


set_option Elab.async false
set_option linter.all false
set_option maxRecDepth 100000
set_option maxHeartbeats 4000000
/-! K68P: forms. -/
namespace K68
open PySem L2 DL PySem.Spec PyProof.Rows
def kT (x : Str) : PyData := .tuple [.int 2, .int 0, .str x]
def kA (a : A) : PyData := .tuple [.str "Road", .list [kT a.1, kT a.2]]
def letter (n : Nat) : Str := ⟨#[97 + n]⟩
def withM : List Str → Led → Led
  | [], m => m
  | t :: ts, m => withM ts (if (m.lookup t).isSome = true then m else m ++ [(t, letter m.length)])
theorem alphabet_at : ∀ n, n < 26 → (Str.cps "abcdefghijklmnopqrstuvwxyz").toList[n]? = some (97 + n) := by decide +kernel
section
variable {P : Program} {w : World} {K : PySem.W.Frag} {S S' H H' : Hp} {v : V} {σ : L2.St} {te : TE}
def sp_term_key (K : PySem.W.Frag) : Sp := SpOf (ι := { x : Str // x ∈ NAMES }) (fun i => AreD K [.str i.1]) (fun i => IsD K (kT i.1))
theorem pure_term_key : ∀ vs H Q E, sp_term_key K vs H Q E → t_term_key P w K (sp_is_name K) { nx := fun _ H' => Q .non H', rt := Q } (start N_term_key vs) H := pure_of fun i S H vs e h D k _ => by
  obtain ⟨v, rfl, h1⟩ := dps1 h
  exact s_ret e (ev_if (b := true) (et_B (call_is_name i.2 (ev_varD rfl h1))) (fun _ => ev_tupD (ead_cons ev_int (ead_cons ev_int (ead_cons (ev_varD rfl h1) ead_nil))) (Nat.le_of_ble_eq_true rfl)) fun z => by cases z) k
theorem call_term_key {x : Str} (hx : x ∈ NAMES) (h : Ev te σ S (DL.IsD K (.str x))) : Ev (tCall (sp_term_key K) [] E0 (tCons te tNil)) σ S (DL.IsD K (kT x)) := ev_call (ι := { x : Str // x ∈ NAMES }) ⟨x, hx⟩ (ead_cons h ead_nil)
theorem el_keys {xs : List Str} {s : Nat} (hx : ∀ x ∈ xs, x ∈ NAMES) (hn : xs.length ≤ 100) (h : Ev te σ S (DL.IsD K (.tuple (xs.map .str)))) (hw : ∀ x, ((wipe σ [s]).set s (some x))[s]? = some (some x) ∧ wipe ((wipe σ [s]).set s (some x)) [s] = wipe σ [s]) :
    EvL (tLc (iTup K te) (gName s) tYes (tCall (sp_term_key K) [] E0 (tCons (tVar s) tNil)) [s]) σ S (AreD K (xs.map kT)) := by
  have e : xs.map kT = (xs.map PyData.str).map fun d => match d with | .str x => kT x | _ => .none := by rw [List.map_map]; rfl
  rw [e]
  refine el_lcY (fun d => match d with | .str x => kT x | _ => .none) (ei_tup h) (by rw [List.length_map]; omega) fun y S1 x hy ex pz => ?_
  obtain ⟨z, hz, rfl⟩ := List.mem_map.mp hy
  exact ⟨_, eg_name, (hw x).2, call_term_key (hx z hz) (ev_var (hw x).1 pz)⟩
def sp_atom_key (K : PySem.W.Frag) : Sp := SpOf (ι := { a : A // OkA a }) (fun i => AreD K [aD i.1]) (fun i => IsD K (kA i.1))
theorem pure_atom_key : ∀ vs H Q E, sp_atom_key K vs H Q E → t_atom_key P w K (sp_term_key K) { nx := fun _ H' => Q .non H', rt := Q } (start N_atom_key vs) H := pure_of fun i S H vs e h D k _ => by
  obtain ⟨a, o1, o2⟩ := i
  obtain ⟨v, rfl, h1⟩ := dps1 h
  have h1 : Dp K S v (.tuple [.str "Road", .tuple ([a.1, a.2].map .str)]) := h1
  refine s_ret e (ev_tupD (ead_cons (ev_ixT (j := 0) (ev_varD rfl h1) ev_int rfl) (ead_cons (EvL.evD (el_keys (xs := [a.1, a.2]) (fun x hx => ?_) (Nat.le_of_ble_eq_true rfl) (ev_ixT (j := 1) (ev_varD rfl h1) ev_int rfl) fun x => ⟨rfl, rfl⟩)) ead_nil)) (Nat.le_of_ble_eq_true rfl)) k
  rcases List.mem_cons.mp hx with rfl | hx
  · exact o1
  · rw [List.mem_singleton.mp hx]; exact o2
theorem call_atom_key {a : A} (ho : OkA a) (h : Ev te σ S (DL.IsD K (aD a))) : Ev (tCall (sp_atom_key K) [] E0 (tCons te tNil)) σ S (DL.IsD K (kA a)) := ev_call (ι := { a : A // OkA a }) ⟨a, ho⟩ (ead_cons h ead_nil)
def kOf (d : PyData) : PyData := match d with | .tuple [_, .tuple [.str x, .str y]] => kA (x, y) | _ => .none
theorem kOf_aD (as : List A) : (as.map aD).map kOf = as.map kA := by rw [List.map_map]; rfl
def sp_question_key (K : PySem.W.Frag) : Sp := SpOf (ι := { p : List Str × List A // (∀ x ∈ p.1, x ∈ NAMES) ∧ p.1.length ≤ 10 ∧ (∀ a ∈ p.2, OkA a) ∧ p.2.length ≤ 10 }) (fun i => AreD K [qD i.1.1 i.1.2]) (fun i => IsD K (.list [.list (i.1.1.map kT), .list (i.1.2.map kA)]))
theorem pure_question_key : ∀ vs H Q E, sp_question_key K vs H Q E → t_question_key P w K (sp_atom_key K) (sp_term_key K) { nx := fun _ H' => Q .non H', rt := Q } (start N_question_key vs) H := pure_of fun i S H vs e h D k _ => by
  obtain ⟨⟨hq, as⟩, c1, c2, c3, c4⟩ := i
  obtain ⟨v, rfl, h1⟩ := dps1 h
  simp only at h1 c1 c2 c3 c4 k
  have h1' : Dp K S v (.tuple (qL hq as)) := h1
  refine s_ret e (EvL.evD (el_lstD (ead_cons (EvL.evD (el_keys (xs := hq) c1 (by omega) (ev_ixT (j := 1) (ev_varD rfl h1') ev_int rfl) fun x => ⟨rfl, rfl⟩)) (ead_cons (EvL.evD ?_) ead_nil)) (Nat.le_of_ble_eq_true rfl))) k
  rw [← kOf_aD]
  refine el_lcY (σ := start N_question_key [v]) (wi := iTup K (tOp (rIx K) (tVar 0) (tC (.int 2)))) kOf (ei_tup (ev_ixT (j := 2) (ev_varD rfl h1') ev_int rfl)) (by rw [List.length_map]; omega) fun y S1 x hy ex pz => ?_
  obtain ⟨a, ha, rfl⟩ := List.mem_map.mp hy
  exact ⟨_, eg_name, rfl, call_atom_key (c3 a ha) (ev_var rfl pz)⟩
/-! ### with_terms -/
abbrev Wti := { p : Led × List Str // (∀ t ∈ p.2, t ∈ NAMES) ∧ p.2.length ≤ 4 ∧ p.1.length ≤ 20 }
def sp_with_terms (K : PySem.W.Frag) : Sp := SpOf (ι := Wti) (fun i S vs => ∃ v u, vs = [v, u] ∧ IsLed i.1.1 S v ∧ Dp K S u (.tuple (i.1.2.map .str))) (fun i => IsLed (withM i.1.2 i.1.1))
theorem pure_with_terms : ∀ vs H Q E, sp_with_terms K vs H Q E → t_with_terms P w K (sp_is_name K) { nx := fun _ H' => Q .non H', rt := Q } (start N_with_terms vs) H := pure_of fun i S H vs e h D k _ => by
  obtain ⟨⟨m, ts⟩, c1, c2, c3⟩ := i
  obtain ⟨v, u, rfl, h1, h2⟩ := h
  simp only at h1 h2 c1 c2 c3 k
  refine q_setF e (ef_copy (ea1 (ev_var rfl (perLed h1)))) fun l S1 H1 ok1 h0 hS hH => ?_
  refine q_for (σ := [some v, some u, some (.ref l), none]) ok1 (ei_tup (ev_varD rfl (dp_ex ok1.ss _ _ h2))) (fun i σ' S' H' => ∃ x m', σ' = [some v, some u, some (.ref l), x] ∧ S' l = none ∧ H' l = some (.dK (kvT m')) ∧ m'.length ≤ m.length + i ∧ withM (ts.drop i) m' = withM ts m) (fun S3 H3 ok3 => ⟨none, m, rfl, ok3.av l _ hS hH, ok3.hh l _ hH, Nat.le_refl _, rfl⟩) ?_ ?_
  · rintro S3 ex3 i y x σ' S4 H4 S5 H5 hy lo ⟨x0, m', rfl, q1, q2, q3, q4⟩ ok5 pz
    rw [List.getElem?_map] at hy
    obtain ⟨t, ht, rfl⟩ := Option.map_eq_some_iff.mp hy
    have hil : i < ts.length := (List.getElem?_eq_some_iff.mp ht).1
    have hd : ts.drop i = t :: ts.drop (i + 1) := by
      obtain ⟨hl, he⟩ := List.getElem?_eq_some_iff.mp ht
      rw [List.drop_eq_getElem_cons hl, he]
    rw [hd] at q4
    have n5 := ok5.av l _ q1 q2
    have g5 := ok5.hh l _ q2
    have htn := c1 t (List.mem_of_getElem? ht)
    have exl : Ex S5 (upd S5 l (.dK (kvT m'))) := Evl.Ex.new n5
    refine eg_name H5 ok5.sh _ ?_
    refine own_et (σ := [some v, some u, some (.ref l), some x]) (b := !(m'.lookup t).isSome) ok5.sh n5 g5 (et_is (et_and (et_B (call_is_name htn (ev_var rfl (pz.ex exl)))) fun _ => et_B (ev_din (K := K) (ev_var rfl (pz.ex exl)) (ev_var rfl (perLed (m := m') ⟨l, rfl, upd_same⟩)))) (by rw [Bool.true_and])) fun S6 H6 ok6 g6 => ?_
    have pz6 : Per (DL.IsD K (.str t)) (rm S6 l) x := pz.ex ok6.ss
    have lo6 : Lo S H S3 (rm S6 l) H6 := ⟨(lo.ok.trans ok5).trans ok6, lo.ex.trans (ok5.ss.trans ok6.ss)⟩
    cases hlk : m'.lookup t with
    | some y =>
      rw [if_neg (by simp)]
      refine ⟨rm S6 l, lo6, some x, m', rfl, rm_none, g6, by omega, ?_⟩
      rw [← q4]
      show _ = withM _ (if (m'.lookup t).isSome = true then m' else _)
      rw [hlk]
      rfl
    | none =>
      rw [if_pos (by simp)]
      refine own_ev ok6.sh rm_none g6 (ev_ixS (j := m'.length) (c := 97 + m'.length) ev_str (ev_lenLed (ea1 (ev_var rfl (perLed (m := m') ⟨l, rfl, upd_same⟩)))) (by decide) (alphabet_at _ (by omega))) fun z S7 H7 ok7 g7 pz7 => ?_
      have ez := pz7.now
      cases ez
      have et := pz.now
      cases et
      refine ⟨_, rfl, _, rfl, l, _, rfl, DPut.k (k := Sum.inr t) g7 (by rw [kvT_len]; exact Evl.sz_lt (by omega)), ?_⟩
      refine ⟨rm S7 l, ⟨(lo6.ok.trans ok7).mut h0 rm_none, lo6.ex.trans ok7.ss⟩, _, m' ++ [(t, letter m'.length)], rfl, rm_none, ?_, ?_, ?_⟩
      · rw [upd_same, put_new hlk]; rfl
      · rw [List.length_append, List.length_singleton]; omega
      · rw [← q4]
        show _ = withM _ (if (m'.lookup t).isSome = true then m' else _)
        rw [hlk]
        rfl
  · rintro σ' S4 H4 lo ⟨x0, m', rfl, q1, q2, q3, q4⟩
    rw [List.length_map, List.drop_length] at q4
    have okf := lo.ok.freeze h0 q1 q2
    refine s_ret okf.sh (ev_var rfl (perLed (m := m') ⟨l, rfl, upd_same⟩)) fun w2 S5 H5 ok5 p5 => k w2 S5 H5 (okf.trans ok5) ?_
    rw [← q4]
    exact p5
theorem call_with_terms {t1 t2 : TE} {m : Led} {ts : List Str} (c1 : ∀ t ∈ ts, t ∈ NAMES) (c2 : ts.length ≤ 4) (c3 : m.length ≤ 20) (h1 : Ev t1 σ S (IsLed m)) (h2 : Ev t2 σ S (DL.IsD K (.tuple (ts.map .str)))) :
    Ev (tCall (sp_with_terms K) [] E0 (tCons t1 (tCons t2 tNil))) σ S (IsLed (withM ts m)) := ev_call (ι := Wti) ⟨(m, ts), c1, c2, c3⟩ ((ea2 h1 h2).imp fun S2 vs ⟨v1, r1, e1, e2, v2, r2, e3, e4, e5⟩ => ⟨v1, v2, by rw [e1, e3, e5], e2, e4⟩)
end
end K68


set_option Elab.async false
set_option linter.all false
set_option maxRecDepth 100000
set_option maxHeartbeats 4000000
/-! K68Q: least_from. -/
namespace K68
open PySem L2 DL PySem.Spec PyProof.Rows
open PySem.W (dataLt minD alike alikeAll)
def spell (m : Led) (a : A) : A := imgA (withM [a.1, a.2] m) a
inductive LF : List A → Led → List A → Prop
  | nil {m} : LF [] m []
  | step {left m s r} (h0 : left ≠ []) (hm : m.length ≤ 10) (h1 : ∀ a ∈ left, OkA a ∧ OkA (spell m a)) (h2 : ∃ a ∈ left, spell m a = s)
      (h3 : ∀ a ∈ left, spell m a = s ∨ (dataLt (kA s) (kA (spell m a)) = true ∧ dataLt (kA (spell m a)) (kA s) = false))
      (h4 : ∀ a ∈ left, spell m a = s → LF (left.erase a) (withM [a.1, a.2] m) r) : LF left m (s :: r)
theorem LF.ok {left : List A} {m : Led} {r : List A} (h : LF left m r) : (∀ a ∈ r, OkA a) ∧ r.length = left.length := by
  induction h with
  | nil => exact ⟨(fun _ h => nomatch h), rfl⟩
  | step h0 hm h1 h2 h3 h4 ih =>
    obtain ⟨a, ha, e⟩ := h2
    obtain ⟨i1, i2⟩ := ih a ha e
    refine ⟨fun b hb => ?_, ?_⟩
    · rcases List.mem_cons.mp hb with rfl | hb
      · rw [← e]; exact (h1 a ha).2
      · exact i1 b hb
    · rw [List.length_cons, i2, List.length_erase_of_mem ha]
      have := List.length_pos_of_mem ha
      omega
theorem withM_sub : ∀ (ts : List Str) (m : Led), Sub m (withM ts m)
  | [], m => Sub.refl m
  | t :: ts, m => by
    refine Sub.trans ?_ (withM_sub ts _)
    split
    · exact Sub.refl m
    · exact fun x y q => by rw [lookup_snoc, q]; rfl
theorem withM_has : ∀ (ts : List Str) (m : Led), ∀ t ∈ ts, ((withM ts m).lookup t).isSome = true
  | t :: ts, m, x, hx => by
    rcases List.mem_cons.mp hx with rfl | hx
    · have key : ∃ y, (if (m.lookup x).isSome = true then m else m ++ [(x, letter m.length)]).lookup x = some y := by
        split
        · rename_i h; exact Option.isSome_iff_exists.mp h
        · rename_i h
          rw [lookup_snoc, if_pos rfl]
          cases m.lookup x with
          | none => exact ⟨_, rfl⟩
          | some y => exact ⟨y, rfl⟩
      obtain ⟨y, hy⟩ := key
      have := withM_sub ts _ x y hy
      show ((withM ts _).lookup x).isSome = true
      rw [this]; rfl
    · exact withM_has ts _ x hx
theorem dataLt_self (d : PyData) : dataLt d d = false := by
  unfold PySem.W.dataLt
  have := PySem.W.lex_pre (PySem.W.keyToks d) [] []
  rw [List.append_nil] at this
  rw [this]
  rfl
theorem minD_least {k : PyData} : ∀ (ds : List PyData) (d : PyData), (∀ x ∈ d :: ds, x = k ∨ (dataLt k x = true ∧ dataLt x k = false)) → k ∈ d :: ds → minD d ds = k
  | [], d, _, hk => (List.mem_singleton.mp hk).symm
  | e :: ds, d, h, hk => by
    show minD (if dataLt e d then e else d) ds = k
    have hd := h d List.mem_cons_self
    have he := h e (List.mem_cons_of_mem _ List.mem_cons_self)
    have hr : ∀ x ∈ ds, x = k ∨ (dataLt k x = true ∧ dataLt x k = false) := fun x hx => h x (List.mem_cons_of_mem _ (List.mem_cons_of_mem _ hx))
    refine minD_least ds _ (fun x hx => ?_) ?_
    · rcases List.mem_cons.mp hx with rfl | hx
      · split
        · exact he
        · exact hd
      · exact hr x hx
    · by_cases hm : k ∈ ds
      · exact List.mem_cons_of_mem _ hm
      · have hde : k = d ∨ k = e := by
          rcases List.mem_cons.mp hk with h | h
          · exact .inl h
          · rcases List.mem_cons.mp h with h | h
            · exact .inr h
            · exact absurd h hm
        have : (if dataLt e d then e else d) = k := by
          rcases hde with rfl | rfl
          · rcases he with rfl | ⟨_, h2⟩
            · rw [dataLt_self]; rfl
            · rw [h2]; rfl
          · rcases hd with rfl | ⟨h1, _⟩
            · rw [dataLt_self]; rfl
            · rw [h1]; rfl
        rw [this]; exact List.mem_cons_self
theorem alike_kA (a b : A) : alike (kA a) (kA b) = true := rfl
theorem alikes_kA : ∀ (xs ys : List A), alikeAll (xs.map kA) (ys.map kA) = true
  | [], _ => by simp [PySem.W.alikeAll]
  | _ :: _, [] => by simp [PySem.W.alikeAll]
  | x :: xs, y :: ys => by
    show (alike (kA x) (kA y) && alikeAll (xs.map kA) (ys.map kA)) = true
    rw [alike_kA, alikes_kA xs ys]; rfl
theorem dall_kA : ∀ as : List A, PyData.depthAll (as.map kA) ≤ 3
  | [] => Nat.zero_le _
  | a :: as => by
    rw [List.map_cons, PyData.depthAll]
    exact Nat.max_le.mpr ⟨Nat.le_refl _, dall_kA as⟩
theorem eqv_kA (a b : A) : PyData.eqv (kA a) (kA b) = decide (a = b) := by
  obtain ⟨x, y⟩ := a
  obtain ⟨z, w⟩ := b
  simp only [kA, kT, PyData.eqv, PyData.eqvAll, Bool.and_true]
  by_cases h1 : x = z
  · by_cases h2 : y = w
    · subst h1 h2; simp
    · have : (y == w) = false := by rw [beq_eq_false_iff_ne]; exact h2
      rw [this, decide_eq_false (fun e => h2 (Prod.mk.inj e).2)]; simp
  · have : (x == z) = false := by rw [beq_eq_false_iff_ne]; exact h1
    rw [this, decide_eq_false (fun e => h1 (Prod.mk.inj e).1)]; simp
theorem place_aD : ∀ (as : List A) (a : A), a ∈ as → ∃ j, SeqAt.dataPlace (as.map aD) (aD a) = some j ∧ (as.map aD).eraseIdx j = (as.erase a).map aD
  | b :: as, a, h => by
    unfold SeqAt.dataPlace
    rw [List.map_cons, List.findIdx?_cons, eqv_aD]
    by_cases e : b = a
    · subst e
      rw [decide_eq_true rfl]
      exact ⟨0, rfl, by rw [List.erase_cons_head]; rfl⟩
    · rw [decide_eq_false e]
      have ha : a ∈ as := (List.mem_cons.mp h).resolve_left fun z => e z.symm
      obtain ⟨j, h1, h2⟩ := place_aD as a ha
      unfold SeqAt.dataPlace at h1
      refine ⟨j + 1, by rw [h1]; rfl, ?_⟩
      rw [List.erase_cons_tail (by simpa using e), List.map_cons, ← h2]
      rfl
section
variable {P : Program} {w : World} {K : PySem.W.Frag} {S S' H H' : Hp} {v : V} {σ : L2.St} {te : TE}
def NextP (K : PySem.W.Frag) (m : Led) (x : A) : Hp → V → Prop := fun S v => ∃ a v1 v2 v3, v = V.ref a ∧ L2.SqT K S a [v1, v2, v3] ∧ Dp K S v1 (aD (spell m x)) ∧ Dp K S v2 (aD x) ∧ IsLed (withM [x.1, x.2] m) S v3
theorem perNext {m : Led} {x : A} (h : NextP K m x S v) : Per (NextP K m x) S v := fun S1 e => let ⟨a, v1, v2, v3, h1, h2, h3, h4, h5⟩ := h; ⟨a, v1, v2, v3, h1, Evl.ex_t e h2, dp_ex e _ _ h3, dp_ex e _ _ h4, perLed h5 S1 e⟩
theorem perNexts {m : Led} {xs : List A} {us : List V} (h : Paired (fun v x => NextP K m x S v) us xs) : PerA (AllP (NextP K m) xs) S us := fun S1 e => Paired.mapP h fun v x q => perNext q S1 e
theorem ev_min {te : TE} {d : PyData} {ds : List PyData} (h : Ev te σ S (DL.IsD K (.list (d :: ds)))) (ha : PySem.W.AlikeAll (d :: ds)) (hm : PyData.depthAll (d :: ds) ≤ 60) : Ev (tCB (rMinD K) (tCons te tNil)) σ S (DL.IsD K (minD d ds)) :=
  ev_cb (ead_cons h ead_nil) fun S1 H1 vs Q a b r q => by
    obtain ⟨v, rfl, h1⟩ := dps1 r
    obtain ⟨ad, ws, rfl, hs, hw⟩ := dp_list.mp h1
    refine ⟨ad, ws, d, ds, rfl, Evl.ex_l b hs, dps_ex b _ _ hw, ha, hm, fun i y hy hd => ?_⟩
    obtain ⟨d2, e2, h2⟩ := dps_get hw hy
    rw [hd] at e2
    cases e2
    exact q y (perD h2)
theorem call_led_terms {t1 t2 : TE} {m : Led} {ts : List Str} (c1 : ∀ t ∈ ts, t ∈ NAMES ∧ (m.lookup t).isSome = true) (c2 : ts.length ≤ 100) (h1 : Ev t1 σ S (DL.IsD K (.tuple (ts.map .str)))) (h2 : Ev t2 σ S (IsLed m)) :
    Ev (tCall (sp_led_terms K) [] E0 (tCons t1 (tCons t2 tNil))) σ S (DL.IsD K (.tuple ((ts.map (img m)).map .str))) :=
  ev_call (ι := { p : List Str × Led // (∀ t ∈ p.1, t ∈ NAMES ∧ (p.2.lookup t).isSome = true) ∧ p.1.length ≤ 100 }) ⟨(ts, m), c1, c2⟩ ((ea2 h1 h2).imp fun S2 vs ⟨v1, r1, e1, e2, v2, r2, e3, e4, e5⟩ => ⟨v1, v2, by rw [e1, e3, e5], e2, e4⟩)
abbrev Lfi (j : Nat) := { p : (List A × List A) × Led × List A // p.1.2.length < j ∧ LF p.1.2 p.2.1 p.2.2 ∧ (∀ a ∈ p.1.1, OkA a) ∧ p.1.1.length + p.1.2.length ≤ 10 }
def sp_least_from (K : PySem.W.Frag) (j : Nat) : Sp := SpOf (ι := Lfi j) (fun i S vs => ∃ v u t, vs = [v, u, t] ∧ Dp K S v (.list (i.1.1.1.map aD)) ∧ Dp K S u (.list (i.1.1.2.map aD)) ∧ IsLed i.1.2.1 S t) (fun i => IsD K (.list ((i.1.1.1 ++ i.1.2.2).map aD)))
theorem call_least_from {j : Nat} {t1 t2 t3 : TE} {told left : List A} {m : Led} {r : List A} (c1 : left.length < j) (c2 : LF left m r) (c3 : ∀ a ∈ told, OkA a) (c4 : told.length + left.length ≤ 10) (h1 : Ev t1 σ S (DL.IsD K (.list (told.map aD)))) (h2 : Ev t2 σ S (DL.IsD K (.list (left.map aD)))) (h3 : Ev t3 σ S (IsLed m)) :
    Ev (tCall (sp_least_from K j) [] E0 (tCons t1 (tCons t2 (tCons t3 tNil)))) σ S (DL.IsD K (.list ((told ++ r).map aD))) :=
  ev_call (ι := Lfi j) ⟨((told, left), m, r), c1, c2, c3, c4⟩ ((ea3 h1 h2 h3).imp fun S2 vs ⟨v1, r1, e1, e2, v2, r2, e3, e4, v3, r3, e5, e6, e7⟩ => ⟨v1, v2, v3, by rw [e1, e3, e5, e7], e2, e4, e6⟩)
/-- [atom_key(one) for one in xs] -/
theorem el_akeys {xs : List A} {s : Nat} (hx : ∀ x ∈ xs, OkA x) (hn : xs.length ≤ 100) (h : Ev te σ S (DL.IsD K (.list (xs.map aD)))) (hw : ∀ x, ((wipe σ [s]).set s (some x))[s]? = some (some x) ∧ wipe ((wipe σ [s]).set s (some x)) [s] = wipe σ [s]) :
    EvL (tLc (iList K te) (gName s) tYes (tCall (sp_atom_key K) [] E0 (tCons (tVar s) tNil)) [s]) σ S (AreD K (xs.map kA)) := by
  rw [← kOf_aD]
  refine el_lcY kOf (ei_list h) (by rw [List.length_map]; omega) fun y S1 x hy ex pz => ?_
  obtain ⟨z, hz, rfl⟩ := List.mem_map.mp hy
  exact ⟨_, eg_name, (hw x).2, call_atom_key (hx z hz) (ev_var (hw x).1 pz)⟩
theorem eg_next {m : Led} {x : A} {xv : V} {i j l : Nat} (h : NextP K m x S xv) : ∃ v1 v2 v3, EvG (gTup K 3 (gCons (gName i) (gCons (gName j) (gCons (gName l) gNil)))) xv σ S (((σ.set i (some v1)).set j (some v2)).set l (some v3)) ∧ Dp K S v1 (aD (spell m x)) ∧ Dp K S v2 (aD x) ∧ IsLed (withM [x.1, x.2] m) S v3 := by
  obtain ⟨a, v1, v2, v3, rfl, h2, h3, h4, h5⟩ := h
  exact ⟨v1, v2, v3, eg_tup h2 rfl (egs_cons eg_name (egs_cons eg_name (egs_cons eg_name egs_nil))), h3, h4, h5⟩
theorem ei_nexts {m : Led} {xs : List A} {us : List V} {a : Addr} {te : TE} (h : Ev te σ S (fun S v => v = V.ref a)) (hs : L2.SqL K S a us) (hu : Paired (fun v x => NextP K m x S v) us xs) : EvI (iList K te) σ S xs (NextP K m) :=
  ei_listP (K := K) (fun S1 H1 a1 b1 Q q => h S1 H1 a1 b1 Q fun v S2 H2 ok p => q v S2 H2 ok fun S3 e3 => ⟨a, us, p S3 e3, Evl.ex_l (a1.trans (ok.ss.trans e3)) hs, fun S4 e4 => perNexts hu S4 (a1.trans (ok.ss.trans (e3.trans e4))), paired_len hu⟩)
def FoundP (K : PySem.W.Frag) (c : Bool) (d : PyData) : Hp → V → Prop := fun S v => (c = false → v = .non) ∧ (c = true → Dp K S v d)
theorem perFound {c : Bool} {d : PyData} (h : FoundP K c d S v) : Per (FoundP K c d) S v := fun S1 e => ⟨h.1, fun z => dp_ex e _ _ (h.2 z)⟩
theorem any_take {xs : List A} {i : Nat} {x : A} (h : xs[i]? = some x) (q : A → Bool) : (xs.take (i + 1)).any q = ((xs.take i).any q || q x) := by
  rw [List.take_add_one, h, List.any_append]
  show _ = (_ || q x)
  congr 1
  show (q x || false) = q x
  rw [Bool.or_false]
theorem pure_least_from (j : Nat) : ∀ vs H Q E, sp_least_from K (j + 1) vs H Q E → t_least_from P w K (sp_atom_key K) (sp_least_from K j) (sp_led_terms K) (sp_with_terms K) { nx := fun _ H' => Q .non H', rt := Q } (start N_least_from vs) H := pure_of fun i S H vs e h D k _ => by
  obtain ⟨⟨⟨told, left⟩, m, rr⟩, c1, c2, c3, c4⟩ := i
  obtain ⟨v, u, t, rfl, h1, h2, h3⟩ := h
  simp only at h1 h2 h3 c1 c2 c3 c4 k
  refine q_guard (b := (left.map aD).isEmpty) e (et_is (et_test (ev_uEq (ev_varD rfl h2) el_nil.evD (by show min _ 1 ≤ 60; omega))) (eqv_emp _)) (fun z S2 H2 ok2 => ?_) fun z S1 H1 ok1 => ?_
  · have : left = [] := by cases left with | nil => rfl | cons _ _ => cases z
    subst this
    cases c2 with
    | nil => 
      refine s_ret ok2.sh (ev_varD rfl (dp_ex ok2.ss _ _ h1)) fun u S3 H3 ok3 p => k u S3 H3 (ok2.trans ok3) ?_
      rw [List.append_nil]; exact p
    | step h0 => exact absurd rfl h0
  · cases c2 with
    | nil => cases z
    | @step _ _ s r hh0 hm g1 g2 g3 g4 =>
      have hll : left.length ≤ 10 := by omega
      refine q_setL (R := AreD K []) ok1.sh el_nil fun l S2 H2 ws ok2 hl1 hS hH pw _ => ?_
      have hw : ws = [] := by have := pw.now; cases this; rfl
      subst hw
      have h0 := none_of ok1.hh hl1
      have ok12 := ok1.trans ok2
      refine q_for (σ := [some v, some u, some t, some (.ref l), none, none, none, none, none, none, none, none]) ok12 (ei_list (ev_varD rfl (dp_ex ok12.ss _ _ h2))) (fun i σ' S' H' => ∃ x4 x7, σ' = [some v, some u, some t, some (.ref l), x4, none, none, x7, none, none, none, none] ∧ S' l = none ∧ ∃ us, H' l = some (.lst us) ∧ Paired (fun v x => NextP K m x S' v) us (left.take i)) (fun S3 H3 ok3 => ⟨none, none, rfl, ok3.av l _ hS hH, [], ok3.hh l _ hH, .nil⟩) ?_ ?_
      · rintro S3 ex3 i y x σ' S4 H4 S5 H5 hy lo ⟨x4, x7, rfl, q1, us, q2, q3⟩ ok5 pz
        rw [List.getElem?_map] at hy
        obtain ⟨a, ha, rfl⟩ := Option.map_eq_some_iff.mp hy
        have ham := List.mem_of_getElem? ha
        obtain ⟨⟨o1, o2⟩, o3⟩ := g1 a ham
        have hnn : ∀ t ∈ [a.1, a.2], t ∈ NAMES := fun t ht => by
          rcases List.mem_cons.mp ht with rfl | ht
          · exact o1
          · rw [List.mem_singleton.mp ht]; exact o2
        have exx : Ex S S5 := ok12.ss.trans (ex3.trans (lo.ex.trans ok5.ss))
        have pa : Dp K S5 x (.tuple [.str "Road", .tuple ([a.1, a.2].map .str)]) := pz.now
        refine eg_name H5 ok5.sh _ (q_set (σ := [some v, some u, some t, some (.ref l), some x, none, none, x7, none, none, none, none]) ok5.sh (call_with_terms (m := m) (ts := [a.1, a.2]) hnn (Nat.le_of_ble_eq_true rfl) (by omega) (ev_var rfl ((perLed h3).ex exx)) (ev_ixT (j := 1) (ev_varD rfl pa) ev_int rfl)) fun mv S6 H6 ok6 pm => ?_)
        have pa6 := dp_ex ok6.ss _ _ pa
        have n6 := ok6.av l _ (ok5.av l _ q1 q2) (ok5.hh l _ q2)
        have g6 := ok6.hh l _ (ok5.hh l _ q2)
        have hul : us.length ≤ 100 := by have := paired_len q3; rw [List.length_take] at this; omega
        refine s_append (P := NextP K m a) (vs := us) ok6.sh rfl n6 g6 (by omega) (ev_tup (ea3 (ev_tupD (ead_cons (ev_ixT (j := 0) (ev_varD rfl pa6) ev_int rfl) (ead_cons (call_led_terms (m := withM [a.1, a.2] m) (ts := [a.1, a.2]) (fun t ht => ⟨hnn t ht, withM_has _ _ t ht⟩) (Nat.le_of_ble_eq_true rfl) (ev_ixT (j := 1) (ev_varD rfl pa6) ev_int rfl) (ev_var rfl pm)) ead_nil)) (Nat.le_of_ble_eq_true rfl)) (ev_varD rfl pa6) (ev_var rfl pm)) (fun S1 vs ⟨v1, r1, e1, e2, v2, r2, e3, e4, v3, r3, e5, e6, e7⟩ => by rw [e1, e3, e5, e7]; exact Nat.le_of_ble_eq_true rfl) fun S1 vs p pr => ?_) fun nv S7 H7 ok7 r1 r2 pn => ?_
        · by_cases hp : S1 p = none
          · left
            obtain ⟨v1, r1, e1, e2, v2, r2, e3, e4, v3, r3, e5, e6, e7⟩ := pr.now
            subst e1 e3 e5 e7
            have exp : Ex S1 (upd S1 p (.tup [v1, v2, v3])) := Evl.Ex.new hp
            exact perNext ⟨p, v1, v2, v3, rfl, SqT.of upd_same, dp_ex exp _ _ e2, dp_ex exp _ _ e4, perLed e6 _ exp⟩
          · exact .inr hp
        · refine ⟨S7, ⟨(((lo.ok.trans ok5).trans ok6).trans ok7).mut h0 r1, lo.ex.trans (ok5.ss.trans (ok6.ss.trans ok7.ss))⟩, some x, some mv, rfl, r1, us ++ [nv], upd_same, ?_⟩
          rw [List.take_add_one, ha]
          exact paired_snoc (Paired.mapP q3 fun v x q => perNext q S7 (ok5.ss.trans (ok6.ss.trans ok7.ss))) pn.now
      · rintro σ' S4 H4 lo ⟨x4, x7, rfl, q1, us, q2, q3⟩
        rw [List.length_map, List.take_length] at q3
        have okf := lo.ok.freeze h0 q1 q2
        have hsq : L2.SqL K (upd S4 l (.lst us)) l us := SqL.of upd_same
        have q3' : Paired (fun v x => NextP K m x (upd S4 l (.lst us)) v) us left := Paired.mapP q3 fun v x q => perNext q _ (Evl.Ex.new q1)
        clear q3
        obtain ⟨a0, lr, hlr⟩ : ∃ a0 lr, left = a0 :: lr := by
          cases left with
          | nil => exact absurd rfl hh0
          | cons a ar => exact ⟨a, ar, rfl⟩
        have hkeys : left.map (fun a => kA (spell m a)) = kA (spell m a0) :: lr.map fun a => kA (spell m a) := by rw [hlr]; rfl
        have hmin : minD (kA (spell m a0)) (lr.map fun a => kA (spell m a)) = kA s := by
          refine minD_least _ _ (fun x hx => ?_) ?_
          · rw [← hkeys] at hx
            obtain ⟨a, ha, rfl⟩ := List.mem_map.mp hx
            rcases g3 a ha with e | e
            · exact .inl (by rw [e])
            · exact .inr e
          · rw [← hkeys]
            obtain ⟨a, ha, e⟩ := g2
            exact List.mem_map.mpr ⟨a, ha, by rw [e]⟩
        have hmm : (lr.map fun a => kA (spell m a)) = (lr.map (spell m)).map kA := by rw [List.map_map]; rfl
        refine q_set (P := DL.IsD K (kA s)) okf.sh (ev_is (ev_min (d := kA (spell m a0)) (ds := lr.map fun a => kA (spell m a)) (EvL.evD ?_) ⟨fun x hx y hy => ?_, fun x hx => ?_⟩ ?_) hmin) fun fv S5 H5 ok5 pf => ?_
        · rw [← hkeys]
          refine el_lcY (σ := [some v, some u, some t, some (.ref l), x4, none, none, x7, none, none, none, none]) (wi := iList K (tVar 3)) (fun a => kA (spell m a)) (ei_nexts (m := m) (xs := left) (ev_var rfl fun _ _ => rfl) hsq q3') (by omega) fun a S6 x ha ex pz => ?_
          obtain ⟨w1, w2, w3, eg, hw1, hw2, hw3⟩ := eg_next (σ := [some v, some u, some t, some (.ref l), none, none, none, none, none, none, none, none]) (i := 8) (j := 4) (l := 7) pz.now
          exact ⟨_, eg, rfl, call_atom_key (g1 a ha).2 (ev_varD rfl hw1)⟩
        · rw [← hkeys] at hx hy
          obtain ⟨a, _, rfl⟩ := List.mem_map.mp hx
          obtain ⟨b, _, rfl⟩ := List.mem_map.mp hy
          rfl
        · rw [← hkeys] at hx
          obtain ⟨a, _, rfl⟩ := List.mem_map.mp hx
          exact fun z => nomatch z
        · have := dall_kA ((spell m a0) :: lr.map (spell m))
          rw [List.map_cons, ← hmm] at this
          omega
        refine q_set (P := DL.IsD K .none) ok5.sh ev_non fun nv S6 H6 ok6 pn => ?_
        have okb := okf.trans (ok5.trans ok6)
        have ex46 : Ex (upd S4 l (.lst us)) S6 := ok5.ss.trans ok6.ss
        have exS : Ex S S6 := okb.ss
        refine q_for (σ := [some v, some u, some t, some (.ref l), x4, some fv, some nv, x7, none, none, none, none]) okb (ei_nexts (m := m) (xs := left) (ev_var rfl fun _ _ => rfl) (Evl.ex_l ex46 hsq) (Paired.mapP q3' fun v x q => perNext q _ ex46)) (fun i σ' S' H' => ∃ y4 y7 y8 y9 y10 fo, σ' = [some v, some u, some t, some (.ref l), y4, some fv, some fo, y7, y8, y9, y10, none] ∧ FoundP K ((left.take i).any fun a => decide (spell m a = s)) (.list ((told ++ s :: r).map aD)) S' fo) (fun S7 H7 ok7 => ⟨x4, x7, none, none, none, nv, rfl, (fun _ => by have := pn.now; cases this; rfl), fun z => by cases z⟩) ?_ ?_
        · rintro S7 ex7 i a x σ' S8 H8 S9 H9 ha lo2 ⟨y4, y7, y8, y9, y10, fo, rfl, q5⟩ ok9 pz
          have ham := List.mem_of_getElem? ha
          obtain ⟨o1, o2⟩ := g1 a ham
          obtain ⟨w1, w2, w3, eg, hw1, hw2, hw3⟩ := eg_next (σ := [some v, some u, some t, some (.ref l), y4, some fv, some fo, y7, y8, y9, y10, none]) (i := 8) (j := 4) (l := 7) pz.now
          have ex9 : Ex S6 S9 := ex7.trans (lo2.ex.trans ok9.ss)
          have q5' := perFound q5
          refine eg H9 ok9.sh _ (s_if (b := decide (spell m a = s)) ok9.sh (et_is (et_test (ev_uEq (call_atom_key o2 (ev_varD rfl hw1)) (ev_var rfl (pf.ex (ok6.ss.trans ex9))) (by have : (kA s).depth = 3 := rfl; omega))) (eqv_kA _ _)) (fun z Sa Ha oka => ?_) fun z Sa Ha oka => ?_)
          · have hs : spell m a = s := of_decide_eq_true z
            rw [hs] at hw1
            have exSa : Ex S Sa := exS.trans (ex9.trans oka.ss)
            have okk := (lo2.ok.trans ok9).trans oka
            refine q_setL (R := AreD K (left.map aD)) oka.sh (el_listOf ((ea1 (ev_varD rfl (dp_ex exSa _ _ h2))).imp fun S1 vs ⟨v, r, e1, e2, e3⟩ => ⟨v, by rw [e1, e3], .inl e2⟩) (by rw [List.length_map]; omega)) fun l2 Sb Hb us2 okb2 f1 f2 f3 f4 f5 => ?_
            obtain ⟨jj, hj1, hj2⟩ := place_aD left a ham
            have okb3 := okk.trans okb2
            have f0 := none_of okk.hh f1
            have exb := oka.ss.trans okb2.ss
            refine ⟨_, rfl, tyV_list f3, _, rfl, l2, us2, w2, _, aD a, jj, rfl, rfl, f3, dps_ex okb2.sh _ _ f4.now, dp_ex (exb.trans okb2.sh) _ _ hw2, hj1, ?_, ?_⟩
            · have := dall_aD left
              omega
            have okm := okb3.mut (o := .lst (us2.eraseIdx jj)) f0 f2
            have okz := okm.freeze f0 f2 upd_same
            have exz : Ex S9 (upd Sb l2 (.lst (us2.eraseIdx jj))) := exb.trans (Evl.Ex.new f2)
            have hrest : Dp K (upd Sb l2 (.lst (us2.eraseIdx jj))) (.ref l2) (.list ((left.erase a).map aD)) := by
              refine .lst (SqL.of upd_same) ?_
              rw [← hj2]
              exact dps_ex (Evl.Ex.new f2) _ _ (dps_erase jj f4.now)
            have hel : (left.erase a).length + 1 = left.length := by
              rw [List.length_erase_of_mem ham]
              have := List.length_pos_of_mem ham
              omega
            have exSz : Ex S (upd Sb l2 (.lst (us2.eraseIdx jj))) := exS.trans (ex9.trans exz)
            have hw1z := dp_ex exz _ _ hw1
            refine q_set (te := tCall (sp_least_from K j) [] E0 (tCons (tOp (rCatU K) (tVar 0) (tLst (tCons (tVar 8) tNil))) (tCons (tVar 9) (tCons (tVar 7) tNil)))) okz.sh (call_least_from (j := j) (told := told ++ [s]) (left := left.erase a) (m := withM [a.1, a.2] m) (r := r) (by omega) (g4 a ham hs) (fun b hb => ?_) (by rw [List.length_append, List.length_singleton]; omega) ?_ (ev_varD rfl hrest) (ev_var rfl ((perLed hw3).ex exz))) fun lv Sc Hc okc pl => ?_
            · rcases List.mem_append.mp hb with hb | hb
              · exact c3 b hb
              · rw [List.mem_singleton.mp hb, ← hs]; exact o2
            · rw [List.map_append]
              exact EvL.evD (el_cat (ev_varD rfl (dp_ex exSz _ _ h1)) (EvL.evD (el_lstD (ead_cons (ev_varD rfl hw1z) ead_nil) (Nat.le_of_ble_eq_true rfl))) (by rw [List.length_map]; show told.length + 1 ≤ _; omega))
            · have pl : Per (DL.IsD K (.list ((told ++ s :: r).map aD))) Sc lv := by
                have e1 : told ++ [s] ++ r = told ++ s :: r := by rw [List.append_assoc]; rfl
                rw [e1] at pl; exact pl
              have okd := okz.trans okc
              have exc : Ex S8 Sc := ok9.ss.trans (exz.trans okc.ss)
              have qq := q5' Sc exc
              have hlf : (∀ x ∈ told ++ s :: r, OkA x) ∧ (told ++ s :: r).length ≤ 100 := by
                have hlf := (LF.step hh0 hm g1 g2 g3 g4).ok
                refine ⟨fun x hx => ?_, ?_⟩
                · rcases List.mem_append.mp hx with hx | hx
                  · exact c3 x hx
                  · exact hlf.1 x hx
                · rw [List.length_append, hlf.2]; omega
              have hnew : ((left.take (i + 1)).any fun a => decide (spell m a = s)) = true := by rw [any_take ha, z, Bool.or_true]
              cases hc : (left.take i).any fun a => decide (spell m a = s) with
              | false =>
                have hfo : fo = .non := qq.1 hc
                subst hfo
                refine s_if (b := true) okc.sh (et_is (et_or (a := true) (b := false) (et_B (ev_isN (K := K) (P1 := IsV .non) (ev_var rfl perV) fun S1 x hx => by subst hx; rfl)) fun z => by cases z) rfl) (fun _ Sd Hd okd2 => ?_) fun z => by cases z
                refine s_set okd2.sh (ev_var rfl (pl.ex okd2.ss)) fun nf Se He oke pe => ?_
                refine ⟨Se, ⟨(okd.trans okd2).trans oke, lo2.ex.trans (exc.trans (okd2.ss.trans oke.ss))⟩, _, _, _, _, _, nf, rfl, (fun z => by rw [hnew] at z; cases z), fun _ => pe.now⟩
              | true =>
                have hfo := qq.2 hc
                refine s_if (b := false) okc.sh (et_is (et_or (a := false) (b := false) (et_B (ev_isN (K := K) (ev_varD rfl hfo) fun S1 x hx => ?_)) fun _ => et_is (et_test (ev_uLt (EvL.evD (el_akeys hlf.1 hlf.2 (ev_var rfl pl) fun x => ⟨rfl, rfl⟩)) (EvL.evD (el_akeys hlf.1 hlf.2 (ev_varD rfl hfo) fun x => ⟨rfl, rfl⟩)) (alikes_kA _ _) (fun z => nomatch z) ?_)) (dataLt_self _)) rfl) (fun z => by cases z) fun _ Sd Hd okd2 => ?_
                · obtain ⟨b, ws, rfl, _⟩ := dp_list.mp hx
                  rfl
                · have := dall_kA (told ++ s :: r)
                  show min (PyData.depthAll _ + 1) _ ≤ 60
                  omega
                · refine ⟨Sd, ⟨okd.trans okd2, lo2.ex.trans (exc.trans okd2.ss)⟩, _, _, _, _, _, fo, rfl, (fun z => by rw [hnew] at z; cases z), fun _ => dp_ex okd2.ss _ _ hfo⟩
          · refine ⟨Sa, ⟨(lo2.ok.trans ok9).trans oka, lo2.ex.trans (ok9.ss.trans oka.ss)⟩, _, _, _, _, _, fo, rfl, ?_⟩
            rw [any_take ha, z, Bool.or_false]
            exact q5' Sa (ok9.ss.trans oka.ss)
        · rintro σ' S8 H8 lo2 ⟨y4, y7, y8, y9, y10, fo, rfl, q5⟩
          rw [List.take_length] at q5
          have hany : (left.any fun a => decide (spell m a = s)) = true := by
            obtain ⟨a, ha, e⟩ := g2
            exact List.any_eq_true.mpr ⟨a, ha, decide_eq_true e⟩
          exact s_ret lo2.ok.sh (ev_varD rfl (q5.2 hany)) fun rv S9 H9 ok9 p9 => k rv S9 H9 (lo2.ok.trans ok9) p9
end
end K68


set_option Elab.async false
set_option linter.all false
set_option maxRecDepth 100000
set_option maxHeartbeats 4000000
/-! K68R: forms of questions and unions. -/
namespace K68
open PySem L2 DL PySem.Spec PyProof.Rows
mutual
theorem eqv_self : ∀ d : PyData, d.plain = true → PyData.eqv d d = true
  | .none, _ => rfl
  | .bool b, _ => by simp [PyData.eqv]
  | .int i, _ => by simp [PyData.eqv]
  | .str x, _ => by simp [PyData.eqv]
  | .list ds, h => by rw [PyData.plain] at h; simp only [PyData.eqv]; exact eqvs_self ds h
  | .tuple ds, h => by rw [PyData.plain] at h; simp only [PyData.eqv]; exact eqvs_self ds h
  | .dict _, h => by simp [PyData.plain] at h
theorem eqvs_self : ∀ ds : List PyData, PyData.plainAll ds = true → PyData.eqvAll ds ds = true
  | [], _ => rfl
  | d :: ds, h => by
    rw [PyData.plainAll, Bool.and_eq_true] at h
    rw [PyData.eqvAll, eqv_self d h.1, eqvs_self ds h.2]; rfl
end
structure FR (h : List Str) (as : List A) (hf : List Str) (r : List A) : Prop where
  lf : LF as (withM h []) r
  hf : hf = h.map (img (withM h []))
  nm : ∀ x ∈ h, x ∈ NAMES
  hl : h.length ≤ 4
  al : as.length ≤ 6
def uD (hf : List Str) (r : List A) : PyData := .tuple [.str "any", .tuple [qD hf r]]
theorem qD_depth (h : List Str) (as : List A) : (qD h as).depth ≤ 4 := by
  have h1 := dall_str h
  have h2 := dall_aD as
  show max 0 (max (PyData.depthAll (h.map PyData.str) + 1) (max (PyData.depthAll (as.map aD) + 1) 0)) + 1 ≤ 4
  omega
section
variable {P : Program} {w : World} {K : PySem.W.Frag} {S S' H H' : Hp} {v : V} {σ : L2.St} {te : TE}
def sp_form_in (K : PySem.W.Frag) : Sp := SpOf (ι := List Str × List Str × List A) (fun i S vs => ∃ v as', vs = [v] ∧ Dp K S v (qD i.1 as') ∧ FR i.1 as' i.2.1 i.2.2) (fun i => IsD K (qD i.2.1 i.2.2))
theorem pure_form_in : ∀ vs H Q E, sp_form_in K vs H Q E → t_form_in P w K (sp_least_from K 7) (sp_led_terms K) (sp_with_terms K) { nx := fun _ H' => Q .non H', rt := Q } (start N_form_in vs) H := pure_of fun i S H vs e h D k _ => by
  obtain ⟨hq, hf, r⟩ := i
  obtain ⟨v, as, rfl, h1, ⟨f1, f2, f3, f4, f5⟩⟩ := h
  simp only at h1 f1 f2 f3 f4 k
  have h1' : Dp K S v (.tuple (qL hq as)) := h1
  refine q_set e (call_with_terms (m := []) (ts := hq) f3 f4 (Nat.zero_le _) ev_led0 (ev_ixT (j := 1) (ev_varD rfl h1') ev_int rfl)) fun lv S1 H1 ok1 p1 => ?_
  have d1 := dp_ex ok1.ss _ _ h1'
  refine s_ret ok1.sh (P := DL.IsD K (qD hf r)) (ev_tupD (ead_cons ev_str (ead_cons (ev_is (call_led_terms (m := withM hq []) (ts := hq) (fun t ht => ⟨f3 t ht, withM_has _ _ t ht⟩) (by omega) (ev_ixT (j := 1) (ev_varD rfl d1) ev_int rfl) (ev_var rfl p1)) (by rw [f2])) (ead_cons (ev_tupOf (ead_cons (ev_is (call_least_from (j := 7) (told := []) (left := as) (m := withM hq []) (r := r) (by omega) f1 (fun _ hx => nomatch hx) (by show 0 + as.length ≤ 10; omega) el_nil.evD (EvL.evD (el_listOf ((ea1 (ev_ixT (j := 2) (ev_varD rfl d1) ev_int rfl)).imp fun S1 vs ⟨v, r, e1, e2, e3⟩ => ⟨v, by rw [e1, e3], .inr e2⟩) (by rw [List.length_map]; omega))) (ev_var rfl p1)) rfl) ead_nil)) ead_nil))) (Nat.le_of_ble_eq_true rfl)) fun x S2 H2 ok2 p2 => k x S2 H2 (ok1.trans ok2) p2
abbrev Foi := { p : (List Str × List A) × List Str × List A // (QPre p.1.1 p.1.2 ∧ p.1.2 ≠ []) ∧ FR p.1.1 p.1.2 p.2.1 p.2.2 }
def sp_form_of (K : PySem.W.Frag) : Sp := SpOf (ι := Foi) (fun i => AreD K [qD i.1.1.1 i.1.1.2]) (fun i => IsD K (qD i.1.2.1 i.1.2.2))
/-- the argument a core, whichever it is -/
def sp_form_ofC (K : PySem.W.Frag) : Sp := SpOf (ι := List Str × List Str × List A) (fun i S vs => ∃ v as', vs = [v] ∧ Dp K S v (qD i.1 as') ∧ FR i.1 as' i.2.1 i.2.2 ∧ QPre i.1 as' ∧ as' ≠ []) (fun i => IsD K (qD i.2.1 i.2.2))
theorem pure_form_of : ∀ vs H Q E, sp_form_ofC K vs H Q E → t_form_of P w K (sp_form_in K) (sp_want_question K) { nx := fun _ H' => Q .non H', rt := Q } (start N_form_of vs) H := pure_of fun i S H vs e h D k _ => by
  obtain ⟨hq, hf, r⟩ := i
  obtain ⟨v, as, rfl, h1, f, q, ne⟩ := h
  exact s_ret e (ev_call (ι := List Str × List Str × List A) (hq, hf, r) ((ea1 (call_want_question ⟨q, ne⟩ (ev_varD rfl h1))).imp fun S1 vs ⟨v, r, e1, e2, e3⟩ => ⟨v, as, by rw [e1, e3], e2, f⟩)) k
/-! ### least_of -/
structure Lo2 (h : List Str) (as : List A) (hf : List Str) (r : List A) : Prop where
  q : QPre h as
  nd : as.Nodup
  ne : as ≠ []
  fr : ∀ as', CoreR h as as' → FR h as' hf r
  c1 : ∀ x ∈ hf, x ∈ NAMES
  c2 : hf.length ≤ 10
  c3 : ∀ a ∈ r, OkA a
  c4 : r.length ≤ 10
abbrev Loi := { p : (List Str × List A) × List Str × List A // Lo2 p.1.1 p.1.2 p.2.1 p.2.2 }
def sp_least_of (K : PySem.W.Frag) : Sp := SpOf (ι := Loi) (fun i => AreD K [qD i.1.1.1 i.1.1.2]) (fun i => IsD K (uD i.1.2.1 i.1.2.2))
theorem ev_sorted1 {hf : List Str} {r : List A} (c1 : ∀ x ∈ hf, x ∈ NAMES) (c2 : hf.length ≤ 10) (c3 : ∀ a ∈ r, OkA a) (c4 : r.length ≤ 10) (h : Ev te σ S (DL.IsD K (.list [qD hf r]))) : Ev (tSortedKeyA K (sp_question_key K) te) σ S (DL.IsD K (.list [qD hf r])) := fun S1 H1 a b Q q f =>
  h S1 H1 a b _ fun v S2 H2 ok2 p2 => by
    obtain ⟨ad, ws, rfl, hs, hw⟩ := dp_list.mp p2.now
    obtain ⟨x, rfl, hx⟩ := dps1 hw
    refine ⟨ad, x, rfl, rfl, Evl.ex_l ok2.sh hs, ⟨(hf, r), c1, c2, c3, c4⟩, S2, ok2.sh, perDs (.cons hx .nil), fun _ S3 H3 ok3 _ l H4 hx4 hl3 hl2 hl4 => ?_⟩
    have ok4 := Ok_many (T := [l]) ok3.sh hx4 (fun t ht => by rw [List.mem_singleton.mp ht]; exact hl3)
    refine q _ _ _ (ok2.trans (ok3.trans ok4)) (perD (.lst (SqL.of ?_) (.cons (dp_ex (ok3.ss.trans ok4.ss) _ _ hx) .nil)))
    show (if l ∈ [l] then H4 l else S3 l) = _
    rw [if_pos List.mem_cons_self]
    exact hl4
theorem pure_least_of : ∀ vs H Q E, sp_least_of K vs H Q E → t_least_of P w K (sp_core_of K) (sp_form_in K) (sp_members_of K) (sp_question_key K) { nx := fun _ H' => Q .non H', rt := Q } (start N_least_of vs) H := pure_of fun i S H vs e h D k _ => by
  obtain ⟨⟨⟨hq, as⟩, hf, r⟩, ⟨c1, c2, c3, hfr, e1, e2, e3, e4⟩⟩ := i
  obtain ⟨v, rfl, h1⟩ := dps1 h
  simp only at h1 c1 c2 c3 hfr e1 e2 e3 e4 k
  refine q_set (P := DL.IsD K (.list [])) e el_nil.evD fun fv S1 H1 ok1 p1 => ?_
  refine q_for (σ := [some v, some fv, none, none, none]) ok1 (ei_tup (ds := [qD hq as]) (ev_call (ι := List Str × List A) (hq, as) (ead_cons (ev_varD rfl (dp_ex ok1.ss _ _ h1)) ead_nil))) (fun i σ' S' H' => ∃ x f, σ' = [some v, some f, x, none, none] ∧ Dp K S' f (.list (if i = 0 then [] else [qD hq as]))) (fun S3 H3 ok3 => ⟨none, fv, rfl, (p1.ex ok3.ss).now⟩) ?_ ?_
  · rintro S3 ex3 i y x σ' S4 H4 S5 H5 hy lo ⟨x2, f, rfl, q1⟩ ok5 pz
    have hi : i = 0 := by
      cases i with
      | zero => rfl
      | succ i => simp at hy
    subst hi
    have ey : y = qD hq as := (Option.some.inj hy).symm
    subst ey
    have q1 : Dp K S4 f (.list []) := q1
    have q5 := dp_ex ok5.ss _ _ q1
    refine eg_name H5 ok5.sh _ (s_if (σ := [some v, some f, some x, none, none]) (b := true) ok5.sh (et_is (et_not (et_B (ev_anyLc (fun _ => true) (fun _ => true) (ei_list (ev_varD rfl q5)) (Nat.zero_le _) fun y S1 x hy => nomatch hy))) rfl) (fun _ S6 H6 ok6 => ?_) fun z => by cases z)
    have q6 := dp_ex ok6.ss _ _ q5
    refine s_set (P := DL.IsD K (.list ([] ++ [qD hq as]))) ok6.sh (EvL.evD (el_cat (EvL.evD (el_lcD (ys := ([] : List PyData)) (fun _ => true) id (ei_list (ev_varD rfl q6)) (Nat.zero_le _) fun y S1 x hy => nomatch hy)) (EvL.evD (el_lstD (ead_cons (ev_var rfl (pz.ex ok6.ss)) ead_nil) (Nat.le_of_ble_eq_true rfl))) (Nat.le_of_ble_eq_true rfl))) fun nf S7 H7 ok7 p7 => ?_
    exact ⟨S7, ⟨((lo.ok.trans ok5).trans ok6).trans ok7, lo.ex.trans (ok5.ss.trans (ok6.ss.trans ok7.ss))⟩, some x, nf, rfl, p7.now⟩
  · rintro σ' S4 H4 lo ⟨x2, f, rfl, q1⟩
    have q1 : Dp K S4 f (.list [qD hq as]) := q1
    refine q_set (P := DL.IsD K (.list [qD hf r])) lo.ok.sh (EvL.evD (el_lcY (σ := [some v, some f, x2, none, none]) (wi := iList K (tVar 1)) (fun _ => qD hf r) (ei_list (ev_varD rfl q1)) (Nat.le_of_ble_eq_true rfl) fun y S1 x hy ex pz => ?_)) fun tv S5 H5 ok5 p5 => ?_
    · have ey := List.mem_singleton.mp hy
      subst ey
      refine ⟨_, eg_name, rfl, ev_call (ι := List Str × List Str × List A) (hq, hf, r) ((ea1 (call_core_of c1 c2 c3 (ev_var rfl pz))).imp fun S1 vs ⟨v, r2, e1, ⟨as', hc, hd⟩, e3⟩ => ⟨v, as', by rw [e1, e3], hd, hfr as' hc⟩)⟩
    · exact s_ret ok5.sh (P := DL.IsD K (uD hf r)) (ev_tupD (ead_cons ev_str (ead_cons (ev_tupOf (ead_cons (ev_sorted1 e1 e2 e3 e4 (ev_var rfl p5)) ead_nil)) ead_nil)) (Nat.le_of_ble_eq_true rfl)) fun x S6 H6 ok6 p6 => k x S6 H6 ((lo.ok.trans ok5).trans ok6) p6
theorem call_least_of {h : List Str} {as : List A} {hf : List Str} {r : List A} (c : Lo2 h as hf r) (h1 : Ev te σ S (DL.IsD K (qD h as))) : Ev (tCall (sp_least_of K) [] E0 (tCons te tNil)) σ S (DL.IsD K (uD hf r)) := ev_call (ι := Loi) ⟨((h, as), hf, r), c⟩ (ead_cons h1 ead_nil)
def sp_least_union (K : PySem.W.Frag) : Sp := sp_least_of K
theorem pure_least_union : ∀ vs H Q E, sp_least_union K vs H Q E → t_least_union P w K (sp_least_of K) (sp_want_union K) { nx := fun _ H' => Q .non H', rt := Q } (start N_least_union vs) H := pure_of fun i S H vs e h D k _ => by
  obtain ⟨⟨⟨hq, as⟩, hf, r⟩, c⟩ := i
  obtain ⟨v, rfl, h1⟩ := dps1 h
  exact s_ret e (call_least_of c (call_want_union ⟨c.q, c.ne⟩ (ev_varD rfl h1))) k
abbrev Hai := { p : (List Str × List A) × (List Str × List A) × List Str × List A // Lo2 p.1.1 p.1.2 p.2.2.1 p.2.2.2 ∧ Lo2 p.2.1.1 p.2.1.2 p.2.2.1 p.2.2.2 ∧ p.1.1.length = p.2.1.1.length }
def sp_are_held_alike (K : PySem.W.Frag) : Sp := SpOf (ι := Hai) (fun i => AreD K [qD i.1.1.1 i.1.1.2, qD i.1.2.1.1 i.1.2.1.2]) (fun _ => IsD K (.bool true))
theorem qD_plain (h : List Str) (as : List A) : (qD h as).plain = true := by
  have h1 : ∀ xs : List Str, PyData.plainAll (xs.map PyData.str) = true := fun xs => by
    induction xs with
    | nil => rfl
    | cons x xs ih => rw [List.map_cons, PyData.plainAll, ih]; rfl
  have h2 : ∀ xs : List A, PyData.plainAll (xs.map aD) = true := fun xs => by
    induction xs with
    | nil => rfl
    | cons x xs ih => rw [List.map_cons, PyData.plainAll, ih]; rfl
  unfold qD
  simp only [PyData.plain, PyData.plainAll, h1, h2]
  rfl
theorem uD_plain (hf : List Str) (r : List A) : (uD hf r).plain = true := by
  unfold uD
  simp only [PyData.plain, PyData.plainAll, qD_plain]
  rfl
theorem uD_depth (hf : List Str) (r : List A) : (uD hf r).depth ≤ 6 := by
  have h := qD_depth hf r
  show max 0 (max (max (qD hf r).depth 0 + 1) 0) + 1 ≤ 6
  omega
theorem pure_are_held_alike : ∀ vs H Q E, sp_are_held_alike K vs H Q E → t_are_held_alike P w K (sp_least_of K) (sp_want_two K) { nx := fun _ H' => Q .non H', rt := Q } (start N_are_held_alike vs) H := pure_of fun i S H vs e h D k _ => by
  obtain ⟨⟨⟨h1, as1⟩, ⟨h2, as2⟩, hf, r⟩, c1, c2, c3⟩ := i
  obtain ⟨v, u, rfl, g1, g2⟩ := dps2 h
  simp only at g1 g2 c1 c2 c3 k
  refine q_drop e (ev_call (ι := Ti) ⟨((h1, as1), (h2, as2)), ⟨c1.q, c1.ne⟩, ⟨c2.q, c2.ne⟩, c3⟩ (ead_cons (ev_varD rfl g1) (ead_cons (ev_varD rfl g2) ead_nil))) fun _ S1 H1 ok1 _ => ?_
  refine s_ret ok1.sh (ev_is (ev_uEq (call_least_of c1 (ev_varD rfl (dp_ex ok1.ss _ _ g1))) (call_least_of c2 (ev_varD rfl (dp_ex ok1.ss _ _ g2))) (by have := uD_depth hf r; omega)) (by rw [eqv_self _ (uD_plain hf r)])) fun x S2 H2 ok2 p2 => k x S2 H2 (ok1.trans ok2) p2
end
end K68


set_option Elab.async false
set_option linter.all false
set_option maxRecDepth 100000
set_option maxHeartbeats 4000000
/-! DL15: a list of two ints that changes, told by a fact that stays. -/
namespace DL
open PySem L2 PySem.Spec PyProof.Rows
def PotB (a b : Int) : Prop := 0 ≤ a ∧ 0 ≤ b ∧ b < 2147483600
def potO (P : Program) (w : World) (p : Addr) : HO := .ext fun h => ∃ a b, PotB a b ∧ ∃ its n, Vals [V.int a, V.int b] its ∧ h.get? p = some { cls := .type "list", data := .seq its.toArray n }
section
variable {P : Program} {w : World} {H : Hp} {h : Heap} {p : Addr}
theorem pot_of_lst {H2 : Hp} {a b : Int} (x : ObjOk P w H h p (.lst [.int a, .int b])) (hb : PotB a b) : ObjOk P w H2 h p (potO P w p) := by
  obtain ⟨_, its, n, r, e⟩ := x
  exact ⟨⟨a, b, hb, its, n, r, e⟩, ⟨_, e⟩, fun h1 h2 ⟨a, b, hb, its, n, r, e⟩ k => ⟨a, b, hb, its, n, r, k _ e⟩⟩
theorem lst_of_pot (x : ObjOk P w H h p (potO P w p)) : ∃ a b, PotB a b ∧ ∀ H2, ObjOk P w H2 h p (.lst [.int a, .int b]) := by
  obtain ⟨⟨a, b, hb, its, n, r, e⟩, _, _⟩ := x
  exact ⟨a, b, hb, fun H2 => ⟨by show 2 ≤ sizeLine; decide, its, n, r, e⟩⟩
theorem hok_swap {o' : HO} (x : HOk P w H h) (mu : Mut (H p)) (he : ∃ u, h.get? p = some u) (new : ObjOk P w (upd H p o') h p o') : HOk P w (upd H p o') h :=
  HOk.write x mu (.inl rfl) (fun _ _ _ q => q) he new
theorem pot_has (x : ObjOk P w H h p (potO P w p)) : ∃ u, h.get? p = some u := x.2.1
theorem lst_has {vs : List V} (x : ObjOk P w H h p (.lst vs)) : ∃ u, h.get? p = some u := let ⟨_, _, _, _, e⟩ := x; ⟨_, e⟩
end
section
variable {P : Program} {w : World} {K : PySem.W.Frag} {mg : Str → Option Value} {base : Heap} {k : Nat} {f : Addr} {fd : FuncData} {ps : List Str}
/-- what a def that works on the list says of it told by the fact -/
def potS (P : Program) (w : World) (sp : Sp) : Sp := fun vs H Q E => ∃ p, H p = some (potO P w p) ∧ ∀ a b, PotB a b → sp vs (upd H p (.lst [.int a, .int b])) (fun v H' => ∃ a' b', H' p = some (.lst [.int a', .int b']) ∧ PotB a' b' ∧ Q v (upd H' p (potO P w p))) E
theorem fn_pot {sp : Sp} (F : FnOk P w K mg base CX0 k f fd ps sp) : FnOk P w K mg base CX0 k f fd ps (potS P w sp) := by
  refine ⟨fun vs H Q E ⟨p, _, h⟩ => F.len vs _ _ _ (h 0 0 ⟨Int.le_refl _, Int.le_refl _, by decide⟩), fun A outer s H args us vs Q E hr e0 hb hv ⟨p, hp, h⟩ => ?_⟩
  obtain ⟨a, b, hab, hl⟩ := lst_of_pot (e0.hok p _ hp)
  have hmu : Mut (H p) := by rw [hp]; exact trivial
  have np : ∀ x, H x = none → x ≠ p := fun x hx e => by rw [e, hp] at hx; cases hx
  have e1 : Env0 P w K mg base A outer s (upd H p (.lst [.int a, .int b])) := ⟨e0.frames, e0.mod, fun x o hx => ⟨(e0.bs x o hx).1, by rw [upd_ne (np x (e0.bs x o hx).2)]; exact (e0.bs x o hx).2⟩, e0.bsz, e0.funs, fun x hx => by rw [upd_ne (np x (e0.frf x hx))]; exact e0.frf x hx, hok_swap e0.hok hmu (pot_has (e0.hok p _ hp)) (hl _), e0.bare⟩
  refine codeAny_mono (F.run A outer s _ args us vs _ E hr e1 hb hv (h a b hab)) fun r s' hq => ?_
  cases r with
  | error e => exact hq
  | ok fl =>
    cases fl with
    | next => exact hq
    | brk => exact hq
    | cont => exact hq
    | ret u =>
      obtain ⟨v, H', os, bare, un, hok, rv, a', b', hp', hab', q⟩ := hq
      have hne : ∀ x o, H x = some o → (∀ φ, o ≠ .ext φ) → x ≠ p := fun x o hx hn e => by rw [e, hp] at hx; exact hn _ (Option.some.inj hx).symm
      refine ⟨v, upd H' p (potO P w p), os, bare, ⟨fun x o g n hc hx => un.keep x o g (by rw [upd_ne (np x n)]; exact n) hc hx, fun x o g n hc hx => un.slot x o g (by rw [upd_ne (np x n)]; exact n) hc hx, fun x o g n hx => by rw [upd_ne (np x n)]; exact un.free x o g (by rw [upd_ne (np x n)]; exact n) hx, un.there, fun x xs g => ?_, fun x o z g => ?_, fun x z g => ?_⟩, hok_swap hok (by rw [hp']; exact trivial) (lst_has (hok p _ hp')) (pot_of_lst (hok p _ hp') hab'), rv, q⟩
      · have n := hne x _ g fun φ e => nomatch e
        rw [upd_ne n]; exact un.tups x xs (by rw [upd_ne n]; exact g)
      · have n := hne x _ g fun φ e => nomatch e
        rw [upd_ne n]; exact un.frzs x o z (by rw [upd_ne n]; exact g)
      · have n := hne x _ g fun φ e => nomatch e
        rw [upd_ne n]; exact un.tbls x z (by rw [upd_ne n]; exact g)
/-- what a def that makes the list says of it told by the fact -/
def newPotS (P : Program) (w : World) (sp : Sp) : Sp := fun vs H Q E => sp vs H (fun v H' => ∃ p a b, v = V.ref p ∧ H p = none ∧ H' p = some (.lst [.int a, .int b]) ∧ PotB a b ∧ Q v (upd H' p (potO P w p))) E
theorem fn_newPot {sp : Sp} (F : FnOk P w K mg base CX0 k f fd ps sp) : FnOk P w K mg base CX0 k f fd ps (newPotS P w sp) := by
  refine ⟨fun vs H Q E h => F.len vs _ _ _ h, fun A outer s H args us vs Q E hr e0 hb hv h => ?_⟩
  refine codeAny_mono (F.run A outer s H args us vs _ E hr e0 hb hv h) fun r s' hq => ?_
  cases r with
  | error e => exact hq
  | ok fl =>
    cases fl with
    | next => exact hq
    | brk => exact hq
    | cont => exact hq
    | ret u =>
      obtain ⟨v, H', os, bare, un, hok, rv, p, a, b, ev, hp, hp', hab, q⟩ := hq
      have hne : ∀ x o, H x = some o → x ≠ p := fun x o hx e => by rw [e, hp] at hx; cases hx
      refine ⟨v, upd H' p (potO P w p), os, bare, ⟨un.keep, un.slot, fun x o g n hx => ?_, un.there, fun x xs g => by rw [upd_ne (hne x _ g)]; exact un.tups x xs g, fun x o z g => by rw [upd_ne (hne x _ g)]; exact un.frzs x o z g, fun x z g => by rw [upd_ne (hne x _ g)]; exact un.tbls x z g⟩, hok_swap hok (by rw [hp']; exact trivial) (lst_has (hok p _ hp')) (pot_of_lst (hok p _ hp') hab), rv, q⟩
      have hf := un.free x o g n hx
      rw [upd_ne (fun e => by rw [e, hp'] at hf; cases hf)]
      exact hf
theorem Cal.pot {x : Str} {sp : Sp} (C : Cal P w K mg base k x ps sp) : Cal P w K mg base k x ps (potS P w sp) := let ⟨f, fd, a, b, c, d⟩ := C.ex; ⟨f, fd, a, b, c, fn_pot d⟩
theorem Cal.newPot {x : Str} {sp : Sp} (C : Cal P w K mg base k x ps sp) : Cal P w K mg base k x ps (newPotS P w sp) := let ⟨f, fd, a, b, c, d⟩ := C.ex; ⟨f, fd, a, b, c, fn_newPot d⟩
theorem Cal.imp {x : Str} {sp sp' : Sp} (C : Cal P w K mg base k x ps sp) (h : ∀ vs H Q E, sp' vs H Q E → sp vs H Q E) : Cal P w K mg base k x ps sp' := let ⟨f, fd, a, b, c, d⟩ := C.ex; ⟨f, fd, a, b, c, d.imp h⟩
end
end DL


set_option Elab.async false
set_option linter.all false
set_option maxRecDepth 100000
set_option maxHeartbeats 4000000
/-! K68S: the law's own small defs. -/
namespace K68
open PySem L2 DL PySem.Spec PyProof.Rows
section
variable {P : Program} {w : World} {K : PySem.W.Frag} {S S' H H' : Hp} {v : V} {σ : L2.St} {te : TE}
abbrev IsI (i : Int) : Hp → V → Prop := DL.IsD K (.int i)
theorem ev_add {ta tb : TE} {i j : Int} (ha : Ev ta σ S (DL.IsD K (.int i))) (hb : Ev tb σ S (DL.IsD K (.int j))) : Ev (tOp (rI0 fun i j => .int (i + j)) ta tb) σ S (DL.IsD K (.int (i + j))) := ev_I0 ha hb (perD (.int _))
theorem ev_sub {ta tb : TE} {i j : Int} (ha : Ev ta σ S (DL.IsD K (.int i))) (hb : Ev tb σ S (DL.IsD K (.int j))) : Ev (tOp (rI0 fun i j => .int (i - j)) ta tb) σ S (DL.IsD K (.int (i - j))) := ev_I0 ha hb (perD (.int _))
theorem ev_mul {ta tb : TE} {i j : Int} (ha : Ev ta σ S (DL.IsD K (.int i))) (hb : Ev tb σ S (DL.IsD K (.int j))) (c : CMul i j) : Ev (tOp (rI CMul fun i j => .int (i * j)) ta tb) σ S (DL.IsD K (.int (i * j))) := ev_I ha hb c (perD (.int _))
theorem ev_mod {ta tb : TE} {i j : Int} (ha : Ev ta σ S (DL.IsD K (.int i))) (hb : Ev tb σ S (DL.IsD K (.int j))) (c : 0 < j) : Ev (tOp (rI (fun _ j => 0 < j) fun i j => .int (i % j)) ta tb) σ S (DL.IsD K (.int (i % j))) := ev_I ha hb c (perD (.int _))
theorem ev_fdiv {ta tb : TE} {i j : Int} (ha : Ev ta σ S (DL.IsD K (.int i))) (hb : Ev tb σ S (DL.IsD K (.int j))) (c : CDiv i j) : Ev (tOp (rI CDiv fun i j => .int (i / j)) ta tb) σ S (DL.IsD K (.int (i / j))) := ev_I ha hb c (perD (.int _))
theorem ev_pow {ta tb : TE} {i j : Int} (ha : Ev ta σ S (DL.IsD K (.int i))) (hb : Ev tb σ S (DL.IsD K (.int j))) (c : CPow i j) : Ev (tOp (rI CPow fun i j => .int (i ^ j.toNat)) ta tb) σ S (DL.IsD K (.int (i ^ j.toNat))) := ev_I ha hb c (perD (.int _))
theorem ev_intc {i : Int} (h : Ev te σ S (DL.IsD K (.int i))) : Ev (tCB rInt1 (tCons te tNil)) σ S (DL.IsD K (.int i)) := ev_cb (ead_cons h ead_nil) fun S1 H1 vs Q a b r q => by
  obtain ⟨v, rfl, h1⟩ := dps1 r
  cases h1
  exact .inl ⟨i, rfl, q _ (perD (.int i))⟩
theorem ev_absI {i : Int} (h : Ev te σ S (DL.IsD K (.int i))) : Ev (tCB rAbs (tCons te tNil)) σ S (DL.IsD K (.int (if i < 0 then -i else i))) := ev_cb (ead_cons h ead_nil) fun S1 H1 vs Q a b r q => by
  obtain ⟨v, rfl, h1⟩ := dps1 r
  cases h1
  exact ⟨i, rfl, q _ (perD (.int _))⟩
theorem ev_maxI {ta tb : TE} {i j : Int} (ha : Ev ta σ S (DL.IsD K (.int i))) (hb : Ev tb σ S (DL.IsD K (.int j))) : Ev (tCB rMax2 (tCons ta (tCons tb tNil))) σ S (DL.IsD K (.int (if j > i then j else i))) := ev_cb (ead_cons ha (ead_cons hb ead_nil)) fun S1 H1 vs Q a b r q => by
  obtain ⟨v, w, rfl, h1, h2⟩ := dps2 r
  cases h1; cases h2
  exact ⟨i, j, rfl, q _ (perD (.int _))⟩
theorem ev_ltI {ta tb : TE} {i j : Int} (ha : Ev ta σ S (DL.IsD K (.int i))) (hb : Ev tb σ S (DL.IsD K (.int j))) : Ev (tOp (rI0 fun i j => .bl (decide (i < j))) ta tb) σ S (DL.IsD K (.bool (decide (i < j)))) := ev_I0 ha hb (perD (.bl _))
theorem cmul_r {i j : Int} (h1 : -(2 ^ 64) < j) (h2 : j < 2 ^ 64) : CMul i j := .inr ⟨h1, h2⟩
theorem cmul_l {i j : Int} (h1 : -(2 ^ 64) < i) (h2 : i < 2 ^ 64) : CMul i j := .inl ⟨h1, h2⟩
/-! ### the pot is made -/
def spL_pot (K : PySem.W.Frag) : Sp := fun vs H Q E => ∃ (S : Hp) (xs : List Int) (v : V), Ex S H ∧ vs = [v, .int 0] ∧ Dp K S v (.list (xs.map .int)) ∧ ∀ S' H' l a b, Ok S H S' H' → H l = none → S' l = none → H' l = some (.lst [.int a, .int b]) → PotB a b → Q (.ref l) H'
theorem pure__law_pot : ∀ vs H Q E, spL_pot K vs H Q E → t__law_pot P w K { nx := fun _ H' => Q .non H', rt := Q } (start N__law_pot vs) H := fun vs H Q E ⟨S, xs, v, e, ev, h1, k⟩ => by
  subst ev
  have hc : ∃ c : Int, 0 ≤ c ∧ Ev (tIf (tTest (tOp (rI0 fun i j => .bl (decide (i < j))) (tVar 1) (tCB (rLenU K) (tCons (tVar 0) tNil)))) (tCB rAbs (tCons (tOp (rIx K) (tVar 0) (tVar 1)) tNil)) (tOp (rI0 fun i j => .int (i + j)) (tOp (rI CMul fun i j => .int (i * j)) (tC (.int 14009)) (tVar 1)) (tC (.int 14813)))) (start N__law_pot [v, .int 0]) S (DL.IsD K (.int c)) := by
    have ht : EvT (tTest (tOp (rI0 fun i j => .bl (decide (i < j))) (tVar 1) (tCB (rLenU K) (tCons (tVar 0) tNil)))) (start N__law_pot [v, .int 0]) S (decide ((0 : Int) < ((xs.map PyData.int).length : Int))) := et_test (ev_ltI (K := K) (ev_varD rfl (.int 0)) (ev_lenL (ead_cons (ev_varD rfl h1) ead_nil)))
    cases xs with
    | nil => exact ⟨_, by decide, ev_if (b := false) (et_is ht rfl) (fun z => by cases z) fun _ => ev_add (ev_mul ev_int (ev_varD rfl (.int 0)) (cmul_l (by decide) (by decide))) ev_int⟩
    | cons x xs =>
      refine ⟨if x < 0 then -x else x, by split <;> omega, ev_if (b := true) (et_is ht ?_) (fun _ => ev_absI (ev_ixL (j := 0) (ev_varD rfl h1) (ev_varD rfl (.int 0)) rfl)) fun z => by cases z⟩
      refine decide_eq_true ?_
      rw [List.length_map, List.length_cons]
      omega
  obtain ⟨c, hc0, hc⟩ := hc
  refine q_set e hc fun cv S1 H1 ok1 p1 => ?_
  have pc := p1.now
  cases pc
  refine (el_lstD (K := K) (σ := [some v, some (.int 0), some (.int c)]) (S := S1) (ead_cons (ev_maxI (K := K) ev_int (ev_sub (ev_varD rfl (.int c)) (ev_pow ev_int ev_int ⟨by decide, by decide, by decide⟩))) (ead_cons (ev_add (ev_mod (ev_intc (ev_add (ev_add (ev_mul (ev_mod (ev_intc (ev_varD rfl (.int c))) ev_int (by decide)) ev_int (cmul_r (by decide) (by decide))) (ev_mul ev_int (ev_varD rfl (.int 0)) (cmul_l (by decide) (by decide)))) ev_int)) ev_int (by decide)) ev_int) ead_nil)) (Nat.le_of_ble_eq_true rfl)) S1 H1 (Evl.Ex.refl S1) ok1.sh _ fun l S2 H2 ws ok2 g1 g2 g3 pr _ => ?_
  obtain ⟨x1, x2, rfl, q1, q2⟩ := dps2 pr.now
  cases q1; cases q2
  refine k S2 H2 l _ _ (ok1.trans ok2) (none_of ok1.hh g1) g2 g3 ⟨?_, ?_, ?_⟩
  · split <;> omega
  · have := Int.emod_nonneg (c % 2147483549 * 13513 + 13903 * 0 + 907) (show (2147483563 : Int) ≠ 0 by decide)
    omega
  · have := Int.emod_lt_of_pos (c % 2147483549 * 13513 + 13903 * 0 + 907) (show (0 : Int) < 2147483563 by decide)
    omega
/-! ### a digit is drawn -/
def spL_draw (_ : PySem.W.Frag) : Sp := fun vs H Q E => ∃ (p : Addr) (n : Nat) (a b : Int), vs = [.ref p, .int (n : Int)] ∧ 1 ≤ n ∧ n ≤ 100 ∧ H p = some (.lst [.int a, .int b]) ∧ PotB a b ∧
  ∀ (d : Nat) H' a' b', d < n → (∀ x o, x ≠ p → H x = some o → H' x = some o) → H' p = some (.lst [.int a', .int b']) → PotB a' b' → Q (.int (d : Int)) H'
def onlyAt (H : Hp) (p : Addr) : Hp := fun x => if x = p then H p else none
theorem only_ex {p : Addr} : Ex (onlyAt H p) H := fun x o q => by
  unfold onlyAt at q
  split at q
  · rename_i e; rw [e]; exact q
  · cases q
theorem only_at {p : Addr} : onlyAt H p p = H p := by unfold onlyAt; rw [if_pos rfl]
theorem toNat_mod {a : Int} {n : Nat} (h : 1 ≤ n) : ∃ d : Nat, d < n ∧ a % (n : Int) = (d : Int) := by
  have h1 := Int.emod_nonneg a (show (n : Int) ≠ 0 by omega)
  have h2 := Int.emod_lt_of_pos a (show (0 : Int) < n by omega)
  exact ⟨(a % (n : Int)).toNat, by omega, by omega⟩
theorem q_asgA {D : Ends} {tz : TS} {r : List V → Hp → VK → Prop} {t : TA} {g : TG} {R : Hp → List V → Prop} (e : Ex S H) (h : EvA t σ S R) (k : ∀ vs S' H', Ok S H S' H' → PerA R S' vs → r vs H' fun v H2 => g v σ H2 (tz D)) : tSeq (tAsg (tCB r t) g) tz D σ H := h S H (Evl.Ex.refl S) e _ k
theorem q_asgG {D : Ends} {tz : TS} {g : TG} {Pq : Hp → V → Prop} (e : Ex S H) (h : Ev te σ S Pq) (k : ∀ v S' H', Ok S H S' H' → Per Pq S' v → g v σ H' (tz D)) : tSeq (tAsg te g) tz D σ H := h S H (Evl.Ex.refl S) e _ k
theorem pure__law_draw : ∀ vs H Q E, spL_draw K vs H Q E → t__law_draw P w K { nx := fun _ H' => Q .non H', rt := Q } (start N__law_draw vs) H := fun vs H Q E ⟨p, n, a, b, ev, n1, n2, hp, ⟨ha, hb, hb2⟩, k⟩ => by
  subst ev
  have e0 : Ex (onlyAt H p) H := only_ex
  have hd : Dp K (onlyAt H p) (.ref p) (.list [.int a, .int b]) := .lst (SqL.of (by rw [only_at]; exact hp)) (.cons (.int a) (.cons (.int b) .nil))
  refine q_guard (b := decide (0 < a)) e0 (et_test (ev_I0 (K := K) (ev_ixL (j := 0) (ev_varD rfl hd) ev_int rfl) ev_int (perD (K := K) (.bl _)))) (fun z S1 H1 ok1 => ?_) fun z S1 H1 ok1 => ?_
  · have d1 := dp_ex ok1.ss _ _ hd
    have hab : EvA (tCons (tOp (rIx K) (tVar 0) (tC (.int 0))) (tCons (tVar 1) tNil)) (start N__law_draw [.ref p, .int (n : Int)]) S1 (ConsP (DL.IsD K (.int a)) (ConsP (DL.IsD K (.int (n : Int))) NilP)) := ea2 (ev_ixL (j := 0) (ev_varD rfl d1) ev_int rfl) (ev_varD rfl (.int (n : Int)))
    refine q_asgA ok1.sh hab fun ws S2 H2 ok2 p2 => ?_
    obtain ⟨v1, r1, rfl, f1, v2, r2, rfl, f2, rfl⟩ := p2.now
    cases f1; cases f2
    have okk := ok1.trans ok2
    have hp2 : H2 p = some (.lst [.int a, .int b]) := okk.hh p _ hp
    refine ⟨a, (n : Int), rfl, ⟨by omega, by omega⟩, fun q hq => ?_⟩
    have hpq : p ≠ q := ne_of_none hp2 hq
    refine ⟨q, _, rfl, SqT.of upd_same, rfl, ?_⟩
    refine ⟨_, _, rfl, ?_⟩
    refine ⟨_, rfl, p, _, 0, 0, rfl, rfl, by rw [upd_ne hpq]; exact hp2, rfl, ?_⟩
    refine ⟨_, _, rfl, ?_⟩
    refine ⟨rfl, ?_⟩
    obtain ⟨d, hdn, hde⟩ := toNat_mod (a := a) n1
    refine ⟨_, rfl, ?_⟩
    rw [hde]
    refine k d _ (a / (n : Int)) b hdn (fun x o hx hxo => ?_) upd_same ⟨Int.ediv_nonneg ha (by omega), hb, hb2⟩
    have h2 := okk.hh x o hxo
    rw [upd_ne hx, upd_ne (ne_of_none h2 hq)]
    exact h2
  · have d1 := dp_ex ok1.ss _ _ hd
    have hab : Ev (tOp (rI (fun _ j => 0 < j) fun i j => .int (i % j)) (tCB rInt1 (tCons (tOp (rI0 fun i j => .int (i + j)) (tOp (rI CMul fun i j => .int (i * j)) (tOp (rIx K) (tVar 0) (tC (.int 1))) (tC (.int 40692))) (tC (.int 13903))) tNil)) (tC (.int 2147483399))) (start N__law_draw [.ref p, .int (n : Int)]) S1 (DL.IsD K (.int ((b * 40692 + 13903) % 2147483399))) := ev_mod (ev_intc (ev_add (ev_mul (ev_ixL (j := 1) (ev_varD rfl d1) ev_int rfl) ev_int (cmul_r (by decide) (by decide))) ev_int)) ev_int (by decide)
    refine q_asgG ok1.sh hab fun v2 S2 H2 ok2 p2 => ?_
    have f2 := p2.now
    cases f2
    have okk := ok1.trans ok2
    have hp2 : H2 p = some (.lst [.int a, .int b]) := okk.hh p _ hp
    refine ⟨_, rfl, p, _, 1, 1, rfl, rfl, hp2, rfl, ?_⟩
    have hb' := Int.emod_nonneg (b * 40692 + 13903) (show (2147483399 : Int) ≠ 0 by decide)
    have hb3 := Int.emod_lt_of_pos (b * 40692 + 13903) (show (0 : Int) < 2147483399 by decide)
    generalize (b * 40692 + 13903) % 2147483399 = b2 at hb' hb3 ⊢
    have hp3 : (upd H2 p (.lst ([V.int a, V.int b].set 1 (V.int b2)))) p = some (.lst [.int a, .int b2]) := upd_same
    have d3 : Dp K (onlyAt (upd H2 p (.lst ([V.int a, V.int b].set 1 (V.int b2)))) p) (.ref p) (.list [.int a, .int b2]) := .lst (SqL.of (by rw [only_at]; exact hp3)) (.cons (.int a) (.cons (.int b2) .nil))
    obtain ⟨d, hdn, hde⟩ := toNat_mod (a := (b2 * b2 % 2147483323) / 19) n1
    refine s_ret (S := onlyAt (upd H2 p (.lst ([V.int a, V.int b].set 1 (V.int b2)))) p) only_ex (ev_is (K := K) (ev_mod (ev_intc (ev_fdiv (ev_mod (ev_intc (ev_mul (ev_ixL (j := 1) (ev_varD rfl d3) ev_int rfl) (ev_ixL (j := 1) (ev_varD rfl d3) ev_int rfl) (cmul_l (by omega) (by omega)))) ev_int (by decide)) ev_int ⟨by decide, by decide⟩)) (ev_varD rfl (.int (n : Int))) (by omega)) (by rw [hde])) fun v S4 H4 ok4 p4 => ?_
    have f4 := p4.now
    cases f4
    refine k d H4 a b2 hdn (fun x o hx hxo => ok4.hh x o (by rw [upd_ne hx]; exact okk.hh x o hxo)) (ok4.hh p _ hp3) ⟨ha, hb', by omega⟩
/-- the same, of a pot told by its fact -/
def DigP (n : Nat) : Hp → V → Prop := fun _ v => ∃ d : Nat, d < n ∧ v = .int (d : Int)
def sp__law_draw (P : Program) (w : World) : Sp := SpOf (ι := { i : Addr × Nat // 1 ≤ i.2 ∧ i.2 ≤ 100 }) (fun i S vs => vs = [.ref i.1.1, .int (i.1.2 : Int)] ∧ S i.1.1 = some (potO P w i.1.1)) (fun i => DigP i.1.2)
theorem draw_imp : ∀ vs H Q E, sp__law_draw P w vs H Q E → potS P w (spL_draw K) vs H Q E := fun vs H Q E ⟨⟨⟨p, n⟩, n1, n2⟩, S, e, hA, k⟩ => by
  obtain ⟨ev, hp⟩ := hA S (Evl.Ex.refl S)
  simp only at ev hp n1 n2 k
  refine ⟨p, e p _ hp, fun a b hab => ⟨p, n, a, b, ev, n1, n2, upd_same, hab, fun d H' a' b' hd hx hp' hab' => ⟨a', b', hp', hab', ?_⟩⟩⟩
  refine k (.int (d : Int)) S _ ⟨Evl.Ex.refl S, fun x o hxo => ?_, fun x o hxo => ?_, fun _ _ h _ => h⟩ fun _ _ => ⟨d, hd, rfl⟩
  · by_cases hxp : x = p
    · subst hxp; rw [upd_same, ← hp]; exact hxo.symm ▸ rfl
    · rw [upd_ne hxp]; exact hx x o hxp (by rw [upd_ne hxp]; exact e x o hxo)
  · by_cases hxp : x = p
    · subst hxp; rw [upd_same]; rw [e x _ hp] at hxo; exact hxo
    · rw [upd_ne hxp]; exact hx x o hxp (by rw [upd_ne hxp]; exact hxo)
end
end K68


set_option Elab.async false
set_option linter.all false
set_option maxRecDepth 100000
set_option maxHeartbeats 4000000
/-! K68U: the law's names and mixtures. -/
namespace K68
open PySem L2 DL PySem.Spec PyProof.Rows
section
variable {P : Program} {w : World} {K : PySem.W.Frag} {S S' H H' : Hp} {v : V} {σ : L2.St} {te : TE} {D : Ends}
theorem ixN_nat {n j : Nat} (h : j < n) : ixN n (j : Int) = some j := by
  unfold ixN
  rw [if_pos (by omega)]
  simp [h]
theorem ev_draw {p : Addr} {n : Nat} {t1 t2 : TE} (n1 : 1 ≤ n) (n2 : n ≤ 100) (hp : S p = some (potO P w p)) (h1 : Ev t1 σ S (IsV (.ref p))) (h2 : Ev t2 σ S (DL.IsD K (.int (n : Int)))) : Ev (tCall (sp__law_draw P w) [] E0 (tCons t1 (tCons t2 tNil))) σ S (DigP n) := fun S1 H1 a b Q q =>
  (ea2 h1 h2) S1 H1 a b _ fun vs S2 H2 ok2 p2 => by
    obtain ⟨v1, r1, rfl, e1, v2, r2, rfl, e2, rfl⟩ := p2.now
    cases e2
    subst e1
    rw [List.append_nil]
    exact ⟨⟨(p, n), n1, n2⟩, S2, ok2.sh, fun S3 e3 => ⟨rfl, (a.trans (ok2.ss.trans e3)) p _ hp⟩, fun v S3 H3 ok3 p3 => q v S3 H3 (ok2.trans ok3) p3⟩
theorem s_popdraw {S0 H0 : Hp} {p l1 l2 : Addr} {i0 i1 i2 : Nat} {us ws : List V} (a0 : Ok S0 H0 S H) (h1 : H0 l1 = none) (h2 : H0 l2 = none) (n1 : S l1 = none) (n2 : S l2 = none) (g1 : H l1 = some (.lst us)) (g2 : H l2 = some (.lst ws)) (hne : l1 ≠ l2) (hp : S p = some (potO P w p))
    (hσ0 : σ[i0]? = some (some (.ref p))) (hσ1 : σ[i1]? = some (some (.ref l1))) (hσ2 : σ[i2]? = some (some (.ref l2))) (u1 : 1 ≤ us.length) (u2 : us.length ≤ 100) (w2 : ws.length ≤ 1000)
    (k : ∀ j y S' H', us[j]? = some y → Ok S0 H0 S' H' → Ex S S' → S' l1 = none → S' l2 = none → H' l1 = some (.lst (us.eraseIdx j)) → H' l2 = some (.lst (ws ++ [y])) → D.nx σ H') :
    tDrop (tBM K "list" rAppend (tVar i2) (tCons (tBM K "list" rPopAt (tVar i1) (tCons (tCall (sp__law_draw P w) [] E0 (tCons (tVar i0) (tCons (tCB (rLenU K) (tCons (tVar i1) tNil)) tNil))) tNil)) tNil)) D σ H := by
  refine ⟨_, hσ2, tyV_list g2, ⟨_, hσ1, tyV_list g1, ?_⟩⟩
  have exl : Ex S (upd S l1 (.lst us)) := Evl.Ex.new n1
  have hpl : (upd S l1 (.lst us)) p = some (potO P w p) := exl p _ hp
  refine own_ev (P := DigP us.length) a0.sh n1 g1 (ev_draw (K := K) u1 u2 hpl (ev_var hσ0 perV) ?_) fun v S1 H1 ok1 g11 pd => ?_
  · exact fun S2 H2 a b Q q => ⟨_, hσ1, ⟨_, us.length, rfl, .inl ⟨us, SqL.of (b l1 _ (a l1 _ upd_same)), rfl⟩, q _ S2 H2 (Ok.refl b) (perD (.int _))⟩⟩
  · obtain ⟨d, hd, rfl⟩ := pd.now
    have hy : us[d]? = some us[d] := List.getElem?_eq_getElem hd
    have g12 : H1 l2 = some (.lst ws) := ok1.hh l2 _ g2
    refine ⟨l1, us, (d : Int), d, us[d], rfl, rfl, g11, by omega, by omega, (ixN_seq (ixN_nat hd)).1, hy, ?_⟩
    refine ⟨l2, ws, us[d], rfl, rfl, by rw [upd_ne hne.symm]; exact g12, Evl.sz_lt (by omega), ?_⟩
    have m1 : rm S1 l1 l1 = none := rm_none
    have m2 : rm S1 l1 l2 = none := ok1.av l2 _ n2 g2
    refine k d us[d] (rm S1 l1) _ hy (((a0.trans ok1).mut h1 m1).mut h2 m2) ok1.ss m1 m2 (by rw [upd_ne hne, upd_same]) upd_same
theorem q_parLL {tz : TS} {ta tb : TE} {R1 R2 : Hp → List V → Prop} {i j : Nat} (e : Ex S H) (ha : EvL ta σ S R1) (hb : ∀ S', Ex S S' → EvL tb σ S' R2) (k : ∀ l1 l2 us ws S' H', Ok S H S' H' → H l1 = none → H l2 = none → S' l1 = none → S' l2 = none → H' l1 = some (.lst us) → H' l2 = some (.lst ws) → l1 ≠ l2 → PerA R1 S' us → PerA R2 S' ws → tz D ((σ.set i (some (.ref l1))).set j (some (.ref l2))) H') : tSeq (tPar i j (tCons ta (tCons tb tNil))) tz D σ H :=
  ha S H (Evl.Ex.refl S) e _ fun l1 S2 H2 us ok2 h1 h2 h3 pr _ => hb S2 ok2.ss S2 H2 (Evl.Ex.refl S2) ok2.sh _ fun l2 S3 H3 ws ok3 f1 f2 f3 p3 _ => ⟨.ref l1, .ref l2, rfl, k l1 l2 us ws S3 H3 (ok2.trans ok3) h1 (none_of ok2.hh f1) (ok3.av l1 _ h2 h3) f2 (ok3.hh l1 _ h3) f3 (fun z => by rw [← z, h3] at f1; cases f1) (pr.ex ok3.ss) p3⟩
theorem erase_map' {α β : Type} (f : α → β) : ∀ (l : List α) (j : Nat), (l.map f).eraseIdx j = (l.eraseIdx j).map f
  | [], _ => rfl
  | _ :: _, 0 => rfl
  | x :: l, j + 1 => by
    show f x :: (l.map f).eraseIdx j = f x :: (l.eraseIdx j).map f
    rw [erase_map' f l j]
theorem move_perm {α : Type} {fv lv L : List α} {j : Nat} {x : α} (h : (fv ++ lv).Perm L) (hx : lv[j]? = some x) : ((fv ++ [x]) ++ lv.eraseIdx j).Perm L := by
  have h1 : (x :: lv.eraseIdx j).Perm lv := L2.erase_perm lv j x hx
  rw [List.append_assoc]
  exact (List.Perm.append_left fv h1).trans h
def NamesL (K : PySem.W.Frag) (n : Nat) : Hp → V → Prop := fun S v => ∃ ns : List Str, ns.length = n ∧ ns.Nodup ∧ (∀ x ∈ ns, x ∈ NAMES) ∧ Dp K S v (.list (ns.map .str))
def sp__law_names (P : Program) (w : World) (K : PySem.W.Frag) : Sp := SpOf (ι := { i : Addr × Nat // i.2 ≤ 7 }) (fun i S vs => vs = [.ref i.1.1, .int (i.1.2 : Int)] ∧ S i.1.1 = some (potO P w i.1.1)) (fun i => NamesL K i.1.2)
theorem names_nodup : NAMES.Nodup := by decide +kernel
theorem pure__law_names : ∀ vs H Q E, sp__law_names P w K vs H Q E → t__law_names P w K (sp__law_draw P w) { nx := fun _ H' => Q .non H', rt := Q } (start N__law_names vs) H := pure_of fun i S H vs e h D k _ => by
  obtain ⟨⟨p, n⟩, hn⟩ := i
  obtain ⟨rfl, hp⟩ := h
  simp only at hp hn k
  refine q_parLL (R1 := AreD K (NAMES.map .str)) (R2 := AreD K []) e (el_lstD (ead_cons ev_str (ead_cons ev_str (ead_cons ev_str (ead_cons ev_str (ead_cons ev_str (ead_cons ev_str (ead_cons ev_str (ead_cons ev_str ead_nil)))))))) (by decide)) (fun S' _ => el_nil) fun l1 l2 us ws S1 H1 ok1 h1 h2 n1 n2 g1 g2 hne p1 p2 => ?_
  have hw : ws = [] := by have := p2.now; cases this; rfl
  subst hw
  have hu := dps_strs _ _ p1.now
  subst hu
  refine q_for (σ := [some (.ref p), some (.int (n : Int)), none, some (.ref l1), some (.ref l2)]) ok1 (ei_rng1 (K := K) (ead_cons (ev_varD rfl (.int (n : Int))) ead_nil) (by omega)) (fun i σ' S' H' => ∃ x lv fv, σ' = [some (.ref p), some (.int (n : Int)), x, some (.ref l1), some (.ref l2)] ∧ S' l1 = none ∧ S' l2 = none ∧ H' l1 = some (.lst (lv.map V.str)) ∧ H' l2 = some (.lst (fv.map V.str)) ∧ (fv ++ lv).Perm NAMES ∧ fv.length = i) (fun S3 H3 ok3 => ⟨none, NAMES, [], rfl, ok3.av l1 _ n1 g1, ok3.av l2 _ n2 g2, ok3.hh l1 _ g1, ok3.hh l2 _ g2, List.Perm.refl _, rfl⟩) ?_ ?_
  · rintro S3 ex3 i y x σ' S4 H4 S5 H5 hy lo ⟨x0, lv, fv, rfl, q1, q2, q3, q4, q5, q6⟩ ok5 pz
    have hi : i < n := by have := (List.getElem?_eq_some_iff.mp hy).1; rwa [List.length_range] at this
    have hlen : fv.length + lv.length = 8 := by rw [← List.length_append, q5.length_eq]; rfl
    refine eg_name H5 ok5.sh _ (s_popdraw (σ := [some (.ref p), some (.int (n : Int)), some x, some (.ref l1), some (.ref l2)]) (us := lv.map V.str) (ws := fv.map V.str) (lo.ok.trans ok5) h1 h2 (ok5.av l1 _ q1 q3) (ok5.av l2 _ q2 q4) (ok5.hh l1 _ q3) (ok5.hh l2 _ q4) hne ((ok1.ss.trans (ex3.trans (lo.ex.trans ok5.ss))) p _ hp) rfl rfl rfl (by rw [List.length_map]; omega) (by rw [List.length_map]; omega) (by rw [List.length_map]; omega) fun j y S6 H6 hj ok6 ex6 r1 r2 r3 r4 => ?_)
    rw [List.getElem?_map] at hj
    obtain ⟨z, hz, rfl⟩ := Option.map_eq_some_iff.mp hj
    refine ⟨S6, ⟨ok6, lo.ex.trans (ok5.ss.trans ex6)⟩, some x, lv.eraseIdx j, fv ++ [z], rfl, r1, r2, ?_, ?_, move_perm q5 hz, ?_⟩
    · rw [r3, erase_map']
    · rw [r4, List.map_append]; rfl
    · rw [List.length_append, q6]; rfl
  · rintro σ' S4 H4 lo ⟨x0, lv, fv, rfl, q1, q2, q3, q4, q5, q6⟩
    rw [List.length_range] at q6
    have okf := lo.ok.freeze h2 q2 q4
    have hsub : ∀ x ∈ fv, x ∈ NAMES := fun x hx => q5.mem_iff.mp (List.mem_append_left _ hx)
    have hnd : fv.Nodup := (List.nodup_append.mp (q5.nodup_iff.mpr names_nodup)).1
    refine s_ret okf.sh (ev_varD rfl (.lst (SqL.of upd_same) (dps_strs' fv))) fun r S5 H5 ok5 p5 => k r S5 H5 (okf.trans ok5) (p5.imp fun S6 v hv => ⟨fv, q6, hnd, hsub, hv⟩)
/-! ### mixtures -/
def MixP (K : PySem.W.Frag) (h : List Str) (as : List A) : Hp → V → Prop := fun S v => ∃ as' : List A, as'.Perm as ∧ Dp K S v (qD h as')
def sp__law_mixed (P : Program) (w : World) (K : PySem.W.Frag) : Sp := SpOf (ι := { i : Addr × List Str × List A // i.2.2.length ≤ 50 }) (fun i S vs => ∃ v u, vs = [.ref i.1.1, v, u] ∧ S i.1.1 = some (potO P w i.1.1) ∧ Dp K S v (.tuple (i.1.2.1.map .str)) ∧ Dp K S u (.list (i.1.2.2.map aD))) (fun i => MixP K i.1.2.1 i.1.2.2)
theorem dps_getD {us : List V} {lv : List A} {j : Nat} {y : V} (h : DpAll K S us (lv.map aD)) (hj : us[j]? = some y) : ∃ a, lv[j]? = some a ∧ Dp K S y (aD a) := by
  obtain ⟨d, hd, hy⟩ := dps_get h hj
  rw [List.getElem?_map] at hd
  obtain ⟨a, ha, rfl⟩ := Option.map_eq_some_iff.mp hd
  exact ⟨a, ha, hy⟩
theorem pure__law_mixed : ∀ vs H Q E, sp__law_mixed P w K vs H Q E → t__law_mixed P w K (sp__law_draw P w) { nx := fun _ H' => Q .non H', rt := Q } (start N__law_mixed vs) H := pure_of fun i S H vs e h D k _ => by
  obtain ⟨⟨p, hq, as⟩, hn⟩ := i
  obtain ⟨v, u, rfl, hp, g1, g2⟩ := h
  simp only at hp hn g1 g2 k
  refine q_parLL (R1 := AreD K (as.map aD)) (R2 := AreD K []) e (el_listOf ((ea1 (ev_varD rfl g2)).imp fun S1 vs ⟨v, r, e1, e2, e3⟩ => ⟨v, by rw [e1, e3], .inl e2⟩) (by rw [List.length_map]; omega)) (fun S' _ => el_nil) fun l1 l2 us ws S1 H1 ok1 h1 h2 n1 n2 f1 f2 hne p1 p2 => ?_
  have hw : ws = [] := by have := p2.now; cases this; rfl
  subst hw
  refine q_for (σ := [some (.ref p), some v, some u, none, some (.ref l1), some (.ref l2)]) ok1 (ei_rng1 (n := as.length) (ead_cons (ev_is (ev_lenL (ead_cons (ev_varD rfl (dp_ex ok1.ss _ _ g2)) ead_nil)) (by rw [List.length_map])) ead_nil) (by omega)) (fun i σ' S' H' => ∃ x lv fv us ws, σ' = [some (.ref p), some v, some u, x, some (.ref l1), some (.ref l2)] ∧ S' l1 = none ∧ S' l2 = none ∧ H' l1 = some (.lst us) ∧ H' l2 = some (.lst ws) ∧ DpAll K S' us (lv.map aD) ∧ DpAll K S' ws (fv.map aD) ∧ (fv ++ lv).Perm as ∧ fv.length = i) (fun S3 H3 ok3 => ⟨none, as, [], us, [], rfl, ok3.av l1 _ n1 f1, ok3.av l2 _ n2 f2, ok3.hh l1 _ f1, ok3.hh l2 _ f2, dps_ex ok3.ss _ _ p1.now, .nil, List.Perm.refl _, rfl⟩) ?_ ?_
  · rintro S3 ex3 i y x σ' S4 H4 S5 H5 hy lo ⟨x0, lv, fv, us4, ws4, rfl, q1, q2, q3, q4, d1, d2, q5, q6⟩ ok5 pz
    have hi : i < as.length := by have := (List.getElem?_eq_some_iff.mp hy).1; rwa [List.length_range] at this
    have hlen : fv.length + lv.length = as.length := by rw [← List.length_append, q5.length_eq]
    have lu := dps_len d1
    have lw := dps_len d2
    rw [List.length_map] at lu lw
    refine eg_name H5 ok5.sh _ (s_popdraw (σ := [some (.ref p), some v, some u, some x, some (.ref l1), some (.ref l2)]) (us := us4) (ws := ws4) (lo.ok.trans ok5) h1 h2 (ok5.av l1 _ q1 q3) (ok5.av l2 _ q2 q4) (ok5.hh l1 _ q3) (ok5.hh l2 _ q4) hne ((ok1.ss.trans (ex3.trans (lo.ex.trans ok5.ss))) p _ hp) rfl rfl rfl (by omega) (by omega) (by omega) fun j y S6 H6 hj ok6 ex6 r1 r2 r3 r4 => ?_)
    obtain ⟨a, ha, hya⟩ := dps_getD d1 hj
    refine ⟨S6, ⟨ok6, lo.ex.trans (ok5.ss.trans ex6)⟩, some x, lv.eraseIdx j, fv ++ [a], _, _, rfl, r1, r2, r3, r4, ?_, ?_, move_perm q5 ha, ?_⟩
    · rw [← erase_map']; exact dps_erase j (dps_ex (ok5.ss.trans ex6) _ _ d1)
    · rw [List.map_append]; exact dps_append (dps_ex (ok5.ss.trans ex6) _ _ d2) (.cons (dp_ex (ok5.ss.trans ex6) _ _ hya) .nil)
    · rw [List.length_append, q6]; rfl
  · rintro σ' S4 H4 lo ⟨x0, lv, fv, us4, ws4, rfl, q1, q2, q3, q4, d1, d2, q5, q6⟩
    rw [List.length_range] at q6
    have okf := lo.ok.freeze h2 q2 q4
    have exf : Ex S4 (upd S4 l2 (.lst ws4)) := Evl.Ex.new q2
    have hlv : lv = [] := by
      have : fv.length + lv.length = as.length := by rw [← List.length_append, q5.length_eq]
      exact List.eq_nil_of_length_eq_zero (by omega)
    subst hlv
    rw [List.append_nil] at q5
    refine s_ret okf.sh (P := DL.IsD K (qD hq fv)) (ev_tupD (ead_cons ev_str (ead_cons (ev_varD rfl (dp_ex okf.ss _ _ g1)) (ead_cons (ev_tupOf (ead_cons (ev_varD rfl (.lst (SqL.of upd_same) (dps_ex exf _ _ d2))) ead_nil)) ead_nil))) (Nat.le_of_ble_eq_true rfl)) fun r S5 H5 ok5 p5 => k r S5 H5 (okf.trans ok5) (p5.imp fun S6 v hv => ⟨fv, q5, hv⟩)
theorem call_mixed {p : Addr} {t1 t2 t3 : TE} {h : List Str} {as : List A} (hn : as.length ≤ 50) (hp : S p = some (potO P w p)) (h1 : Ev t1 σ S (IsV (.ref p))) (h2 : Ev t2 σ S (DL.IsD K (.tuple (h.map .str)))) (h3 : Ev t3 σ S (DL.IsD K (.list (as.map aD)))) :
    Ev (tCall (sp__law_mixed P w K) [] E0 (tCons t1 (tCons t2 (tCons t3 tNil)))) σ S (MixP K h as) := fun S1 H1 a b Q q =>
  (ea3 h1 h2 h3) S1 H1 a b _ fun vs S2 H2 ok2 p2 => by
    rw [List.append_nil]
    refine ⟨⟨(p, h, as), hn⟩, S2, ok2.sh, fun S3 e3 => ?_, fun v S3 H3 ok3 p3 => q v S3 H3 (ok2.trans ok3) p3⟩
    obtain ⟨v1, r1, rfl, e1, v2, r2, rfl, e2, v3, r3, rfl, e4, rfl⟩ := p2 S3 e3
    have e1 : v1 = V.ref p := e1
    subst e1
    exact ⟨v2, v3, rfl, (a.trans (ok2.ss.trans e3)) p _ hp, e2, e4⟩
theorem call_names {p : Addr} {n : Nat} {t1 t2 : TE} (hn : n ≤ 7) (hp : S p = some (potO P w p)) (h1 : Ev t1 σ S (IsV (.ref p))) (h2 : Ev t2 σ S (DL.IsD K (.int (n : Int)))) :
    Ev (tCall (sp__law_names P w K) [] E0 (tCons t1 (tCons t2 tNil))) σ S (NamesL K n) := fun S1 H1 a b Q q =>
  (ea2 h1 h2) S1 H1 a b _ fun vs S2 H2 ok2 p2 => by
    rw [List.append_nil]
    refine ⟨⟨(p, n), hn⟩, S2, ok2.sh, fun S3 e3 => ?_, fun v S3 H3 ok3 p3 => q v S3 H3 (ok2.trans ok3) p3⟩
    obtain ⟨v1, r1, rfl, e1, v2, r2, rfl, e2, rfl⟩ := p2 S3 e3
    have e1 : v1 = V.ref p := e1
    subst e1
    cases e2
    exact ⟨rfl, (a.trans (ok2.ss.trans e3)) p _ hp⟩
end
end K68


set_option Elab.async false
set_option linter.all false
set_option maxRecDepth 100000
set_option maxHeartbeats 4000000
/-! K68V: the plain law of stars. -/
namespace K68
open PySem L2 DL PySem.Spec PyProof.Rows
open PySem.W (dataLt)
theorem letter_names : ∀ i, i < 7 → letter i ∈ NAMES := by decide +kernel
theorem letter_lt : ∀ k, k < 5 → dataLt (kA (letter k, letter (k + 1))) (kA (letter (k + 1), letter (k + 2))) = true ∧ dataLt (kA (letter (k + 1), letter (k + 2))) (kA (letter k, letter (k + 1))) = false := by decide +kernel
theorem letter_inj : ∀ i, i < 7 → ∀ j, j < 7 → letter i = letter j → i = j := by decide +kernel
/-- led, then x new -/
theorem with_new {m : Led} {x : Str} (h : m.lookup x = none) : withM [x] m = m ++ [(x, letter m.length)] := by
  show withM [] (if (m.lookup x).isSome = true then m else m ++ [(x, letter m.length)]) = _
  rw [h]; rfl
theorem with_old_new {m : Led} {c x y : Str} (hc : m.lookup c = some y) (h : m.lookup x = none) : withM [c, x] m = m ++ [(x, letter m.length)] := by
  show withM [x] (if (m.lookup c).isSome = true then m else m ++ [(c, letter m.length)]) = _
  rw [hc]
  exact with_new h
theorem look_new {m : Led} {x y : Str} (h : m.lookup x = none) : (m ++ [(x, y)]).lookup x = some y := by rw [lookup_snoc, h, if_pos rfl]; rfl
theorem look_old {m : Led} {x y z w : Str} (h : m.lookup z = some w) : (m ++ [(x, y)]).lookup z = some w := by rw [lookup_snoc, h]; rfl
theorem look_other {m : Led} {x y z : Str} (h : m.lookup z = none) (hz : z ≠ x) : (m ++ [(x, y)]).lookup z = none := by rw [lookup_snoc, h, if_neg hz]; rfl
theorem img_of {m : Led} {x y : Str} (h : m.lookup x = some y) : img m x = y := by unfold img; rw [h]; rfl
/-! ### a star's form -/
theorem star_lf {c : Str} : ∀ (n : Nat) (left : List A) (m : Led), left.length = n → left.Nodup → (∀ a ∈ left, OkA a ∧ a.1 = c ∧ m.lookup a.2 = none) → m.lookup c = some (letter 0) → 1 ≤ m.length → m.length + n ≤ 7 →
    LF left m ((List.range' m.length n).map fun i => (letter 0, letter i))
  | 0, left, m, hl, _, _, _, _, _ => by
    have : left = [] := List.eq_nil_of_length_eq_zero hl
    subst this
    exact .nil
  | n + 1, left, m, hl, hnd, hok, hc, h1, h7 => by
    rw [List.range'_succ, List.map_cons]
    have hw : ∀ a ∈ left, withM [a.1, a.2] m = m ++ [(a.2, letter m.length)] := fun a ha => by
      obtain ⟨_, e, hx⟩ := hok a ha
      rw [e]; exact with_old_new hc hx
    have hs : ∀ a ∈ left, spell m a = (letter 0, letter m.length) := fun a ha => by
      obtain ⟨_, e, hx⟩ := hok a ha
      unfold spell imgA
      rw [hw a ha, e, img_of (look_old hc), img_of (look_new hx)]
    refine .step (fun e => by rw [e] at hl; cases hl) (by omega) (fun a ha => ⟨(hok a ha).1, ?_⟩) ?_ (fun a ha => .inl (hs a ha)) fun a ha _ => ?_
    · rw [hs a ha]; exact ⟨letter_names 0 (by decide), letter_names _ (by omega)⟩
    · obtain ⟨a, ha⟩ := List.exists_mem_of_length_pos (show 0 < left.length by omega)
      exact ⟨a, ha, hs a ha⟩
    · rw [hw a ha]
      have hlen : (m ++ [(a.2, letter m.length)]).length = m.length + 1 := by rw [List.length_append]; rfl
      have := star_lf (c := c) n (left.erase a) (m ++ [(a.2, letter m.length)]) (by rw [List.length_erase_of_mem ha]; omega) (hnd.erase a) (fun b hb => ?_) (look_old hc) (by omega) (by omega)
      · rw [hlen] at this; exact this
      · have hbm := List.mem_of_mem_erase hb
        obtain ⟨o, e, hx⟩ := hok b hbm
        refine ⟨o, e, look_other hx fun ee => ?_⟩
        have : b = a := Prod.ext (by rw [e, (hok a ha).2.1]) ee
        rw [this] at hb
        exact (hnd.not_mem_erase) hb
theorem star_fr {c : Str} {as : List A} (s : Star [c] as) : FR [c] as ["a"] ((List.range' 1 as.length).map fun i => (letter 0, letter i)) := by
  have hw : withM [c] [] = [(c, letter 0)] := rfl
  refine ⟨?_, ?_, s.q.2.1, Nat.le_of_ble_eq_true rfl, s.q.2.2.1⟩
  · rw [hw]
    refine star_lf as.length as [(c, letter 0)] rfl s.nd (fun a ha => ⟨s.q.2.2.2.1 a ha, (s.hd a ha c List.mem_cons_self).symm, ?_⟩) ?_ (Nat.le_refl _) (by show 1 + as.length ≤ 7; have := s.q.2.2.1; omega)
    · have := s.tl a ha c List.mem_cons_self
      have h' : (a.2 == c) = false := by rw [beq_eq_false_iff_ne]; exact this
      simp [List.lookup, h']
    · simp [List.lookup]
  · rw [hw]
    have e1 : img [(c, letter 0)] c = letter 0 := img_of (by simp [List.lookup])
    show ([("a" : Str)] : List Str) = [img [(c, letter 0)] c]
    rw [e1]
    decide +kernel
/-! ### a star's maps -/
def toLeaf (c y : Str) (x : Str) : Str := if x = c then c else y
theorem star_hom {c : Str} {as gs : List A} {b : A} (s : Star [c] as) (hb : b ∈ gs) (h1 : b.1 = c) : Hom (toLeaf c b.2) [c] as gs [c] := by
  refine ⟨fun p hp => ?_, fun a ha => ?_⟩
  · have : p = (c, c) := List.mem_singleton.mp hp
    rw [this]; exact if_pos rfl
  · have e1 : toLeaf c b.2 a.1 = c := by rw [← s.hd a ha c List.mem_cons_self]; exact if_pos rfl
    have e2 : toLeaf c b.2 a.2 = b.2 := if_neg (s.tl a ha c List.mem_cons_self)
    rw [e1, e2, ← h1]
    exact hb
theorem star_two {c : Str} {as : List A} (s : Star [c] as) (h : foldM [c] as = none) : as.length = 1 := by
  obtain ⟨a, r, e⟩ : ∃ a r, as = a :: r := by
    cases as with
    | nil => exact absurd rfl s.ne
    | cons a r => exact ⟨a, r, rfl⟩
  cases r with
  | nil => rw [e]; rfl
  | cons b r =>
    exfalso
    have ham : a ∈ as := by rw [e]; exact List.mem_cons_self
    have hbm : b ∈ as := by rw [e]; exact List.mem_cons_of_mem _ List.mem_cons_self
    have hne : b ≠ a := fun z => by
      have := s.nd
      rw [e, z, List.nodup_cons] at this
      exact this.1 List.mem_cons_self
    exact fold_none h ham (star_hom s (b := b) (List.mem_filter.mpr ⟨hbm, decide_eq_true hne⟩) (s.hd b hbm c List.mem_cons_self).symm)
theorem star_one {c : Str} {a : A} : foldM [c] [a] = none := by
  refine no_hom_none fun f r hr H => ?_
  have hr := List.mem_singleton.mp hr
  subst hr
  have := H.2 r List.mem_cons_self
  have := (List.mem_filter.mp this)
  have e := List.mem_singleton.mp this.1
  rw [e] at this
  exact absurd rfl (of_decide_eq_true this.2)
theorem Star.part {c : Str} {as as' : List A} (s : Star [c] as) (hs : ∀ a ∈ as', a ∈ as) (hn : as'.Nodup) (hne : as' ≠ []) (q : QPre [c] as') : Star [c] as' := ⟨q, hn, hne, fun a ha => s.hd a (hs a ha), fun a ha => s.tl a (hs a ha)⟩
theorem star_core {c : Str} {as as' : List A} (h : CoreR [c] as as') : Star [c] as → ∃ a, as' = [a] ∧ Star [c] [a] := by
  induction h with
  | done e =>
    intro s
    obtain ⟨a, ha⟩ := List.length_eq_one_iff.mp (star_two s e)
    exact ⟨a, ha, ha ▸ s⟩
  | @step as as' m e _ ih =>
    intro s
    obtain ⟨s1, s2, s3, _, _, _⟩ := core_step s.q s.nd s.ne e
    exact ih (s.part (fun a ha => (List.mem_filter.mp ha).1) s2 s3 s1)
theorem star_core_fr {c : Str} {as as' : List A} (s : Star [c] as) (h : CoreR [c] as as') : FR [c] as' ["a"] [("a", "b")] := by
  obtain ⟨a, rfl, s'⟩ := star_core h s
  exact star_fr s'
theorem star_lo {c : Str} {as : List A} (s : Star [c] as) : Lo2 [c] as ["a"] [("a", "b")] := ⟨s.q, s.nd, s.ne, fun _ h => star_core_fr s h, by decide, by decide, by
  intro a ha
  rw [List.mem_singleton.mp ha]
  exact ⟨by decide, by decide⟩, by decide⟩
theorem star_using {c : Str} {as gs : List A} {g : A} (s : Star [c] as) (hg : g ∈ gs) (h1 : g.1 = c) : (usingM [c] [c] as gs g).isSome = true := by
  obtain ⟨a, r, e⟩ : ∃ a r, as = a :: r := by
    cases as with
    | nil => exact absurd rfl s.ne
    | cons a r => exact ⟨a, r, rfl⟩
  have ham : a ∈ as := by rw [e]; exact List.mem_cons_self
  refine using_full (star_hom s hg h1) (i := 0) (a := a) (by rw [e]; rfl) ?_
  have e1 : toLeaf c g.2 a.1 = c := by rw [← s.hd a ham c List.mem_cons_self]; exact if_pos rfl
  have e2 : toLeaf c g.2 a.2 = g.2 := if_neg (s.tl a ham c List.mem_cons_self)
  rw [e1, e2, ← h1]
theorem star_cov {c : Str} {as gs : List A} (s : Star [c] as) (t : Star [c] gs) : covM [c] as [c] gs = true := by
  unfold covM
  exact List.all_eq_true.mpr fun g hg => star_using s hg (t.hd g hg c List.mem_cons_self).symm
theorem star_helpful {c : Str} : Helpful [c] := fun as a s ha hl => by
  unfold paperM
  rw [if_neg (by decide), if_pos rfl, star_cov (s.sub hl) s, star_cov s (s.sub hl)]
  rfl
theorem star_held {c : Str} {as : List A} {a : A} (s : Star [c] as) (hl : (as.filter fun b => decide (b ≠ a)) ≠ []) : paperM "held" [c] as (as.filter fun b => decide (b ≠ a)) = true := by
  unfold paperM
  rw [if_pos (by decide)]
  obtain ⟨b, hb⟩ := List.exists_mem_of_ne_nil _ hl
  exact map_full (star_hom s hb (s.hd b (List.mem_filter.mp hb).1 c List.mem_cons_self).symm)
end K68


set_option Elab.async false
set_option linter.all false
set_option maxRecDepth 100000
set_option maxHeartbeats 4000000
/-! K68W: the plain law of rows. -/
namespace K68
open PySem L2 DL PySem.Spec PyProof.Rows
open PySem.W (dataLt)
structure Inj (n : Nat → Str) (m : Nat) : Prop where
  inj : ∀ i, i ≤ m → ∀ j, j ≤ m → n i = n j → i = j
  nm : ∀ i, i ≤ m → n i ∈ NAMES
def edge (n : Nat → Str) (j : Nat) : A := (n j, n (j + 1))
structure RowQ (n : Nat → Str) (k m : Nat) (as : List A) : Prop where
  nd : as.Nodup
  mem : ∀ a, a ∈ as ↔ ∃ j, k ≤ j ∧ j < m ∧ a = edge n j
section
variable {n : Nat → Str} {m : Nat}
theorem edge_inj (I : Inj n m) {i j : Nat} (hi : i < m) (hj : j < m) (e : edge n i = edge n j) : i = j := I.inj i (by omega) j (by omega) (Prod.mk.inj e).1
theorem row_none (I : Inj n m) {as : List A} {h : List Str} (q : RowQ n 0 m as) : foldM h as = none := by
  refine no_hom_none fun f r hr H => ?_
  obtain ⟨i0, _, hi0, er⟩ := (q.mem r).mp hr
  have key : ∀ i, i < m → ∃ j, j < m ∧ f (n i) = n j ∧ f (n (i + 1)) = n (j + 1) ∧ edge n j ≠ r := fun i hi => by
    have h1 := H.2 (edge n i) ((q.mem _).mpr ⟨i, Nat.zero_le _, hi, rfl⟩)
    obtain ⟨h2, h3⟩ := List.mem_filter.mp h1
    obtain ⟨j, _, hj, e⟩ := (q.mem _).mp h2
    refine ⟨j, hj, (Prod.mk.inj e).1, (Prod.mk.inj e).2, ?_⟩
    rw [← e]
    exact of_decide_eq_true h3
  obtain ⟨j0, hj0, e0, e0', _⟩ := key 0 (by omega)
  have walk : ∀ i, i < m → j0 + i < m ∧ f (n i) = n (j0 + i) ∧ f (n (i + 1)) = n (j0 + i + 1) := fun i => by
    induction i with
    | zero => exact fun _ => ⟨hj0, e0, e0'⟩
    | succ i ih =>
      intro hi
      obtain ⟨w1, w2, w3⟩ := ih (by omega)
      obtain ⟨j, hj, k1, k2, _⟩ := key (i + 1) hi
      have : j0 + i + 1 = j := I.inj _ (by omega) _ (by omega) (by rw [← w3, k1])
      subst this
      exact ⟨hj, k1, k2⟩
  have hz : j0 = 0 := by have := (walk (m - 1) (by omega)).1; omega
  obtain ⟨j, hj, k1, k2, k3⟩ := key i0 hi0
  obtain ⟨w1, w2, w3⟩ := walk i0 hi0
  have : j = i0 := I.inj _ (by omega) _ (by omega) (by rw [← k1, w2, hz, Nat.zero_add])
  rw [this] at k3
  exact k3 er.symm
/-! ### a row's form -/
def ledK (n : Nat → Str) (k : Nat) : Led := (List.range (k + 1)).map fun i => (n i, letter i)
theorem ledK_succ (k : Nat) : ledK n (k + 1) = ledK n k ++ [(n (k + 1), letter (k + 1))] := by
  unfold ledK
  rw [List.range_succ, List.map_append]
  rfl
theorem ledK_len (k : Nat) : (ledK n k).length = k + 1 := by unfold ledK; rw [List.length_map, List.length_range]
theorem ledK_look (I : Inj n m) : ∀ k, k ≤ m → ∀ i, i ≤ m → (ledK n k).lookup (n i) = if i ≤ k then some (letter i) else none
  | 0, _, i, hi => by
    have e : ledK n 0 = [] ++ [(n 0, letter 0)] := rfl
    rw [e, lookup_snoc]
    show (if n i = n 0 then some (letter 0) else none) = _
    by_cases h : i = 0
    · subst h; rw [if_pos rfl, if_pos (Nat.le_refl _)]
    · rw [if_neg (fun e => h (I.inj i hi 0 (Nat.zero_le _) e)), if_neg (by omega)]
  | k + 1, hk, i, hi => by
    rw [ledK_succ, lookup_snoc, ledK_look I k (by omega) i hi]
    by_cases h : i ≤ k
    · rw [if_pos h, if_pos (show i ≤ k + 1 by omega)]; rfl
    · rw [if_neg h]
      show (if n i = n (k + 1) then some (letter (k + 1)) else none) = _
      by_cases h2 : i = k + 1
      · subst h2; rw [if_pos rfl, if_pos (Nat.le_refl _)]
      · rw [if_neg (fun e => h2 (I.inj i hi _ hk e)), if_neg (by omega)]
theorem row_with (I : Inj n m) {k : Nat} (hk : k < m) : withM [(edge n k).1, (edge n k).2] (ledK n k) = ledK n (k + 1) := by
  have h1 := ledK_look I k (by omega) k (by omega)
  have h2 := ledK_look I k (by omega) (k + 1) (by omega)
  rw [if_pos (Nat.le_refl _)] at h1
  rw [if_neg (by omega)] at h2
  rw [ledK_succ]
  have := with_old_new (x := n (k + 1)) h1 h2
  rw [ledK_len] at this
  exact this
theorem row_spell (I : Inj n m) {k : Nat} (hk : k < m) : spell (ledK n k) (edge n k) = (letter k, letter (k + 1)) := by
  unfold spell imgA
  rw [row_with I hk]
  have h1 := ledK_look I (k + 1) hk k (by omega)
  have h2 := ledK_look I (k + 1) hk (k + 1) hk
  rw [if_pos (by omega)] at h1
  rw [if_pos (Nat.le_refl _)] at h2
  show (img _ (n k), img _ (n (k + 1))) = _
  rw [img_of h1, img_of h2]
theorem row_spell2 (I : Inj n m) {k j : Nat} (hj : j < m) (hkj : k < j) : spell (ledK n k) (edge n j) = (letter (k + 1), letter (k + 2)) := by
  have h1 := ledK_look I k (by omega) j (by omega)
  have h2 := ledK_look I k (by omega) (j + 1) (by omega)
  rw [if_neg (by omega)] at h1
  rw [if_neg (by omega)] at h2
  have hne : n (j + 1) ≠ n j := fun e => by have := I.inj _ (by omega) _ (by omega) e; omega
  have hw : withM [(edge n j).1, (edge n j).2] (ledK n k) = (ledK n k ++ [(n j, letter (k + 1))]) ++ [(n (j + 1), letter (k + 2))] := by
    show withM [n (j + 1)] (if ((ledK n k).lookup (n j)).isSome = true then ledK n k else ledK n k ++ [(n j, letter (ledK n k).length)]) = _
    rw [h1, ledK_len]
    show withM [n (j + 1)] (ledK n k ++ [(n j, letter (k + 1))]) = _
    rw [with_new (look_other h2 hne), List.length_append, ledK_len]
    rfl
  unfold spell imgA
  rw [hw]
  show (img _ (n j), img _ (n (j + 1))) = _
  rw [img_of (look_old (look_new h1)), img_of (look_new (look_other h2 hne))]
theorem row_lf (I : Inj n m) (hm : m ≤ 6) : ∀ (d k : Nat) (left : List A), k + d = m → RowQ n k m left → LF left (ledK n k) ((List.range' k d).map fun i => (letter i, letter (i + 1)))
  | 0, k, left, hd, q => by
    have : left = [] := by
      cases left with
      | nil => rfl
      | cons a r => obtain ⟨j, h1, h2, _⟩ := (q.mem a).mp List.mem_cons_self; omega
    subst this
    exact .nil
  | d + 1, k, left, hd, q => by
    rw [List.range'_succ, List.map_cons]
    have hkm : k < m := by omega
    have hmem : edge n k ∈ left := (q.mem _).mpr ⟨k, Nat.le_refl _, hkm, rfl⟩
    have hs := row_spell I hkm
    have hcase : ∀ a ∈ left, a = edge n k ∨ (k + 2 ≤ m ∧ spell (ledK n k) a = (letter (k + 1), letter (k + 2))) := fun a ha => by
      obtain ⟨j, h1, h2, e⟩ := (q.mem a).mp ha
      by_cases hj : j = k
      · left; rw [e, hj]
      · right; exact ⟨by omega, by rw [e]; exact row_spell2 I h2 (by omega)⟩
    have honly : ∀ a ∈ left, spell (ledK n k) a = (letter k, letter (k + 1)) → a = edge n k := fun a ha e => by
      rcases hcase a ha with h | ⟨h1, h⟩
      · exact h
      · rw [h] at e
        have := letter_inj (k + 1) (by omega) k (by omega) (Prod.mk.inj e).1
        omega
    refine .step (List.ne_nil_of_mem hmem) (by rw [ledK_len]; omega) (fun a ha => ?_) ⟨_, hmem, hs⟩ (fun a ha => ?_) fun a ha e => ?_
    · obtain ⟨j, h1, h2, e⟩ := (q.mem a).mp ha
      refine ⟨by rw [e]; exact ⟨I.nm j (by omega), I.nm (j + 1) (by omega)⟩, ?_⟩
      rcases hcase a ha with h | ⟨h3, h⟩
      · rw [h, hs]; exact ⟨letter_names _ (by omega), letter_names _ (by omega)⟩
      · rw [h]; exact ⟨letter_names _ (by omega), letter_names _ (by omega)⟩
    · rcases hcase a ha with h | ⟨h3, h⟩
      · left; rw [h, hs]
      · right; rw [h]; exact letter_lt k (by omega)
    · have := honly a ha e
      subst this
      rw [row_with I hkm]
      refine row_lf I hm d (k + 1) _ (by omega) ⟨q.nd.erase _, fun b => ?_⟩
      rw [q.nd.mem_erase_iff, q.mem]
      constructor
      · rintro ⟨hne, j, h1, h2, rfl⟩
        refine ⟨j, ?_, h2, rfl⟩
        rcases Nat.lt_or_eq_of_le h1 with h | h
        · exact h
        · exact absurd (by rw [h]) hne
      · rintro ⟨j, h1, h2, rfl⟩
        exact ⟨fun e => by have := edge_inj I h2 hkm e; omega, j, by omega, h2, rfl⟩
theorem row_fr (I : Inj n m) (hm : m ≤ 6) {as : List A} (q : RowQ n 0 m as) (hl : as.length ≤ 6) : FR [n 0] as ["a"] ((List.range' 0 m).map fun i => (letter i, letter (i + 1))) := by
  have hw : withM [n 0] [] = ledK n 0 := rfl
  refine ⟨?_, ?_, fun x hx => by rw [List.mem_singleton.mp hx]; exact I.nm 0 (Nat.zero_le _), Nat.le_of_ble_eq_true rfl, hl⟩
  · rw [hw]; exact row_lf I hm m 0 as (Nat.zero_add m) q
  · rw [hw]
    have h1 := ledK_look I 0 (Nat.zero_le _) 0 (Nat.zero_le _)
    rw [if_pos (Nat.le_refl _)] at h1
    show ([("a" : Str)] : List Str) = [img (ledK n 0) (n 0)]
    rw [img_of h1]
    decide +kernel
/-! ### there and back -/
structure BothQ (n : Nat → Str) (m : Nat) (as : List A) : Prop where
  nd : as.Nodup
  ne : as ≠ []
  sub : ∀ a ∈ as, ∃ j, j < m ∧ (a = edge n j ∨ a = (n (j + 1), n j))
  sym : ∀ a ∈ as, (a.2, a.1) ∈ as
theorem both_core (I : Inj n m) {as as' : List A} (h : CoreR [] as as') : BothQ n m as → QPre [] as → ∃ x y, x ≠ y ∧ x ∈ NAMES ∧ y ∈ NAMES ∧ as' = [(x, y), (y, x)] := by
  classical
  induction h with
  | @done as e =>
    intro q _
    obtain ⟨a, ha⟩ := List.exists_mem_of_ne_nil _ q.ne
    -- an arc that goes forth
    obtain ⟨j, hj, hja⟩ : ∃ j, j < m ∧ edge n j ∈ as := by
      obtain ⟨j, hj, h⟩ := q.sub a ha
      rcases h with h | h
      · exact ⟨j, hj, h ▸ ha⟩
      · exact ⟨j, hj, by have := q.sym a ha; rw [h] at this; exact this⟩
    have hjb : (n (j + 1), n j) ∈ as := q.sym _ hja
    have hne : n j ≠ n (j + 1) := fun e => by have := I.inj j (by omega) (j + 1) (by omega) e; omega
    let f : Str → Str := fun x => if ∃ i, i ≤ m ∧ i % 2 = j % 2 ∧ x = n i then n j else n (j + 1)
    have f1 : ∀ i, i ≤ m → i % 2 = j % 2 → f (n i) = n j := fun i hi e => if_pos ⟨i, hi, e, rfl⟩
    have f2 : ∀ i, i ≤ m → i % 2 ≠ j % 2 → f (n i) = n (j + 1) := fun i hi e => if_neg fun ⟨i', hi', e', e2⟩ => e (by rw [I.inj i hi i' hi' e2]; exact e')
    have himg : ∀ b ∈ as, (f b.1, f b.2) = edge n j ∨ (f b.1, f b.2) = (n (j + 1), n j) := fun b hb => by
      obtain ⟨i, hi, h⟩ := q.sub b hb
      by_cases hp : i % 2 = j % 2
      · have g1 := f1 i (by omega) hp
        have g2 := f2 (i + 1) (by omega) (by omega)
        rcases h with rfl | rfl
        · left; show (f (n i), f (n (i + 1))) = _; rw [g1, g2]; rfl
        · right; show (f (n (i + 1)), f (n i)) = _; rw [g1, g2]
      · have g1 := f2 i (by omega) hp
        have g2 := f1 (i + 1) (by omega) (by omega)
        rcases h with rfl | rfl
        · right; show (f (n i), f (n (i + 1))) = _; rw [g1, g2]
        · left; show (f (n (i + 1)), f (n i)) = _; rw [g1, g2]; rfl
    have hall : ∀ r ∈ as, r = edge n j ∨ r = (n (j + 1), n j) := fun r hr => by
      by_cases h1 : r = edge n j
      · exact .inl h1
      · by_cases h2 : r = (n (j + 1), n j)
        · exact .inr h2
        · exfalso
          refine fold_none (f := f) e hr ⟨fun p hp => (by cases hp), fun b hb => ?_⟩
          rcases himg b hb with h | h
          · rw [h]; exact List.mem_filter.mpr ⟨hja, decide_eq_true fun e => h1 e.symm⟩
          · rw [h]; exact List.mem_filter.mpr ⟨hjb, decide_eq_true fun e => h2 e.symm⟩
    have hxy : edge n j ≠ (n (j + 1), n j) := fun e => hne (Prod.mk.inj e).1
    have nj := I.nm j (by omega)
    have nj1 := I.nm (j + 1) (by omega)
    cases as with
    | nil => cases ha
    | cons b r =>
      have hb := hall b List.mem_cons_self
      cases r with
      | nil =>
        exfalso
        rcases hb with rfl | rfl
        · exact hxy (List.mem_singleton.mp hjb).symm
        · exact hxy (List.mem_singleton.mp hja)
      | cons c r =>
        have hc := hall c (List.mem_cons_of_mem _ List.mem_cons_self)
        have hnd := q.nd
        have hbc : b ≠ c := fun e => by rw [e, List.nodup_cons] at hnd; exact hnd.1 List.mem_cons_self
        have hr : r = [] := by
          cases r with
          | nil => rfl
          | cons d r =>
            exfalso
            have hd := hall d (List.mem_cons_of_mem _ (List.mem_cons_of_mem _ List.mem_cons_self))
            have hbd : b ≠ d := fun e => by rw [e, List.nodup_cons] at hnd; exact hnd.1 (List.mem_cons_of_mem _ List.mem_cons_self)
            have hcd : c ≠ d := fun e => by rw [List.nodup_cons, e, List.nodup_cons] at hnd; exact hnd.2.1 List.mem_cons_self
            rcases hb with rfl | rfl <;> rcases hc with rfl | rfl <;> rcases hd with rfl | rfl <;> first | exact hbc rfl | exact hbd rfl | exact hcd rfl
        subst hr
        rcases hb with rfl | rfl <;> rcases hc with rfl | rfl
        · exact absurd rfl hbc
        · exact ⟨n j, n (j + 1), hne, nj, nj1, rfl⟩
        · exact ⟨n (j + 1), n j, hne.symm, nj1, nj, rfl⟩
        · exact absurd rfl hbc
  | @step as as' mm e _ ih =>
    intro q p
    obtain ⟨s1, s2, s3, _, _, s6⟩ := core_step p q.nd q.ne e
    refine ih ⟨s2, s3, fun a ha => q.sub a (List.mem_filter.mp ha).1, fun a ha => ?_⟩ s1
    obtain ⟨b, hb, rfl⟩ := List.mem_map.mp ((s6 a).mp ha)
    exact (s6 _).mpr (List.mem_map.mpr ⟨(b.2, b.1), q.sym b hb, rfl⟩)
theorem pair_fr {x y : Str} (hne : x ≠ y) (hx : x ∈ NAMES) (hy : y ∈ NAMES) : FR [] [(x, y), (y, x)] [] [("a", "b"), ("b", "a")] := by
  have two : ∀ x y : Str, x ≠ y → x ∈ NAMES → y ∈ NAMES → withM [x, y] [] = [(x, letter 0), (y, letter 1)] ∧ spell [] (x, y) = (letter 0, letter 1) ∧ LF [(y, x)] [(x, letter 0), (y, letter 1)] [(letter 1, letter 0)] := fun x y hne hx hy => by
    have l0 : ([] : Led).lookup x = none := rfl
    have w1 : withM [x, y] [] = [(x, letter 0), (y, letter 1)] := by
      show withM [y] [(x, letter 0)] = _
      rw [with_new (by have : (y == x) = false := by rw [beq_eq_false_iff_ne]; exact hne.symm
                       simp [List.lookup, this])]
      rfl
    have lx : ([(x, letter 0), (y, letter 1)] : Led).lookup x = some (letter 0) := by simp [List.lookup]
    have ly : ([(x, letter 0), (y, letter 1)] : Led).lookup y = some (letter 1) := by
      have : (y == x) = false := by rw [beq_eq_false_iff_ne]; exact hne.symm
      simp [List.lookup, this]
    have w2 : withM [y, x] [(x, letter 0), (y, letter 1)] = [(x, letter 0), (y, letter 1)] := by
      show withM [x] (if (([(x, letter 0), (y, letter 1)] : Led).lookup y).isSome = true then _ else _) = _
      rw [ly]
      show withM [] (if (([(x, letter 0), (y, letter 1)] : Led).lookup x).isSome = true then _ else _) = _
      rw [lx]
      rfl
    have s2 : spell [(x, letter 0), (y, letter 1)] (y, x) = (letter 1, letter 0) := by
      unfold spell imgA
      rw [w2]
      show (img _ y, img _ x) = _
      rw [img_of ly, img_of lx]
    refine ⟨w1, ?_, ?_⟩
    · unfold spell imgA
      rw [w1]
      show (img _ x, img _ y) = _
      rw [img_of lx, img_of ly]
    · refine .step (List.cons_ne_nil _ _) (Nat.le_of_ble_eq_true rfl) (fun a ha => ?_) ⟨(y, x), List.mem_cons_self, s2⟩ (fun a ha => ?_) fun a ha _ => ?_
      · rw [List.mem_singleton.mp ha, s2]; exact ⟨⟨hy, hx⟩, letter_names 1 (by decide), letter_names 0 (by decide)⟩
      · rw [List.mem_singleton.mp ha]; exact .inl s2
      · rw [List.mem_singleton.mp ha, List.erase_cons_head]; exact .nil
  obtain ⟨a1, a2, a3⟩ := two x y hne hx hy
  obtain ⟨b1, b2, b3⟩ := two y x hne.symm hy hx
  have hxy : ((x, y) : A) ≠ (y, x) := fun e => hne (Prod.mk.inj e).1
  refine ⟨?_, rfl, (fun _ h => nomatch h), Nat.zero_le _, Nat.le_of_ble_eq_true rfl⟩
  have hr : ([("a", "b"), ("b", "a")] : List A) = [(letter 0, letter 1), (letter 1, letter 0)] := by decide +kernel
  rw [hr]
  have hcase : ∀ a ∈ [((x, y) : A), (y, x)], a = (x, y) ∨ a = (y, x) := fun a ha => by
    rcases List.mem_cons.mp ha with h | h
    · exact .inl h
    · exact .inr (List.mem_singleton.mp h)
  refine .step (List.cons_ne_nil _ _) (Nat.zero_le _) (fun a ha => ?_) ⟨(x, y), List.mem_cons_self, a2⟩ (fun a ha => ?_) fun a ha _ => ?_
  · rcases hcase a ha with rfl | rfl
    · rw [show spell (withM [] []) (x, y) = _ from a2]; exact ⟨⟨hx, hy⟩, letter_names 0 (by decide), letter_names 1 (by decide)⟩
    · rw [show spell (withM [] []) (y, x) = _ from b2]; exact ⟨⟨hy, hx⟩, letter_names 0 (by decide), letter_names 1 (by decide)⟩
  · rcases hcase a ha with rfl | rfl
    · exact .inl a2
    · exact .inl b2
  · rcases hcase a ha with rfl | rfl
    · rw [List.erase_cons_head, show withM [(x, y).1, (x, y).2] (withM [] []) = _ from a1]; exact a3
    · have : ([((x, y) : A), (y, x)]).erase (y, x) = [(x, y)] := by
        rw [List.erase_cons_tail (by simpa using hxy), List.erase_cons_head]
      rw [this, show withM [(y, x).1, (y, x).2] (withM [] []) = _ from b1]; exact b3
theorem both_lo (I : Inj n m) {as : List A} (q : BothQ n m as) (p : QPre [] as) : Lo2 [] as [] [("a", "b"), ("b", "a")] := ⟨p, q.nd, q.ne, fun as' h => by
  obtain ⟨x, y, h1, h2, h3, rfl⟩ := both_core I h q p
  exact pair_fr h1 h2 h3, (fun _ h => nomatch h), Nat.zero_le _, by
  intro a ha
  rcases List.mem_cons.mp ha with rfl | ha
  · exact ⟨by decide, by decide⟩
  · rw [List.mem_singleton.mp ha]; exact ⟨by decide, by decide⟩, by decide⟩
end
end K68


set_option Elab.async false
set_option linter.all false
set_option maxRecDepth 100000
set_option maxHeartbeats 4000000
/-! K68X: the plain law of rings. -/
namespace K68
open PySem L2 DL PySem.Spec PyProof.Rows
open PySem.W (dataLt)
def nx (m i : Nat) : Nat := if i + 1 < m then i + 1 else 0
def ringE (n : Nat → Str) (m i : Nat) : A := (n i, n (nx m i))
theorem nx_lt {m i : Nat} (hm : 0 < m) : nx m i < m := by unfold nx; split <;> omega
theorem nx_mod {m : Nat} (hm : 2 ≤ m) (t : Nat) : nx m (t % m) = (t + 1) % m := by
  have h1 : t % m < m := Nat.mod_lt _ (by omega)
  have h2 : (t + 1) % m = (t % m + 1) % m := by rw [Nat.add_mod, Nat.mod_eq_of_lt (show 1 < m by omega)]
  rw [h2]
  unfold nx
  split
  · rename_i h; rw [Nat.mod_eq_of_lt h]
  · have : t % m + 1 = m := by omega
    rw [this, Nat.mod_self]
structure RingQ (n : Nat → Str) (m : Nat) (as : List A) : Prop where
  nd : as.Nodup
  mem : ∀ a, a ∈ as ↔ ∃ i, i < m ∧ a = ringE n m i
theorem ring_none {n : Nat → Str} {m : Nat} (I : Inj n (m - 1)) (hm : 2 ≤ m) {as : List A} {h : List Str} (q : RingQ n m as) : foldM h as = none := by
  refine no_hom_none fun f r hr H => ?_
  obtain ⟨k, hk, er⟩ := (q.mem r).mp hr
  have inj : ∀ i, i < m → ∀ j, j < m → n i = n j → i = j := fun i hi j hj e => I.inj i (by omega) j (by omega) e
  have key : ∀ i, i < m → ∃ j, j < m ∧ f (n i) = n j ∧ f (n (nx m i)) = n (nx m j) ∧ ringE n m j ≠ r := fun i hi => by
    have h1 := H.2 (ringE n m i) ((q.mem _).mpr ⟨i, hi, rfl⟩)
    obtain ⟨h2, h3⟩ := List.mem_filter.mp h1
    obtain ⟨j, hj, e⟩ := (q.mem _).mp h2
    refine ⟨j, hj, (Prod.mk.inj e).1, (Prod.mk.inj e).2, ?_⟩
    rw [← e]
    exact of_decide_eq_true h3
  obtain ⟨j0, hj0, e0, _, _⟩ := key 0 (by omega)
  have walk : ∀ t, f (n (t % m)) = n ((j0 + t) % m) := fun t => by
    induction t with
    | zero => rw [Nat.zero_mod, Nat.add_zero, Nat.mod_eq_of_lt hj0]; exact e0
    | succ t ih =>
      obtain ⟨j, hj, k1, k2, _⟩ := key (t % m) (Nat.mod_lt _ (by omega))
      have : j = (j0 + t) % m := inj _ hj _ (Nat.mod_lt _ (by omega)) (by rw [← k1, ih])
      rw [nx_mod hm, this, nx_mod hm] at k2
      exact k2
  have hw := walk (k + m - j0)
  have e1 : (j0 + (k + m - j0)) % m = k := by
    rw [show j0 + (k + m - j0) = k + m by omega, Nat.add_mod_right, Nat.mod_eq_of_lt hk]
  rw [e1] at hw
  obtain ⟨j, hj, k1, k2, k3⟩ := key ((k + m - j0) % m) (Nat.mod_lt _ (by omega))
  have : j = k := inj _ hj _ hk (by rw [← k1, hw])
  rw [this] at k3
  exact k3 er.symm
theorem core_same {h : List Str} {as as' : List A} (e : foldM h as = none) (c : CoreR h as as') : as' = as := by
  cases c with
  | done _ => rfl
  | step e2 _ => rw [e] at e2; cases e2
/-! ### with a loop -/
structure OwnQ (x : Str) (as : List A) : Prop where
  nd : as.Nodup
  mem : (x, x) ∈ as
  only : ∀ a ∈ as, a.1 = a.2 → a = (x, x)
theorem own_core {x : Str} {as as' : List A} (c : CoreR [] as as') : OwnQ x as → QPre [] as → as' = [(x, x)] := by
  induction c with
  | @done as e =>
    intro q _
    have hall : ∀ r ∈ as, r = (x, x) := fun r hr => by
      by_cases h1 : r = (x, x)
      · exact h1
      · exfalso
        refine fold_none (f := fun _ => x) e hr ⟨fun p hp => (by cases hp), fun b hb => ?_⟩
        exact List.mem_filter.mpr ⟨q.mem, decide_eq_true fun e => h1 e.symm⟩
    cases as with
    | nil => exact nomatch q.mem
    | cons b r =>
      have hb := hall b List.mem_cons_self
      have hr : r = [] := by
        cases r with
        | nil => rfl
        | cons c r =>
          have hc := hall c (List.mem_cons_of_mem _ List.mem_cons_self)
          have hnd := q.nd
          rw [hb, hc, List.nodup_cons] at hnd
          exact absurd List.mem_cons_self hnd.1
      rw [hb, hr]
  | @step as as' mm e _ ih =>
    intro q p
    obtain ⟨s1, s2, s3, _, _, s6⟩ := core_step p q.nd (List.ne_nil_of_mem q.mem) e
    refine ih ⟨s2, ?_, fun a ha => q.only a (List.mem_filter.mp ha).1⟩ s1
    have h1 : imgA mm (x, x) ∈ as.filter fun a => decide (a ∈ as.map (imgA mm)) := (s6 _).mpr (List.mem_map_of_mem q.mem)
    have h2 := q.only _ (List.mem_filter.mp h1).1 rfl
    rw [h2] at h1
    exact h1
theorem own_fr {x : Str} (hx : x ∈ NAMES) : FR [] [(x, x)] [] [("a", "a")] := by
  have w1 : withM [x, x] [] = [(x, letter 0)] := by
    show withM [x] [(x, letter 0)] = _
    show withM [] (if (([(x, letter 0)] : Led).lookup x).isSome = true then _ else _) = _
    have lx : ([(x, letter 0)] : Led).lookup x = some (letter 0) := by simp [List.lookup]
    rw [lx]; rfl
  have s1 : spell [] (x, x) = (letter 0, letter 0) := by
    unfold spell imgA
    rw [w1]
    have lx : ([(x, letter 0)] : Led).lookup x = some (letter 0) := by simp [List.lookup]
    show (img _ x, img _ x) = _
    rw [img_of lx]
  refine ⟨?_, rfl, (fun _ h => nomatch h), Nat.zero_le _, Nat.le_of_ble_eq_true rfl⟩
  have hr : ([("a", "a")] : List A) = [(letter 0, letter 0)] := by decide +kernel
  rw [hr]
  refine .step (List.cons_ne_nil _ _) (Nat.zero_le _) (fun a ha => ?_) ⟨(x, x), List.mem_cons_self, s1⟩ (fun a ha => ?_) fun a ha _ => ?_
  · rw [List.mem_singleton.mp ha, show spell (withM [] []) (x, x) = _ from s1]; exact ⟨⟨hx, hx⟩, letter_names 0 (by decide), letter_names 0 (by decide)⟩
  · rw [List.mem_singleton.mp ha]; exact .inl s1
  · rw [List.mem_singleton.mp ha, List.erase_cons_head]; exact .nil
theorem own_lo {x : Str} (hx : x ∈ NAMES) {as : List A} (q : OwnQ x as) (p : QPre [] as) : Lo2 [] as [] [("a", "a")] := ⟨p, q.nd, List.ne_nil_of_mem q.mem, fun as' h => by
  rw [own_core h q p]
  exact own_fr hx, (fun _ h => nomatch h), Nat.zero_le _, by
  intro a ha
  rw [List.mem_singleton.mp ha]; exact ⟨by decide, by decide⟩, by decide⟩
theorem own_held {x : Str} {as : List A} (q : OwnQ x as) : paperM "held" [] as (as.filter fun b => decide (b ≠ (x, x))) = false := by
  unfold paperM
  rw [if_pos (by decide)]
  cases h : mapM [] as (as.filter fun b => decide (b ≠ (x, x))) [] with
  | none => rfl
  | some m =>
    exfalso
    have := (map_hom h).2 _ q.mem
    obtain ⟨h1, h2⟩ := List.mem_filter.mp this
    exact of_decide_eq_true h2 (q.only _ h1 rfl)
end K68


set_option Elab.async false
set_option linter.all false
set_option maxRecDepth 100000
set_option maxHeartbeats 4000000
/-! K68Y: the law's stars. -/
namespace K68
open PySem L2 DL PySem.Spec PyProof.Rows
section
variable {P : Program} {w : World} {K : PySem.W.Frag} {S S' H H' : Hp} {v : V} {σ : L2.St} {te : TE} {D : Ends}
theorem ev_addDig {c n : Nat} (h : Ev te σ S (DigP n)) : Ev (tOp (rI0 fun i j => .int (i + j)) (tC (.int (c : Int))) te) σ S (fun _ v => ∃ d : Nat, d < n ∧ v = .int ((c + d : Nat) : Int)) := fun S1 H1 a b Q q =>
  h S1 H1 a b _ fun v S2 H2 ok2 p2 => by
    obtain ⟨d, hd, rfl⟩ := p2.now
    exact ⟨_, _, rfl, rfl, q _ S2 H2 ok2 fun _ _ => ⟨d, hd, by rw [Int.natCast_add]⟩⟩
theorem ev_notB {ta tb : TE} {a b : Bool} (ha : Ev ta σ S (DL.IsD K (.bool a))) (hb : Ev tb σ S (DL.IsD K (.bool b))) : Ev (tOp rNotB ta tb) σ S (DL.IsD K (.bool (!decide (a = b)))) :=
  ev_op ha hb fun S1 H1 x y Q _ _ p1 p2 q => by cases p1; cases p2; exact ⟨a, b, rfl, rfl, q _ (perD (.bl _))⟩
theorem ev_isB {ta tb : TE} {a b : Bool} (ha : Ev ta σ S (DL.IsD K (.bool a))) (hb : Ev tb σ S (DL.IsD K (.bool b))) : Ev (tOp rIsB ta tb) σ S (DL.IsD K (.bool (decide (a = b)))) :=
  ev_op ha hb fun S1 H1 x y Q _ _ p1 p2 q => by cases p1; cases p2; exact ⟨a, b, rfl, rfl, q _ (perD (.bl _))⟩
theorem eqv_bool (a b : Bool) : PyData.eqv (.bool a) (.bool b) = decide (a = b) := by cases a <;> cases b <;> rfl
theorem call_form_core {h : List Str} {as : List A} {hf : List Str} {r : List A} (hc : ∀ as', CoreR h as as' → FR h as' hf r ∧ QPre h as' ∧ as' ≠ []) (h1 : Ev te σ S (CoreP K h as)) : Ev (tCall (sp_form_ofC K) [] E0 (tCons te tNil)) σ S (DL.IsD K (qD hf r)) :=
  ev_call (ι := List Str × List Str × List A) (h, hf, r) ((ea1 h1).imp fun S1 vs ⟨v, r2, e1, ⟨as', hc', hd⟩, e3⟩ => ⟨v, as', by rw [e1, e3], hd, hc as' hc'⟩)
theorem call_form {h : List Str} {as : List A} {hf : List Str} {r : List A} (hc : FR h as hf r) (hq : QPre h as) (hne : as ≠ []) (h1 : Ev te σ S (DL.IsD K (qD h as))) : Ev (tCall (sp_form_ofC K) [] E0 (tCons te tNil)) σ S (DL.IsD K (qD hf r)) :=
  ev_call (ι := List Str × List Str × List A) (h, hf, r) ((ea1 h1).imp fun S1 vs ⟨v, r2, e1, e2, e3⟩ => ⟨v, as, by rw [e1, e3], e2, hc, hq, hne⟩)
theorem call_core {h : List Str} {as : List A} (c1 : QPre h as) (c2 : as.Nodup) (c3 : as ≠ []) (h1 : Ev te σ S (DL.IsD K (qD h as))) : Ev (tCall (sp_core K) [] E0 (tCons te tNil)) σ S (CoreP K h as) := ev_call (ι := Ci) ⟨(h, as), c1, c2, c3⟩ (ead_cons h1 ead_nil)
theorem call_is_core {h : List Str} {as : List A} (c1 : QPre h as) (c2 : as.Nodup) (c3 : as ≠ []) (h1 : Ev te σ S (DL.IsD K (qD h as))) : Ev (tCall (sp_is_core K) [] E0 (tCons te tNil)) σ S (DL.IsD K (.bool (foldM h as).isNone)) := ev_call (ι := Ci) ⟨(h, as), c1, c2, c3⟩ (ead_cons h1 ead_nil)
theorem call_alike {t1 t2 : TE} {h1 h2 : List Str} {as1 as2 : List A} {hf : List Str} {r : List A} (c1 : Lo2 h1 as1 hf r) (c2 : Lo2 h2 as2 hf r) (c3 : h1.length = h2.length) (g1 : Ev t1 σ S (DL.IsD K (qD h1 as1))) (g2 : Ev t2 σ S (DL.IsD K (qD h2 as2))) : Ev (tCall (sp_are_held_alike K) [] E0 (tCons t1 (tCons t2 tNil))) σ S (DL.IsD K (.bool true)) :=
  ev_call (ι := Hai) ⟨((h1, as1), (h2, as2), hf, r), c1, c2, c3⟩ (ead_cons g1 (ead_cons g2 ead_nil))
theorem call_least_union {h : List Str} {as : List A} {hf : List Str} {r : List A} (c : Lo2 h as hf r) (h1 : Ev te σ S (DL.IsD K (qD h as))) : Ev (tCall (sp_least_union K) [] E0 (tCons te tNil)) σ S (DL.IsD K (uD hf r)) := ev_call (ι := Loi) ⟨((h, as), hf, r), c⟩ (ead_cons h1 ead_nil)
theorem call_least_helped {h : List Str} {as : List A} (c : Star h as) (hf : Helpful h) (h1 : Ev te σ S (DL.IsD K (qD h as))) : Ev (tCall (sp_least_helped K) [] E0 (tCons te tNil)) σ S (OneP K h) := ev_call (ι := { p : List Str × List A // Star p.1 p.2 ∧ Helpful p.1 }) ⟨(h, as), c, hf⟩ (ead_cons h1 ead_nil)
/-- len(q[2]), q told up to its atoms -/
theorem ev_len2 {h : List Str} {n : Nat} {Pq : Hp → V → Prop} (hP : ∀ S v, Pq S v → ∃ as : List A, as.length = n ∧ Dp K S v (qD h as)) (h1 : Ev te σ S Pq) : Ev (tCB (rLenU K) (tCons (tOp (rIx K) te (tC (.int 2))) tNil)) σ S (DL.IsD K (.int (n : Int))) := fun S1 H1 a b Q q =>
  h1 S1 H1 a b _ fun v S2 H2 ok2 p2 => by
    obtain ⟨as, hn, hd⟩ := hP _ _ p2.now
    obtain ⟨ad, vs, rfl, hs, hv⟩ := dp_tuple.mp (show Dp K S2 v (.tuple (qL h as)) from hd)
    obtain ⟨v1, v2, v3, rfl, d1, d2, d3⟩ := dps3 hv
    obtain ⟨ad3, ws, rfl, hs3, hw⟩ := dp_tuple.mp d3
    have hl := dps_len hw
    rw [List.length_map, hn] at hl
    refine .inr (.inl ⟨ad, _, (2 : Nat), V.ref ad3, rfl, rfl, Evl.ex_t ok2.sh hs, atI_nat rfl, ?_⟩)
    exact ⟨_, n, rfl, .inr ⟨ws, Evl.ex_t ok2.sh hs3, hl.symm⟩, q _ S2 H2 ok2 (perD (.int _))⟩
theorem rest_ne {as : List A} (hn : as.Nodup) (h2 : 2 ≤ as.length) (a : A) : (as.filter fun b => decide (b ≠ a)) ≠ [] := by
  match as, hn, h2 with
  | x :: y :: r, hn, _ =>
    have hxy : x ≠ y := fun e => by rw [e, List.nodup_cons] at hn; exact hn.1 List.mem_cons_self
    by_cases hx : x = a
    · exact List.ne_nil_of_mem (a := y) (List.mem_filter.mpr ⟨List.mem_cons_of_mem _ List.mem_cons_self, decide_eq_true fun e => hxy (hx.trans e.symm)⟩)
    · exact List.ne_nil_of_mem (a := x) (List.mem_filter.mpr ⟨List.mem_cons_self, decide_eq_true hx⟩)
/-- can_go at a drawn place -/
theorem call_can_go_dig {t1 t2 t3 : TE} {c : Str} {as : List A} {kind : Str} {b : Bool} (s : Star [c] as) (h2 : 2 ≤ as.length) (hk : kind ∈ KINDS) (hb : ∀ i a, as[i]? = some a → goP (kind, ([c], as), i, a) = b) (g1 : Ev t1 σ S (DL.IsD K (.str kind))) (g2 : Ev t2 σ S (DL.IsD K (qD [c] as))) (g3 : Ev t3 σ S (DigP as.length)) :
    Ev (tCall (sp_can_go K) [] E0 (tCons t1 (tCons t2 (tCons t3 tNil)))) σ S (DL.IsD K (.bool b)) := fun S1 H1 a1 b1 Q q =>
  (ea3 g1 g2 g3) S1 H1 a1 b1 _ fun vs S2 H2 ok2 p2 => by
    rw [List.append_nil]
    obtain ⟨v1, r1, rfl, e1, v2, r2, rfl, e2, v3, r3, rfl, ⟨d, hd, e3⟩, e4⟩ := p2.now
    subst e3 e4
    have hg : as[d]? = some as[d] := List.getElem?_eq_getElem hd
    have hne := rest_ne s.nd h2 as[d]
    have hbb := hb d _ hg
    refine ⟨⟨(kind, ([c], as), d, as[d]), ⟨s.less hg, hne⟩, hk⟩, S2, ok2.sh, perDs (.cons e1 (.cons e2 (.cons (.int _) .nil))), fun v S3 H3 ok3 p3 => q v S3 H3 (ok2.trans ok3) ?_⟩
    have p3 : Per (DL.IsD K (.bool (goP (kind, ([c], as), d, as[d])))) S3 v := p3
    rw [hbb] at p3
    exact p3
def sp__law_star_right (P : Program) (w : World) (K : PySem.W.Frag) : Sp := SpOf (ι := Addr) (fun p S vs => vs = [.ref p] ∧ S p = some (potO P w p)) (fun _ => IsD K (.bool true))
theorem bcdefg_at : ∀ j, j < 6 → (Str.cps "bcdefg").toList[j]? = some (97 + (j + 1)) := by decide +kernel
theorem ev_bool_ne {ta tb : TE} {a b : Bool} (ha : Ev ta σ S (DL.IsD K (.bool a))) (hb : Ev tb σ S (DL.IsD K (.bool b))) (e : a = b) : EvT (tTest (tOp (uNe K) ta tb)) σ S false := et_is (et_test (ev_uNe ha hb (Nat.zero_le 60))) (by rw [eqv_bool, decide_eq_true e]; rfl)
theorem ev_same_ne {ta tb : TE} {d : PyData} (ha : Ev ta σ S (DL.IsD K d)) (hb : Ev tb σ S (DL.IsD K d)) (hp : d.plain = true) (hd : d.depth ≤ 60) : EvT (tTest (tOp (uNe K) ta tb)) σ S false := et_is (et_test (ev_uNe ha hb (by omega))) (by rw [eqv_self d hp]; rfl)
theorem ev_same {ta tb : TE} {d : PyData} (ha : Ev ta σ S (DL.IsD K d)) (hb : Ev tb σ S (DL.IsD K d)) (hp : d.plain = true) (hd : d.depth ≤ 60) : Ev (tOp (uEq K) ta tb) σ S (DL.IsD K (.bool true)) := ev_is (ev_uEq ha hb (by omega)) (by rw [eqv_self d hp])
theorem star_of {c : Str} {leaves : List Str} (h0 : c ∈ NAMES) (h1 : c ∉ leaves) (h2 : leaves.Nodup) (h3 : ∀ x ∈ leaves, x ∈ NAMES) (h4 : leaves ≠ []) (h5 : leaves.length ≤ 6) {as : List A} (hp : as.Perm (leaves.map fun x => (c, x))) : Star [c] as := by
  have hm : ∀ a ∈ as, ∃ x ∈ leaves, a = (c, x) := fun a ha => by
    obtain ⟨x, hx, e⟩ := List.mem_map.mp (hp.mem_iff.mp ha)
    exact ⟨x, hx, e.symm⟩
  have hnd : as.Nodup := hp.nodup_iff.mpr (nodup_map (fun _ _ e => (Prod.mk.inj e).2) h2)
  have hl : as.length = leaves.length := by rw [hp.length_eq, List.length_map]
  have hne : as ≠ [] := fun e => by
    rw [e] at hl
    exact h4 (List.eq_nil_of_length_eq_zero hl.symm)
  refine ⟨⟨Nat.le_refl _, fun x hx => by rw [List.mem_singleton.mp hx]; exact h0, by omega, fun a ha => ?_, .inr fun x hx => ?_⟩, hnd, hne, fun a ha x hx => ?_, fun a ha x hx => ?_⟩
  · obtain ⟨x, hx, rfl⟩ := hm a ha
    exact ⟨h0, h3 x hx⟩
  · obtain ⟨a, ha⟩ := List.exists_mem_of_ne_nil _ hne
    obtain ⟨y, hy, rfl⟩ := hm a ha
    exact ⟨_, ha, .inl (List.mem_singleton.mp hx)⟩
  · obtain ⟨y, hy, rfl⟩ := hm a ha
    exact List.mem_singleton.mp hx
  · obtain ⟨y, hy, rfl⟩ := hm a ha
    rw [List.mem_singleton.mp hx]
    exact fun e => h1 (e ▸ hy)
theorem single_star : Star ["a"] [("a", "b")] := star_of (c := "a") (leaves := ["b"]) (by decide) (by decide) (by decide) (by decide) (by decide) (by decide) (List.Perm.refl _)
theorem star_goes {c : Str} {as : List A} (s : Star [c] as) (h2 : 2 ≤ as.length) (kind : Str) : ∀ i a, as[i]? = some a → goP (kind, ([c], as), i, a) = (if kind ∈ LATT then true else decide (kind = "helped")) := fun i a ha => by
  have hl := rest_ne s.nd h2 a
  have hm := List.mem_of_getElem? ha
  unfold goP
  show paperM kind [c] as (as.filter fun b => decide (b ≠ a)) = _
  by_cases h1 : kind ∈ LATT
  · rw [if_pos h1]
    unfold paperM
    rw [if_pos h1]
    have := star_held s hl
    unfold paperM at this
    rw [if_pos (by decide)] at this
    exact this
  · rw [if_neg h1]
    by_cases h3 : kind = "helped"
    · subst h3
      rw [decide_eq_true rfl]
      exact star_helpful as a s hm hl
    · rw [decide_eq_false h3]
      unfold paperM
      rw [if_neg h1, if_neg h3]
theorem qD_60 (h : List Str) (as : List A) : (qD h as).depth ≤ 60 := Nat.le_trans (qD_depth h as) (by decide)
theorem uD_60 (h : List Str) (as : List A) : (uD h as).depth ≤ 60 := Nat.le_trans (uD_depth h as) (by decide)
theorem pure__law_star_right : ∀ vs H Q E, sp__law_star_right P w K vs H Q E → t__law_star_right P w K (sp__law_draw P w) (sp__law_mixed P w K) (sp__law_names P w K) (sp_are_held_alike K) (sp_can_go K) (sp_core K) (sp_form_ofC K) (sp_is_core K) (sp_least_helped K) (sp_least_union K) { nx := fun _ H' => Q .non H', rt := Q } (start N__law_star_right vs) H := pure_of fun p S H vs e h D k _ => by
  obtain ⟨rfl, hp⟩ := h
  refine q_set e (ev_addDig (c := 1) (n := 6) (ev_draw (K := K) (by decide) (by decide) hp (ev_var rfl perV) ev_int)) fun mv S1 H1 ok1 p1 => ?_
  obtain ⟨d, hd, rfl⟩ := p1.now
  obtain ⟨m, hm⟩ : ∃ m, m = 1 + d := ⟨_, rfl⟩
  rw [← hm]
  have hm1 : 1 ≤ m := by omega
  have hm6 : m ≤ 6 := by omega
  clear p1 hm hd
  have hp1 := ok1.ss p _ hp
  refine q_set ok1.sh (call_names (n := m + 1) (by omega) hp1 (ev_var rfl perV) (ev_is (ev_add (ev_varD rfl (.int (m : Int))) ev_int) rfl)) fun nv S2 H2 ok2 p2 => ?_
  obtain ⟨ns, n1, n2, n3, n4⟩ := p2.now
  cases ns with
  | nil => cases n1
  | cons c leaves =>
    have hll : leaves.length = m := Nat.succ.inj n1
    rw [List.nodup_cons] at n2
    have n4' : Dp K S2 nv (.list (.str c :: leaves.map .str)) := n4
    have hp2 := ok2.ss p _ hp1
    refine q_set ok2.sh (call_mixed (h := [c]) (as := leaves.map fun x => (c, x)) (by rw [List.length_map]; omega) hp2 (ev_var rfl perV) (ev_tupD (ds := [.str c]) (ead_cons (ev_ixL (j := 0) (ev_varD rfl n4') ev_int rfl) ead_nil) (Nat.le_of_ble_eq_true rfl)) (EvL.evD ?_)) fun sv S3 H3 ok3 p3 => ?_
    · have e1 : (leaves.map fun x => (c, x)).map aD = (leaves.map PyData.str).map fun d => match d with | .str x => aD (c, x) | _ => .none := by rw [List.map_map, List.map_map]; rfl
      rw [e1]
      refine el_lcY (σ := [some (.ref p), some (.int (m : Int)), some nv, none, none, none, none, none]) (wi := iList K (tSl (rSlL K) (tVar 2) (tPart (tC (.int 1))) tNoPart)) (fun d => match d with | .str x => aD (c, x) | _ => .none) (ei_list (EvL.evD (el_from1 (ev_varD rfl n4') (by rw [List.length_cons, List.length_map]; omega)))) (by show (leaves.map PyData.str).length ≤ 50000; rw [List.length_map]; omega) fun y S5 x hy ex pz => ?_
      obtain ⟨z, hz, rfl⟩ := List.mem_map.mp (show y ∈ leaves.map PyData.str from hy)
      exact ⟨_, eg_name, rfl, ev_tupD (ead_cons ev_str (ead_cons (ev_tupD (ead_cons (ev_ixL (j := 0) (ev_varD rfl (dp_ex ex _ _ n4')) ev_int rfl) (ead_cons (ev_var rfl pz) ead_nil)) (Nat.le_of_ble_eq_true rfl)) ead_nil)) (Nat.le_of_ble_eq_true rfl)⟩
    · obtain ⟨as, hperm, hs⟩ := p3.now
      have st : Star [c] as := star_of (n3 c List.mem_cons_self) n2.1 n2.2 (fun x hx => n3 x (List.mem_cons_of_mem _ hx)) (fun e => by rw [e] at hll; simp at hll; omega) (by omega) hperm
      have hlen : as.length = m := by rw [hperm.length_eq, List.length_map, hll]
      clear n4' n4 p2 p3 hperm n2 n3 n1
      have hp3 := ok3.ss p _ hp2
      refine q_set (P := DL.IsD K (qD ["a"] [("a", "b")])) ok3.sh (ev_tupD (ds := qL ["a"] [("a", "b")]) (ead_cons ev_str (ead_cons (ev_tupD (ead_cons ev_str ead_nil) (Nat.le_of_ble_eq_true rfl)) (ead_cons (ev_tupD (ead_cons (ev_tupD (ead_cons ev_str (ead_cons (ev_tupD (ead_cons ev_str (ead_cons ev_str ead_nil)) (Nat.le_of_ble_eq_true rfl)) ead_nil)) (Nat.le_of_ble_eq_true rfl)) ead_nil) (Nat.le_of_ble_eq_true rfl)) ead_nil))) (Nat.le_of_ble_eq_true rfl)) fun gv S4 H4 ok4 p4 => ?_
      have hs4 := dp_ex ok4.ss _ _ hs
      have hg4 := p4.now
      have okA := ((ok1.trans ok2).trans ok3).trans ok4
      have q1 := st.q
      have hcore : (foldM [c] as).isNone = decide ((m : Int) = 1) := by
        by_cases h1 : m = 1
        · obtain ⟨a, rfl⟩ := List.length_eq_one_iff.mp (hlen.trans h1)
          rw [star_one, h1]; rfl
        · rw [decide_eq_false (by omega)]
          cases hf : foldM [c] as with
          | none => exact absurd (by rw [← hlen]; exact star_two st hf) h1
          | some _ => rfl
      refine q_guard (b := false) ok4.sh (et_is (et_or (ev_same_ne (call_form_core (fun as' h => ⟨star_core_fr st h, by obtain ⟨a, rfl, s'⟩ := star_core h st; exact ⟨s'.q, s'.ne⟩⟩) (call_core q1 st.nd st.ne (ev_varD rfl hs4))) (ev_varD rfl hg4) (qD_plain _ _) (qD_60 _ _)) fun _ => et_or (ev_bool_ne (call_is_core q1 st.nd st.ne (ev_varD rfl hs4)) (ev_uEq (ev_varD rfl (.int (m : Int))) ev_int (Nat.zero_le 60)) (by rw [hcore, eqv_int])) fun _ => et_or (et_test (ev_notB (call_alike (star_lo st) (star_lo single_star) rfl (ev_varD rfl hs4) (ev_varD rfl hg4)) ev_bl)) fun _ => ev_same_ne (call_least_union (star_lo st) (ev_varD rfl hs4)) (ev_tupD (ead_cons ev_str (ead_cons (ev_tupD (ead_cons (ev_varD rfl hg4) ead_nil) (Nat.le_of_ble_eq_true rfl)) ead_nil)) (Nat.le_of_ble_eq_true rfl)) (uD_plain _ _) (uD_60 _ _)) rfl) (fun z => by cases z) fun _ S5 H5 ok5 => ?_
      have hs5 := dp_ex ok5.ss _ _ hs4
      have fr := star_fr st
      refine q_guard (b := false) ok5.sh (ev_same_ne (call_form fr q1 st.ne (ev_varD rfl hs5)) (ev_tupD (ds := qL ["a"] ((List.range' 1 as.length).map fun i => (letter 0, letter i))) (ead_cons ev_str (ead_cons (ev_tupD (ead_cons ev_str ead_nil) (Nat.le_of_ble_eq_true rfl)) (ead_cons (ev_tupL ?_) ead_nil))) (Nat.le_of_ble_eq_true rfl)) (qD_plain _ _) (qD_60 _ _)) (fun z => by cases z) fun _ S6 H6 ok6 => ?_
      · have e1 : ((List.range' 1 as.length).map fun i => (letter 0, letter i)).map aD = (List.range m).map fun (i : Nat) => aD ("a", letter (i + 1)) := by
          rw [hlen, List.range'_eq_map_range, List.map_map, List.map_map]
          refine List.map_congr_left fun i _ => ?_
          show aD (letter 0, letter (1 + i)) = aD ("a", letter (i + 1))
          rw [Nat.add_comm]
          rfl
        rw [e1]
        refine el_lcY (σ := [some (.ref p), some (.int (m : Int)), some nv, some sv, some gv, none, none, none]) (wi := iRng1 (tCons (tVar 1) tNil)) (fun (i : Nat) => aD ("a", letter (i + 1))) (ei_rng1 (K := K) (ead_cons (ev_varD rfl (.int (m : Int))) ead_nil) (by omega)) (by rw [List.length_range]; omega) fun y S7 x hy ex pz => ?_
        have hy' := List.mem_range.mp hy
        exact ⟨_, eg_name, rfl, ev_tupD (ead_cons ev_str (ead_cons (ev_tupD (ead_cons ev_str (ead_cons (ev_ixS (j := y) ev_str (ev_var rfl pz) (by decide) (bcdefg_at y (by omega))) ead_nil)) (Nat.le_of_ble_eq_true rfl)) ead_nil)) (Nat.le_of_ble_eq_true rfl)⟩
      · have hs6 := dp_ex ok6.ss _ _ hs5
        refine q_guard (b := false) ok6.sh (et_is (et_test (ev_uNe (ev_len2 (h := [c]) (n := 1) (fun S v hv => (let ⟨a, ha⟩ := hv; ⟨[a], rfl, ha⟩)) (call_least_helped st star_helpful (ev_varD rfl hs6))) ev_int (Nat.zero_le 60))) (by rw [eqv_int]; decide)) (fun z => by cases z) fun _ S7 H7 ok7 => ?_
        have hs7 := dp_ex ok7.ss _ _ hs6
        have okB := ((okA.trans ok5).trans ok6).trans ok7
        have hp7 := okB.ss p _ hp
        refine s_ret ok7.sh (ev_is (ev_orV (a := decide (m = 1)) (b := true) (ev_is (ev_uEq (ev_varD rfl (.int (m : Int))) ev_int (Nat.zero_le 60)) (by rw [eqv_int]; congr 1; exact decide_eq_decide.mpr (by omega))) fun z => ?_) (by rw [Bool.or_true])) fun r S8 H8 ok8 p8 => k r S8 H8 (okB.trans ok8) p8
        have hm2 : 2 ≤ m := by
          have : m ≠ 1 := fun e => by rw [decide_eq_true e] at z; cases z
          omega
        refine ev_same (d := .list [.bool true, .bool true, .bool false, .bool false, .bool false, .bool false]) (EvL.evD ?_) (EvL.evD (el_lstD (ead_cons ev_bl (ead_cons ev_bl (ead_cons ev_bl (ead_cons ev_bl (ead_cons ev_bl (ead_cons ev_bl ead_nil)))))) (Nat.le_of_ble_eq_true rfl))) rfl (by decide)
        have e2' : [true, true, false, false, false, false] = (["held", "helped", "ways", "price", "count", "all"] : List Str).map fun x => (if x ∈ LATT then true else decide (x = "helped")) := by decide +kernel
        have e2 : [PyData.bool true, .bool true, .bool false, .bool false, .bool false, .bool false] = ((["held", "helped", "ways", "price", "count", "all"] : List Str).map PyData.str).map fun d => match d with | .str x => .bool (if x ∈ LATT then true else decide (x = "helped")) | _ => .none := by
          show [true, true, false, false, false, false].map PyData.bool = _
          rw [e2', List.map_map, List.map_map]; rfl
        rw [e2]
        refine el_lcY (σ := [some (.ref p), some (.int (m : Int)), some nv, some sv, some gv, none, none, none]) (wi := iList K (tLst (tCons (tC (.str "held")) (tCons (tC (.str "helped")) (tCons (tC (.str "ways")) (tCons (tC (.str "price")) (tCons (tC (.str "count")) (tCons (tC (.str "all")) tNil)))))))) (fun d => match d with | .str x => .bool (if x ∈ LATT then true else decide (x = "helped")) | _ => .none) (ei_list (EvL.evD (el_lstD (ead_cons ev_str (ead_cons ev_str (ead_cons ev_str (ead_cons ev_str (ead_cons ev_str (ead_cons ev_str ead_nil)))))) (Nat.le_of_ble_eq_true rfl)))) (Nat.le_of_ble_eq_true rfl) fun y S9 x hy ex pz => ?_
        obtain ⟨kd, hk, rfl⟩ := List.mem_map.mp (show y ∈ (["held", "helped", "ways", "price", "count", "all"] : List Str).map PyData.str from hy)
        have hkk : kd ∈ KINDS := by
          have : ∀ x ∈ (["held", "helped", "ways", "price", "count", "all"] : List Str), x ∈ KINDS := by decide +kernel
          exact this kd hk
        refine ⟨_, eg_name, rfl, call_can_go_dig st (by omega) hkk (star_goes st (by omega) kd) (ev_var rfl pz) (ev_varD rfl (dp_ex ex _ _ hs7)) (ev_draw (K := K) (n := as.length) (by omega) (by omega) (ex p _ hp7) (ev_var rfl perV) (ev_is (ev_varD rfl (.int (m : Int))) (by rw [hlen])))⟩
end
end K68


set_option Elab.async false
set_option linter.all false
set_option maxRecDepth 100000
set_option maxHeartbeats 4000000
/-! K68Z: the law's rows. -/
namespace K68
open PySem L2 DL PySem.Spec PyProof.Rows
section
variable {P : Program} {w : World} {K : PySem.W.Frag} {S S' H H' : Hp} {v : V} {σ : L2.St} {te : TE} {D : Ends} {n : Nat → Str} {m : Nat}
def nth (ns : List Str) (i : Nat) : Str := ns.getD i ""
theorem get_nth {ns : List Str} {i : Nat} (h : i < ns.length) : ns[i]? = some (nth ns i) := by
  unfold nth
  rw [List.getD_eq_getElem?_getD, List.getElem?_eq_getElem h]; rfl
theorem get_nthD {ns : List Str} {i : Nat} (h : i < ns.length) : (ns.map PyData.str)[i]? = some (.str (nth ns i)) := by rw [List.getElem?_map, get_nth h]; rfl
theorem inj_nth {ns : List Str} (nd : ns.Nodup) (hs : ∀ x ∈ ns, x ∈ NAMES) {k : Nat} (hk : k < ns.length) : Inj (nth ns) k := by
  refine ⟨fun i hi j hj e => ?_, fun i hi => hs _ (List.mem_of_getElem? (get_nth (by omega)))⟩
  have h1 : ns[i]? = ns[j]? := by rw [get_nth (by omega), get_nth (by omega), e]
  exact (List.getElem?_inj (by omega) nd).mp h1
theorem nodup_range_map {f : Nat → A} {m : Nat} (h : ∀ i, i < m → ∀ j, j < m → f i = f j → i = j) : ((List.range m).map f).Nodup := by
  refine List.pairwise_map.mpr (List.Pairwise.imp_of_mem (fun ha hb hne e => hne (h _ (List.mem_range.mp ha) _ (List.mem_range.mp hb) e)) List.nodup_range)
theorem row_q (I : Inj n m) {as : List A} (hp : as.Perm ((List.range m).map (edge n))) : RowQ n 0 m as := by
  refine ⟨hp.nodup_iff.mpr (nodup_range_map fun i hi j hj e => edge_inj I hi hj e), fun a => ?_⟩
  rw [hp.mem_iff, List.mem_map]
  exact ⟨fun ⟨j, hj, e⟩ => ⟨j, Nat.zero_le _, List.mem_range.mp hj, e.symm⟩, fun ⟨j, _, hj, e⟩ => ⟨j, List.mem_range.mpr hj, e.symm⟩⟩
theorem row_okA (I : Inj n m) {as : List A} (q : RowQ n 0 m as) : ∀ a ∈ as, OkA a := fun a ha => by
  obtain ⟨j, _, hj, rfl⟩ := (q.mem a).mp ha
  exact ⟨I.nm j (by omega), I.nm (j + 1) (by omega)⟩
theorem row_pre (I : Inj n m) (hm : 1 ≤ m) {as : List A} (q : RowQ n 0 m as) (hl : as.length ≤ 6) : QPre [n 0] as :=
  ⟨Nat.le_refl _, fun x hx => by rw [List.mem_singleton.mp hx]; exact I.nm 0 (Nat.zero_le _), hl, row_okA I q, .inr fun x hx => ⟨edge n 0, (q.mem _).mpr ⟨0, Nat.le_refl _, hm, rfl⟩, .inl (List.mem_singleton.mp hx)⟩⟩
theorem pre_nil {as : List A} (hl : as.length ≤ 6) (ok : ∀ a ∈ as, OkA a) : QPre [] as := ⟨Nat.zero_le _, (fun _ h => nomatch h), hl, ok, .inr fun _ h => nomatch h⟩
def backE (n : Nat → Str) (j : Nat) : A := (n (j + 1), n j)
theorem both_q (I : Inj n m) (hm : 1 ≤ m) {as : List A} (hp : as.Perm ((List.range m).map (edge n) ++ (List.range m).map (backE n))) : BothQ n m as := by
  have hmem : ∀ a, a ∈ as ↔ ∃ j, j < m ∧ (a = edge n j ∨ a = (n (j + 1), n j)) := fun a => by
    rw [hp.mem_iff, List.mem_append, List.mem_map, List.mem_map]
    constructor
    · rintro (⟨j, hj, rfl⟩ | ⟨j, hj, rfl⟩)
      · exact ⟨j, List.mem_range.mp hj, .inl rfl⟩
      · exact ⟨j, List.mem_range.mp hj, .inr rfl⟩
    · rintro ⟨j, hj, rfl | rfl⟩
      · exact .inl ⟨j, List.mem_range.mpr hj, rfl⟩
      · exact .inr ⟨j, List.mem_range.mpr hj, rfl⟩
  refine ⟨hp.nodup_iff.mpr (List.nodup_append.mpr ⟨nodup_range_map fun i hi j hj e => edge_inj I hi hj e, nodup_range_map fun i hi j hj e => I.inj i (by omega) j (by omega) (Prod.mk.inj e).2, fun a ha b hb e => ?_⟩), List.ne_nil_of_mem ((hmem _).mpr ⟨0, hm, .inl rfl⟩), fun a ha => (hmem a).mp ha, fun a ha => ?_⟩
  · obtain ⟨i, hi, rfl⟩ := List.mem_map.mp ha
    obtain ⟨j, hj, rfl⟩ := List.mem_map.mp hb
    have hi := List.mem_range.mp hi
    have hj := List.mem_range.mp hj
    have e1 := I.inj i (by omega) (j + 1) (by omega) (Prod.mk.inj e).1
    have e2 := I.inj (i + 1) (by omega) j (by omega) (Prod.mk.inj e).2
    omega
  · obtain ⟨j, hj, rfl | rfl⟩ := (hmem a).mp ha
    · exact (hmem _).mpr ⟨j, hj, .inr rfl⟩
    · exact (hmem _).mpr ⟨j, hj, .inl rfl⟩
theorem pair_lo : Lo2 [] [("a", "b"), ("b", "a")] [] [("a", "b"), ("b", "a")] := by
  have I : Inj (nth ["a", "b"]) 1 := inj_nth (by decide +kernel) (by decide +kernel) (by decide)
  have q : BothQ (nth ["a", "b"]) 1 [("a", "b"), ("b", "a")] := both_q I (Nat.le_refl _) (List.Perm.refl _)
  exact both_lo I q (pre_nil (by decide) fun a ha => by
    rcases List.mem_cons.mp ha with rfl | ha
    · exact ⟨by decide, by decide⟩
    · rw [List.mem_singleton.mp ha]; exact ⟨by decide, by decide⟩)
def sp__law_row_right (P : Program) (w : World) (K : PySem.W.Frag) : Sp := SpOf (ι := Addr) (fun p S vs => vs = [.ref p] ∧ S p = some (potO P w p)) (fun _ => IsD K (.bool true))
theorem abcdefg_at : ∀ j, j < 7 → (Str.cps "abcdefg").toList[j]? = some (97 + j) := by decide +kernel
theorem ev_leI {ta tb : TE} {i j : Int} (ha : Ev ta σ S (DL.IsD K (.int i))) (hb : Ev tb σ S (DL.IsD K (.int j))) : Ev (tOp (rI0 fun i j => .bl (decide (i ≤ j))) ta tb) σ S (DL.IsD K (.bool (decide (i ≤ j)))) := ev_I0 ha hb (perD (.bl _))
theorem pure__law_row_right : ∀ vs H Q E, sp__law_row_right P w K vs H Q E → t__law_row_right P w K (sp__law_draw P w) (sp__law_mixed P w K) (sp__law_names P w K) (sp_are_held_alike K) (sp_core K) (sp_form_ofC K) (sp_is_core K) { nx := fun _ H' => Q .non H', rt := Q } (start N__law_row_right vs) H := pure_of fun p S H vs e h D k _ => by
  obtain ⟨rfl, hp⟩ := h
  refine q_set e (ev_addDig (c := 1) (n := 6) (ev_draw (K := K) (by decide) (by decide) hp (ev_var rfl perV) ev_int)) fun mv S1 H1 ok1 p1 => ?_
  obtain ⟨d, hd, rfl⟩ := p1.now
  obtain ⟨m, hm⟩ : ∃ m, m = 1 + d := ⟨_, rfl⟩
  rw [← hm]
  have hm1 : 1 ≤ m := by omega
  have hm6 : m ≤ 6 := by omega
  clear p1 hm hd
  have hp1 := ok1.ss p _ hp
  refine q_set ok1.sh (call_names (n := m + 1) (by omega) hp1 (ev_var rfl perV) (ev_is (ev_add (ev_varD rfl (.int (m : Int))) ev_int) rfl)) fun nv S2 H2 ok2 p2 => ?_
  obtain ⟨ns, n1, n2, n3, n4⟩ := p2.now
  have I : Inj (nth ns) m := inj_nth n2 n3 (by omega)
  have hp2 := ok2.ss p _ hp1
  refine q_set (P := DL.IsD K (.list (((List.range m).map (edge (nth ns))).map aD))) ok2.sh (EvL.evD ?_) fun tv S3 H3 ok3 p3 => ?_
  · rw [List.map_map]
    refine el_lcY (σ := [some (.ref p), some (.int (m : Int)), some nv, none, none, none, none, none, none, none, none, none]) (wi := iRng1 (tCons (tVar 1) tNil)) (aD ∘ edge (nth ns)) (ei_rng1 (K := K) (ead_cons (ev_varD rfl (.int (m : Int))) ead_nil) (by omega)) (by rw [List.length_range]; omega) fun y S7 x hy ex pz => ?_
    have hy' := List.mem_range.mp hy
    have n4' := dp_ex ex _ _ n4
    exact ⟨_, eg_name, rfl, ev_tupD (ead_cons ev_str (ead_cons (ev_tupD (ead_cons (ev_ixL (j := y) (ev_varD rfl n4') (ev_var rfl pz) (get_nthD (by omega))) (ead_cons (ev_ixL (j := y + 1) (ev_varD rfl n4') (ev_is (ev_add (ev_var rfl pz) ev_int) rfl) (get_nthD (by omega))) ead_nil)) (Nat.le_of_ble_eq_true rfl)) ead_nil)) (Nat.le_of_ble_eq_true rfl)⟩
  · have t3 := p3.now
    have hp3 := ok3.ss p _ hp2
    have n43 := dp_ex ok3.ss _ _ n4
    have hls : ((List.range m).map (edge (nth ns))).length ≤ 50 := by rw [List.length_map, List.length_range]; omega
    refine q_par (P1 := MixP K [nth ns 0] ((List.range m).map (edge (nth ns)))) (P2 := MixP K [] ((List.range m).map (edge (nth ns)))) ok3.sh (call_mixed hls hp3 (ev_var rfl perV) (ev_tupD (ds := [.str (nth ns 0)]) (ead_cons (ev_ixL (j := 0) (ev_varD rfl n43) ev_int (get_nthD (by omega))) ead_nil) (Nat.le_of_ble_eq_true rfl)) (ev_varD rfl t3)) (call_mixed hls hp3 (ev_var rfl perV) (ev_tupD (ds := []) ead_nil (Nat.le_of_ble_eq_true rfl)) (ev_varD rfl t3)) fun rv fv S4 H4 ok4 p4 p5 => ?_
    obtain ⟨as, hperm, hr⟩ := p4.now
    obtain ⟨fs, hpermf, hf⟩ := p5.now
    have rq := row_q I hperm
    have fq := row_q I hpermf
    have lr : as.length = m := by rw [hperm.length_eq, List.length_map, List.length_range]
    have lf : fs.length = m := by rw [hpermf.length_eq, List.length_map, List.length_range]
    have rne : as ≠ [] := fun e => by rw [e] at lr; simp at lr; omega
    have fne : fs ≠ [] := fun e => by rw [e] at lf; simp at lf; omega
    have rp := row_pre I hm1 rq (by omega)
    have fp := pre_nil (as := fs) (by omega) (row_okA I fq)
    have hp4 := ok4.ss p _ hp3
    have t4 := dp_ex ok4.ss _ _ t3
    have okA := ((ok1.trans ok2).trans ok3).trans ok4
    clear p2 p3 p4 p5
    refine q_guard (b := false) ok4.sh (et_is (et_or (et_not (et_B (call_is_core rp rq.nd rne (ev_varD rfl hr)))) fun _ => et_or (et_not (et_B (call_is_core fp fq.nd fne (ev_varD rfl hf)))) fun _ => ev_same_ne (call_form (row_fr I hm6 rq (by omega)) rp rne (ev_varD rfl hr)) (ev_tupD (ds := qL ["a"] ((List.range' 0 m).map fun i => (letter i, letter (i + 1)))) (ead_cons ev_str (ead_cons (ev_tupD (ead_cons ev_str ead_nil) (Nat.le_of_ble_eq_true rfl)) (ead_cons (ev_tupL ?_) ead_nil))) (Nat.le_of_ble_eq_true rfl)) (qD_plain _ _) (qD_60 _ _)) ?_) (fun z => by cases z) fun _ S5 H5 ok5 => ?_
    · rw [← List.range_eq_range', List.map_map]
      refine el_lcY (σ := [some (.ref p), some (.int (m : Int)), some nv, some tv, none, none, none, some rv, some fv, none, none, none]) (wi := iRng1 (tCons (tVar 1) tNil)) (aD ∘ fun i => (letter i, letter (i + 1))) (ei_rng1 (K := K) (ead_cons (ev_varD rfl (.int (m : Int))) ead_nil) (by omega)) (by rw [List.length_range]; omega) fun y S7 x hy ex pz => ?_
      have hy' := List.mem_range.mp hy
      exact ⟨_, eg_name, rfl, ev_tupD (ead_cons ev_str (ead_cons (ev_tupD (ead_cons (ev_ixS (j := y) ev_str (ev_var rfl pz) (by decide) (abcdefg_at y (by omega))) (ead_cons (ev_ixS (j := y + 1) ev_str (ev_is (ev_add (ev_var rfl pz) ev_int) rfl) (by decide) (abcdefg_at (y + 1) (by omega))) ead_nil)) (Nat.le_of_ble_eq_true rfl)) ead_nil)) (Nat.le_of_ble_eq_true rfl)⟩
    · rw [row_none I rq, row_none I fq]; rfl
    · have t5 := dp_ex ok5.ss _ _ t4
      have hp5 := ok5.ss p _ hp4
      refine q_set (P := DL.IsD K (.list (((List.range m).map (backE (nth ns))).map aD))) ok5.sh (EvL.evD ?_) fun bv S6 H6 ok6 p6 => ?_
      · have e1 : ((List.range m).map (backE (nth ns))).map aD = (((List.range m).map (edge (nth ns))).map aD).map fun d => match d with | .tuple [a, .tuple [x, y]] => .tuple [a, .tuple [y, x]] | _ => .none := by
          rw [List.map_map, List.map_map, List.map_map]; rfl
        rw [e1]
        refine el_lcY (σ := [some (.ref p), some (.int (m : Int)), some nv, some tv, none, none, none, some rv, some fv, none, none, none]) (wi := iList K (tVar 3)) (fun d => match d with | .tuple [a, .tuple [x, y]] => .tuple [a, .tuple [y, x]] | _ => .none) (ei_list (ev_varD rfl t5)) (by rw [List.length_map, List.length_map, List.length_range]; omega) fun y S7 x hy ex pz => ?_
        obtain ⟨a, ha, rfl⟩ := List.mem_map.mp hy
        obtain ⟨v1, w1, hg, d1, d2⟩ := eg2 (i := 10) (j := 11) (σ := [some (.ref p), some (.int (m : Int)), some nv, some tv, none, none, none, some rv, some fv, none, none, none]) (show Dp K S7 x (.tuple [.str "Road", .tuple [.str a.1, .str a.2]]) from pz.now)
        exact ⟨_, hg, rfl, ev_tupD (ead_cons (ev_varD rfl d1) (ead_cons (ev_rev2 (ev_varD rfl d2)) ead_nil)) (Nat.le_of_ble_eq_true rfl)⟩
      · have b6 := p6.now
        have t6 := dp_ex ok6.ss _ _ t5
        have hp6 := ok6.ss p _ hp5
        have okB := (okA.trans ok5).trans ok6
        refine q_set (P := fun S v => (m ≤ 3 → MixP K [] ((List.range m).map (edge (nth ns)) ++ (List.range m).map (backE (nth ns))) S v) ∧ (¬ m ≤ 3 → v = .non)) ok6.sh (ev_if (b := decide ((m : Int) ≤ 3)) (et_test (ev_leI (K := K) (ev_varD rfl (.int (m : Int))) ev_int)) (fun z => ?_) fun z => ?_) fun ov S7 H7 ok7 p7 => ?_
        · have hm3 : m ≤ 3 := by have := of_decide_eq_true z; omega
          refine (call_mixed (h := []) (as := (List.range m).map (edge (nth ns)) ++ (List.range m).map (backE (nth ns))) (by rw [List.length_append, List.length_map, List.length_map, List.length_range]; omega) hp6 (ev_var rfl perV) (ev_tupD (ds := []) ead_nil (Nat.le_of_ble_eq_true rfl)) (EvL.evD ?_)).imp fun S v hv => ⟨fun _ => hv, fun h => absurd hm3 h⟩
          have e2 : ((List.range m).map (edge (nth ns)) ++ (List.range m).map (backE (nth ns))).map aD = ((((List.range m).map (edge (nth ns))).map aD) ++ (((List.range m).map (backE (nth ns))).map aD)).take 6 := by
            rw [List.map_append, List.take_of_length_le]
            rw [List.length_append, List.length_map, List.length_map, List.length_map, List.length_map, List.length_range]; omega
          rw [e2]
          exact el_to (k := 6) (EvL.evD (el_cat (ev_varD rfl t6) (ev_varD rfl b6) (by rw [List.length_map, List.length_map, List.length_map, List.length_map, List.length_range]; omega))) (by rw [List.length_append, List.length_map, List.length_map, List.length_map, List.length_map, List.length_range]; omega)
        · have hm3 : ¬ m ≤ 3 := by have := of_decide_eq_false z; omega
          exact (ev_non (K := K)).imp fun S v hv => ⟨fun h => absurd h hm3, fun _ => by cases hv; rfl⟩
        · refine q_guard (b := decide (¬ m ≤ 3)) ok7.sh (et_B (ev_isN (K := K) (ev_var rfl p7) fun S1 x hx => ?_)) (fun z S8 H8 ok8 => ?_) fun z S8 H8 ok8 => ?_
          · by_cases h3 : m ≤ 3
            · obtain ⟨as', _, hd⟩ := hx.1 h3
              obtain ⟨b, ws, rfl, _⟩ := dp_tuple.mp (show Dp K S1 x (.tuple (qL [] as')) from hd)
              rw [decide_eq_false (by intro e; cases e), decide_eq_false (fun h => h h3)]
            · rw [hx.2 h3, decide_eq_true rfl, decide_eq_true h3]
          · exact s_ret ok8.sh ev_bl fun r S9 H9 ok9 p9 => k r S9 H9 (((okB.trans ok7).trans ok8).trans ok9) p9
          · have h3 : m ≤ 3 := by
              by_cases h : m ≤ 3
              · exact h
              · rw [decide_eq_true h] at z; cases z
            obtain ⟨bs, hpb, hb⟩ := (p7.ex ok8.ss).now.1 h3
            have bq := both_q I hm1 hpb
            have lb : bs.length = m + m := by rw [hpb.length_eq, List.length_append, List.length_map, List.length_map, List.length_range]
            have bp : QPre [] bs := pre_nil (by omega) fun a ha => by
              obtain ⟨j, hj, rfl | rfl⟩ := bq.sub a ha
              · exact ⟨I.nm j (by omega), I.nm (j + 1) (by omega)⟩
              · exact ⟨I.nm (j + 1) (by omega), I.nm j (by omega)⟩
            have hcore : ∀ as', CoreR [] bs as' → FR [] as' [] [("a", "b"), ("b", "a")] ∧ QPre [] as' ∧ as' ≠ [] ∧ as'.length = 2 := fun as' h => by
              obtain ⟨x, y, h1, h2, h3, rfl⟩ := both_core I h bq bp
              refine ⟨pair_fr h1 h2 h3, pre_nil (Nat.le_of_ble_eq_true rfl) fun a ha => ?_, List.cons_ne_nil _ _, rfl⟩
              rcases List.mem_cons.mp ha with rfl | ha
              · exact ⟨h2, h3⟩
              · rw [List.mem_singleton.mp ha]; exact ⟨h3, h2⟩
            refine q_set (P := DL.IsD K (qD [] [("a", "b"), ("b", "a")])) ok8.sh (ev_tupD (ds := qL [] [("a", "b"), ("b", "a")]) (ead_cons ev_str (ead_cons (ev_tupD ead_nil (Nat.le_of_ble_eq_true rfl)) (ead_cons (ev_tupD (ead_cons (ev_tupD (ead_cons ev_str (ead_cons (ev_tupD (ead_cons ev_str (ead_cons ev_str ead_nil)) (Nat.le_of_ble_eq_true rfl)) ead_nil)) (Nat.le_of_ble_eq_true rfl)) (ead_cons (ev_tupD (ead_cons ev_str (ead_cons (ev_tupD (ead_cons ev_str (ead_cons ev_str ead_nil)) (Nat.le_of_ble_eq_true rfl)) ead_nil)) (Nat.le_of_ble_eq_true rfl)) ead_nil)) (Nat.le_of_ble_eq_true rfl)) ead_nil))) (Nat.le_of_ble_eq_true rfl)) fun gv S9 H9 ok9 p9 => ?_
            have hg := p9.now
            have hb9 := dp_ex ok9.ss _ _ hb
            refine s_ret ok9.sh (ev_andV (a := true) (b := true) (ev_same (call_form_core (fun as' h => ⟨(hcore as' h).1, (hcore as' h).2.1, (hcore as' h).2.2.1⟩) (call_core bp bq.nd bq.ne (ev_varD rfl hb9))) (ev_varD rfl hg) (qD_plain _ _) (qD_60 _ _)) fun _ => ev_andV (a := true) (b := true) (ev_same (d := .int 2) (ev_len2 (h := []) (n := 2) (fun S v ⟨as', h, hd⟩ => ⟨as', (hcore as' h).2.2.2, hd⟩) (call_core bp bq.nd bq.ne (ev_varD rfl hb9))) ev_int rfl (by decide)) fun _ => ev_is (ev_isB (call_alike (both_lo I bq bp) pair_lo rfl (ev_varD rfl hb9) (ev_varD rfl hg)) ev_bl) rfl) fun r S10 H10 ok10 p10 => k r S10 H10 ((((okB.trans ok7).trans ok8).trans ok9).trans ok10) p10
end
end K68


set_option Elab.async false
set_option linter.all false
set_option maxRecDepth 100000
set_option maxHeartbeats 4000000
/-! K68ZA: the law's rings, the law. -/
namespace K68
open PySem L2 DL PySem.Spec PyProof.Rows
section
variable {P : Program} {w : World} {K : PySem.W.Frag} {S S' H H' : Hp} {v : V} {σ : L2.St} {te : TE} {D : Ends} {n : Nat → Str} {m : Nat}
theorem ring_inj (I : Inj n (m - 1)) {i j : Nat} (hi : i < m) (hj : j < m) (e : ringE n m i = ringE n m j) : i = j := I.inj i (by omega) j (by omega) (Prod.mk.inj e).1
theorem ring_q (I : Inj n (m - 1)) {as : List A} (hp : as.Perm ((List.range m).map (ringE n m))) : RingQ n m as := by
  refine ⟨hp.nodup_iff.mpr (nodup_range_map fun i hi j hj e => ring_inj I hi hj e), fun a => ?_⟩
  rw [hp.mem_iff, List.mem_map]
  exact ⟨fun ⟨j, hj, e⟩ => ⟨j, List.mem_range.mp hj, e.symm⟩, fun ⟨j, hj, e⟩ => ⟨j, List.mem_range.mpr hj, e.symm⟩⟩
theorem ring_ok (I : Inj n (m - 1)) {i : Nat} (hi : i < m) : OkA (ringE n m i) := by
  have := nx_lt (m := m) (i := i) (by omega)
  exact ⟨I.nm i (by omega), I.nm _ (by omega)⟩
theorem own_q (I : Inj n (m - 1)) (hm : 2 ≤ m) {as : List A} (hp : as.Perm (((List.range m).map (ringE n m)).take 5 ++ [(n 0, n 0)])) : OwnQ (n 0) as ∧ ∀ a ∈ as, OkA a := by
  have hno : ∀ a ∈ ((List.range m).map (ringE n m)).take 5, a.1 ≠ a.2 ∧ OkA a := fun a ha => by
    obtain ⟨i, hi, rfl⟩ := List.mem_map.mp (List.mem_of_mem_take ha)
    have hi := List.mem_range.mp hi
    have h2 := nx_lt (m := m) (i := i) (by omega)
    refine ⟨fun e => ?_, ring_ok I hi⟩
    have := I.inj i (by omega) (nx m i) (by omega) e
    unfold nx at this
    split at this <;> omega
  refine ⟨⟨hp.nodup_iff.mpr (List.nodup_append.mpr ⟨(List.take_sublist _ _).nodup (nodup_range_map fun i hi j hj e => ring_inj I hi hj e), List.nodup_cons.mpr ⟨List.not_mem_nil, List.nodup_nil⟩, fun a ha b hb e => ?_⟩), hp.mem_iff.mpr (List.mem_append_right _ List.mem_cons_self), fun a ha h => ?_⟩, fun a ha => ?_⟩
  · rw [List.mem_singleton.mp hb] at e
    exact (hno a ha).1 (by rw [e])
  · rcases List.mem_append.mp (hp.mem_iff.mp ha) with h1 | h1
    · exact absurd h (hno a h1).1
    · exact List.mem_singleton.mp h1
  · rcases List.mem_append.mp (hp.mem_iff.mp ha) with h1 | h1
    · exact (hno a h1).2
    · rw [List.mem_singleton.mp h1]; exact ⟨I.nm 0 (Nat.zero_le _), I.nm 0 (Nat.zero_le _)⟩
theorem single_lo : Lo2 [] [("a", "a")] [] [("a", "a")] := own_lo (x := "a") (by decide) ⟨List.nodup_cons.mpr ⟨List.not_mem_nil, List.nodup_nil⟩, List.mem_cons_self, fun a ha _ => List.mem_singleton.mp ha⟩ (pre_nil (by decide) fun a ha => by rw [List.mem_singleton.mp ha]; exact ⟨by decide, by decide⟩)
theorem filter_one {l : List Nat} {p : Nat → Bool} {i : Nat} (nd : l.Nodup) (hi : i ∈ l) (h : ∀ j ∈ l, p j = true ↔ j = i) : l.filter p = [i] := by
  induction l with
  | nil => cases hi
  | cons x r ih =>
    rw [List.nodup_cons] at nd
    rw [List.filter_cons]
    by_cases hx : x = i
    · rw [if_pos ((h x List.mem_cons_self).mpr hx)]
      have : r.filter p = [] := List.filter_eq_nil_iff.mpr fun j hj e => nd.1 (by rw [hx, ← (h j (List.mem_cons_of_mem _ hj)).mp e]; exact hj)
      rw [this, hx]
    · rw [if_neg (fun e => hx ((h x List.mem_cons_self).mp e))]
      refine ih nd.2 ?_ fun j hj => h j (List.mem_cons_of_mem _ hj)
      rcases List.mem_cons.mp hi with e | e
      · exact absurd e.symm hx
      · exact e
theorem own_less {x : Str} {as : List A} {i : Nat} (q : OwnQ x as) (p : QPre [] as) (h : as[i]? = some (x, x)) : Less [] as i (x, x) :=
  ⟨p, q.nd, h, pre_nil (Nat.le_trans (List.length_filter_le _ _) p.2.2.1) fun b hb => p.2.2.2.1 b (List.mem_filter.mp hb).1⟩
theorem call_can_go {t1 t2 t3 : TE} {h : List Str} {as : List A} {kind : Str} {i : Nat} {a : A} {b : Bool} (L : Less h as i a) (hne : (as.filter fun b => decide (b ≠ a)) ≠ []) (hk : kind ∈ KINDS) (hb : goP (kind, (h, as), i, a) = b) (g1 : Ev t1 σ S (DL.IsD K (.str kind))) (g2 : Ev t2 σ S (DL.IsD K (qD h as))) (g3 : Ev t3 σ S (DL.IsD K (.int (i : Int)))) :
    Ev (tCall (sp_can_go K) [] E0 (tCons t1 (tCons t2 (tCons t3 tNil)))) σ S (DL.IsD K (.bool b)) := ev_is (ev_call (ι := Gi) ⟨(kind, (h, as), i, a), ⟨L, hne⟩, hk⟩ (ead_cons g1 (ead_cons g2 (ead_cons g3 ead_nil)))) (by rw [hb])
theorem aD_60 (a : A) : (aD a).depth ≤ 60 := by
  have : (aD a).depth = 2 := rfl
  omega
def sp__law_ring_right (P : Program) (w : World) (K : PySem.W.Frag) : Sp := SpOf (ι := Addr) (fun p S vs => vs = [.ref p] ∧ S p = some (potO P w p)) (fun _ => IsD K (.bool true))
theorem pure__law_ring_right : ∀ vs H Q E, sp__law_ring_right P w K vs H Q E → t__law_ring_right P w K (sp__law_draw P w) (sp__law_mixed P w K) (sp__law_names P w K) (sp_are_held_alike K) (sp_can_go K) (sp_core K) (sp_form_ofC K) (sp_is_core K) { nx := fun _ H' => Q .non H', rt := Q } (start N__law_ring_right vs) H := pure_of fun p S H vs e h D k _ => by
  obtain ⟨rfl, hp⟩ := h
  refine q_set e (ev_addDig (c := 2) (n := 5) (ev_draw (K := K) (by decide) (by decide) hp (ev_var rfl perV) ev_int)) fun mv S1 H1 ok1 p1 => ?_
  obtain ⟨d, hd, rfl⟩ := p1.now
  obtain ⟨m, hm⟩ : ∃ m, m = 2 + d := ⟨_, rfl⟩
  rw [← hm]
  have hm2 : 2 ≤ m := by omega
  have hm6 : m ≤ 6 := by omega
  clear p1 hm hd
  have hp1 := ok1.ss p _ hp
  refine q_set ok1.sh (call_names (n := m) (by omega) hp1 (ev_var rfl perV) (ev_varD rfl (.int (m : Int)))) fun nv S2 H2 ok2 p2 => ?_
  obtain ⟨ns, n1, n2, n3, n4⟩ := p2.now
  have I : Inj (nth ns) (m - 1) := inj_nth n2 n3 (by omega)
  have hp2 := ok2.ss p _ hp1
  refine q_set (P := DL.IsD K (.list (((List.range m).map (ringE (nth ns) m)).map aD))) ok2.sh (EvL.evD ?_) fun tv S3 H3 ok3 p3 => ?_
  · rw [List.map_map]
    refine el_lcY (σ := [some (.ref p), some (.int (m : Int)), some nv, none, none, none, none, none]) (wi := iRng1 (tCons (tVar 1) tNil)) (aD ∘ ringE (nth ns) m) (ei_rng1 (K := K) (ead_cons (ev_varD rfl (.int (m : Int))) ead_nil) (by omega)) (by rw [List.length_range]; omega) fun y S7 x hy ex pz => ?_
    have hy' := List.mem_range.mp hy
    have n4' := dp_ex ex _ _ n4
    have hnx := nx_lt (m := m) (i := y) (by omega)
    refine ⟨_, eg_name, rfl, ev_tupD (ead_cons ev_str (ead_cons (ev_tupD (ead_cons (ev_ixL (j := y) (ev_varD rfl n4') (ev_var rfl pz) (get_nthD (by omega))) (ead_cons (ev_ixL (j := nx m y) (ev_varD rfl n4') (ev_if (b := decide (((y : Int) + 1) < (m : Int))) (et_test (ev_ltI (K := K) (ev_add (ev_var rfl pz) ev_int) (ev_varD rfl (.int (m : Int))))) (fun z => ev_is (ev_add (K := K) (ev_var rfl pz) ev_int) ?_) (fun z => ev_is (ev_int (K := K)) ?_)) (get_nthD (by omega))) ead_nil)) (Nat.le_of_ble_eq_true rfl)) ead_nil)) (Nat.le_of_ble_eq_true rfl)⟩
    · have h1 := of_decide_eq_true z
      have : nx m y = y + 1 := if_pos (by omega)
      rw [this]; rfl
    · have h1 := of_decide_eq_false z
      have : nx m y = 0 := if_neg (by omega)
      rw [this]; rfl
  · have t3 := p3.now
    have hp3 := ok3.ss p _ hp2
    have n43 := dp_ex ok3.ss _ _ n4
    have hls : ((List.range m).map (ringE (nth ns) m)).length ≤ 50 := by rw [List.length_map, List.length_range]; omega
    refine q_set (P := MixP K [] ((List.range m).map (ringE (nth ns) m))) ok3.sh (call_mixed hls hp3 (ev_var rfl perV) (ev_tupD (ds := []) ead_nil (Nat.le_of_ble_eq_true rfl)) (ev_varD rfl t3)) fun fv S4 H4 ok4 p5 => ?_
    obtain ⟨fs, hpermf, hf⟩ := p5.now
    have fq := ring_q I hpermf
    have lf : fs.length = m := by rw [hpermf.length_eq, List.length_map, List.length_range]
    have fne : fs ≠ [] := fun e => by rw [e] at lf; simp at lf; omega
    have fp := pre_nil (as := fs) (by omega) fun a ha => by
      obtain ⟨j, hj, rfl⟩ := (fq.mem a).mp ha
      exact ring_ok I hj
    have hp4 := ok4.ss p _ hp3
    have t4 := dp_ex ok4.ss _ _ t3
    have n44 := dp_ex ok4.ss _ _ n43
    have okA := ((ok1.trans ok2).trans ok3).trans ok4
    clear p2 p3 p5
    have fnone : foldM [] fs = none := ring_none I hm2 fq
    refine q_guard (b := false) ok4.sh (et_is (et_or (et_not (et_B (call_is_core fp fq.nd fne (ev_varD rfl hf)))) fun _ => ev_same_ne (d := qD [] fs) ((call_core fp fq.nd fne (ev_varD rfl hf)).imp fun S v ⟨as', hc, hd⟩ => by rw [core_same fnone hc] at hd; exact hd) (ev_varD rfl hf) (qD_plain _ _) (qD_60 _ _)) ?_) (fun z => by cases z) fun _ S5 H5 ok5 => ?_
    · rw [fnone]; rfl
    · have t5 := dp_ex ok5.ss _ _ t4
      have n45 := dp_ex ok5.ss _ _ n44
      have hp5 := ok5.ss p _ hp4
      have hlo : (((List.range m).map (ringE (nth ns) m)).take 5 ++ [(nth ns 0, nth ns 0)]).length ≤ 6 := by rw [List.length_append, List.length_take]; show min 5 _ + 1 ≤ 6; omega
      have hl2 : 3 ≤ (((List.range m).map (ringE (nth ns) m)).take 5 ++ [(nth ns 0, nth ns 0)]).length := by rw [List.length_append, List.length_take, List.length_map, List.length_range]; show 3 ≤ min 5 _ + 1; omega
      refine q_set (P := MixP K [] (((List.range m).map (ringE (nth ns) m)).take 5 ++ [(nth ns 0, nth ns 0)])) ok5.sh (call_mixed (by omega) hp5 (ev_var rfl perV) (ev_tupD (ds := []) ead_nil (Nat.le_of_ble_eq_true rfl)) (EvL.evD ?_)) fun ov S6 H6 ok6 p6 => ?_
      · have e2 : (((List.range m).map (ringE (nth ns) m)).take 5 ++ [(nth ns 0, nth ns 0)]).map aD = (((List.range m).map (ringE (nth ns) m)).map aD).take 5 ++ [aD (nth ns 0, nth ns 0)] := by
          rw [List.map_append, List.map_take]; rfl
        rw [e2]
        exact el_cat (EvL.evD (el_to (k := 5) (ev_varD rfl t5) (by rw [List.length_map, List.length_map, List.length_range]; omega))) (EvL.evD (el_lstD (ead_cons (ev_tupD (ead_cons ev_str (ead_cons (ev_tupD (ead_cons (ev_ixL (j := 0) (ev_varD rfl n45) ev_int (get_nthD (by omega))) (ead_cons (ev_ixL (j := 0) (ev_varD rfl n45) ev_int (get_nthD (by omega))) ead_nil)) (Nat.le_of_ble_eq_true rfl)) ead_nil)) (Nat.le_of_ble_eq_true rfl)) ead_nil) (Nat.le_of_ble_eq_true rfl))) (by rw [List.length_take]; show min 5 _ + 1 ≤ 100000; omega)
      · obtain ⟨os, hpo, ho⟩ := p6.now
        obtain ⟨oq, ook⟩ := own_q I hm2 hpo
        have op := pre_nil (as := os) (by rw [hpo.length_eq]; omega) ook
        have ol := hpo.length_eq
        have n46 := dp_ex ok6.ss _ _ n45
        have okB := (okA.trans ok5).trans ok6
        have hx0 := I.nm 0 (Nat.zero_le _)
        refine q_set (P := DL.IsD K (qD [] [("a", "a")])) ok6.sh (ev_tupD (ds := qL [] [("a", "a")]) (ead_cons ev_str (ead_cons (ev_tupD ead_nil (Nat.le_of_ble_eq_true rfl)) (ead_cons (ev_tupD (ead_cons (ev_tupD (ead_cons ev_str (ead_cons (ev_tupD (ead_cons ev_str (ead_cons ev_str ead_nil)) (Nat.le_of_ble_eq_true rfl)) ead_nil)) (Nat.le_of_ble_eq_true rfl)) ead_nil) (Nat.le_of_ble_eq_true rfl)) ead_nil))) (Nat.le_of_ble_eq_true rfl)) fun gv S7 H7 ok7 p7 => ?_
        have hg := p7.now
        have ho7 := dp_ex ok7.ss _ _ ho
        have n47 := dp_ex ok7.ss _ _ n46
        refine s_ret ok7.sh (ev_andV (a := true) (b := true) (ev_same (call_form_core (fun as' h => by rw [own_core h oq op]; exact ⟨own_fr hx0, pre_nil (Nat.le_of_ble_eq_true rfl) fun a ha => by rw [List.mem_singleton.mp ha]; exact ⟨hx0, hx0⟩, List.cons_ne_nil _ _⟩) (call_core op oq.nd (List.ne_nil_of_mem oq.mem) (ev_varD rfl ho7))) (ev_varD rfl hg) (qD_plain _ _) (qD_60 _ _)) fun _ => ev_andV (a := true) (b := true) (ev_is (ev_isB (call_alike (own_lo hx0 oq op) single_lo rfl (ev_varD rfl ho7) (ev_varD rfl hg)) ev_bl) rfl) fun _ => ev_same (d := .list [.bool false]) (EvL.evD ?_) (EvL.evD (el_lstD (ead_cons ev_bl ead_nil) (Nat.le_of_ble_eq_true rfl))) rfl (by decide)) fun r S10 H10 ok10 p10 => k r S10 H10 ((okB.trans ok7).trans ok10) p10
        obtain ⟨i0, hi0⟩ := List.getElem?_of_mem oq.mem
        have hi0l : i0 < os.length := (List.getElem?_eq_some_iff.mp hi0).1
        have e3 : [PyData.bool false] = (((List.range os.length).filter fun (i : Nat) => decide (os[i]? = some (nth ns 0, nth ns 0))).map fun _ => PyData.bool false) := by
          rw [filter_one List.nodup_range (List.mem_range.mpr hi0l) fun j hj => ⟨fun h => (List.getElem?_inj (List.mem_range.mp hj) oq.nd).mp ((of_decide_eq_true h).trans hi0.symm), fun h => decide_eq_true (h ▸ hi0)⟩]; rfl
        rw [e3]
        refine el_lcD (σ := [some (.ref p), some (.int (m : Int)), some nv, some tv, some fv, some ov, some gv, none]) (wi := iRng1 (tCons (tCB (rLenU K) (tCons (tOp (rIx K) (tVar 5) (tC (.int 2))) tNil)) tNil)) (fun (i : Nat) => decide (os[i]? = some (nth ns 0, nth ns 0))) (fun _ => PyData.bool false) (ei_rng1 (K := K) (ead_cons (ev_is (ev_lenT (ead_cons (ev_ixT (j := 2) (ds := qL [] os) (ev_varD rfl ho7) ev_int rfl) ead_nil)) (by rw [List.length_map])) ead_nil) (by omega)) (by rw [List.length_range]; omega) fun y S8 x hy ex pz => ?_
        have hy' := List.mem_range.mp hy
        have ho8 := dp_ex ex _ _ ho7
        have n48 := dp_ex ex _ _ n47
        have hgy : os[y]? = some os[y] := List.getElem?_eq_getElem hy'
        refine ⟨_, eg_name, rfl, et_is (et_test (ev_uEq (ev_ixT (j := y) (d := aD os[y]) (ev_ixT (j := 2) (ds := qL [] os) (ev_varD rfl ho8) ev_int rfl) (ev_var rfl pz) (by rw [List.getElem?_map, hgy]; rfl)) (ev_tupD (ead_cons ev_str (ead_cons (ev_tupD (ead_cons (ev_ixL (j := 0) (ev_varD rfl n48) ev_int (get_nthD (by omega))) (ead_cons (ev_ixL (j := 0) (ev_varD rfl n48) ev_int (get_nthD (by omega))) ead_nil)) (Nat.le_of_ble_eq_true rfl)) ead_nil)) (Nat.le_of_ble_eq_true rfl)) (aD_60 _))) ?_, fun hb => ?_⟩
        · show PyData.eqv (aD os[y]) (aD (nth ns 0, nth ns 0)) = _
          rw [eqv_aD, hgy]
          exact decide_eq_decide.mpr ⟨fun h => by rw [h], fun h => Option.some.inj h⟩
        · have hb := of_decide_eq_true hb
          exact call_can_go (own_less oq op hb) (rest_ne oq.nd (by omega) _) (by decide) (own_held oq) ev_str (ev_varD rfl ho8) (ev_var rfl pz)
/-! ### the law -/
theorem ev_pot {vs : List Int} {t1 t2 : TE} (h1 : Ev t1 σ S (DL.IsD K (.list (vs.map .int)))) (h2 : Ev t2 σ S (DL.IsD K (.int 0))) : Ev (tCall (newPotS P w (spL_pot K)) [] E0 (tCons t1 (tCons t2 tNil))) σ S (fun S v => ∃ p, v = .ref p ∧ S p = some (potO P w p)) := fun S1 H1 a b Q q =>
  (ead_cons h1 (ead_cons h2 ead_nil)) S1 H1 a b _ fun xs S2 H2 ok2 p2 => by
    rw [List.append_nil]
    obtain ⟨v1, v2, rfl, d1, d2⟩ := dps2 p2.now
    cases d2
    refine ⟨S2, vs, v1, ok2.sh, rfl, d1, fun S' H' l x y ok hl sl hg hb => ⟨l, x, y, rfl, hl, hg, hb, ?_⟩⟩
    refine q (.ref l) (upd S' l (potO P w l)) _ (ok2.trans ((ok.put (o := potO P w l) hl sl).freeze hl sl upd_same)) fun S3 e3 => ⟨l, rfl, e3 l _ upd_same⟩
theorem call_right {Pf : Addr → Hp → V → Prop} {p : Addr} {o : HO} {t1 : TE} (hp : S p = some o) (h1 : Ev t1 σ S (IsV (.ref p))) {X : Addr → HO} (hX : X p = o) : Ev (tCall (SpOf (ι := Addr) (fun p S vs => vs = [.ref p] ∧ S p = some (X p)) Pf) [] E0 (tCons t1 tNil)) σ S (Pf p) := fun S1 H1 a b Q q =>
  (ea1 h1) S1 H1 a b _ fun vs S2 H2 ok2 p2 => by
    obtain ⟨v1, r1, rfl, e1, rfl⟩ := p2.now
    have e1 : v1 = V.ref p := e1
    subst e1
    rw [List.append_nil]
    exact ⟨p, S2, ok2.sh, fun S3 e3 => ⟨rfl, by rw [hX]; exact (a.trans (ok2.ss.trans e3)) p _ hp⟩, fun v S3 H3 ok3 p3 => q v S3 H3 (ok2.trans ok3) p3⟩
def sp_law (K : PySem.W.Frag) : Sp := SpOf (ι := List Int) (fun xs => AreD K [.list (xs.map .int)]) (fun _ => IsD K (.bool true))
theorem pure_law : ∀ vs H Q E, sp_law K vs H Q E → t_law P w K (newPotS P w (spL_pot K)) (sp__law_ring_right P w K) (sp__law_row_right P w K) (sp__law_star_right P w K) { nx := fun _ H' => Q .non H', rt := Q } (start N_law vs) H := pure_of fun xs S H vs e h D k _ => by
  obtain ⟨v, rfl, h1⟩ := dps1 h
  refine q_set e (ev_pot (P := P) (w := w) (K := K) (vs := xs) (ev_varD rfl h1) ev_int) fun pv S1 H1 ok1 p1 => ?_
  obtain ⟨p, rfl, hp⟩ := p1.now
  exact s_ret ok1.sh (ev_andV (a := true) (b := true) (call_right hp (ev_var rfl perV) rfl) fun _ => ev_andV (a := true) (b := true) (call_right hp (ev_var rfl perV) rfl) fun _ => call_right hp (ev_var rfl perV) rfl) fun r S9 H9 ok9 p9 => k r S9 H9 (ok1.trans ok9) p9
end
end K68


set_option Elab.async false
set_option linter.all false
set_option maxRecDepth 100000
set_option maxHeartbeats 4000000
namespace K68
open PySem L2 DL PySem.Spec PyProof.Rows
section
variable {P : Program} {w : World} {K : PySem.W.Frag} {mg : Str → Option Value} {base : Heap} {f : Addr} {fd : FuncData}
theorem ok_is_integer  {sp : Sp} (len : ∀ vs H Q E, sp vs H Q E → vs.length = 1)
    (F : FunD K "is_integer" "is_integer" (defArgs s_is_integer) (defBody s_is_integer) (defScope s_is_integer) [] [] f fd)
    (gF : mg "is_integer" = some (.ref f))
    (m_bool : mg "bool" = none)
    (m_int : mg "int" = none)
    (m_isinstance : mg "isinstance" = none)
    (pure : ∀ vs H Q E, sp vs H Q E → t_is_integer P w K   { nx := fun _ H' => Q .non H', rt := Q } (start N_is_integer vs) H) :
    Cal P w K mg base (0 + 1) "is_integer" ["value"] sp := by
  refine ⟨f, fd, gF, F.kp, F.bindsN fun _ _ _ _ _ _ us hl => match us, hl with | [_], _ => rfl, F.ok sc_is_integer len (fun cdv A outer s H vs Q E hr h => ⟨t_is_integer P w K  , PSs.nox ?_, pure vs H Q E h⟩)⟩
  exact (pss_one (ps_ret (pe_and (pe_callB call_isi rfl m_isinstance (by decide +kernel) (pa_cons (pv 0) (pa_cons (pe_bltn rfl m_int (by decide +kernel) rfl) pa_nil))) (pe_one (pe_not (pe_callB call_isi rfl m_isinstance (by decide +kernel) (pa_cons (pv 0) (pa_cons (pe_bltn rfl m_bool (by decide +kernel) rfl) pa_nil))))))))
theorem ok_is_row  {sp : Sp} (len : ∀ vs H Q E, sp vs H Q E → vs.length = 2)
    (F : FunD K "is_row" "is_row" (defArgs s_is_row) (defBody s_is_row) (defScope s_is_row) [] [] f fd)
    (gF : mg "is_row" = some (.ref f))
    (m_isinstance : mg "isinstance" = none)
    (m_len : mg "len" = none)
    (m_tuple : mg "tuple" = none)
    (pure : ∀ vs H Q E, sp vs H Q E → t_is_row P w K   { nx := fun _ H' => Q .non H', rt := Q } (start N_is_row vs) H) :
    Cal P w K mg base (0 + 1) "is_row" ["value", "many"] sp := by
  refine ⟨f, fd, gF, F.kp, F.bindsN fun _ _ _ _ _ _ us hl => match us, hl with | [_, _], _ => rfl, F.ok sc_is_row len (fun cdv A outer s H vs Q E hr h => ⟨t_is_row P w K  , PSs.nox ?_, pure vs H Q E h⟩)⟩
  exact (pss_one (ps_ret (pe_and (pe_callB call_isi rfl m_isinstance (by decide +kernel) (pa_cons (pv 0) (pa_cons (pe_bltn rfl m_tuple (by decide +kernel) rfl) pa_nil))) (pe_one (pe_cmpR (op_uEq hr.units) (pe_callB call_lenU rfl m_len (by decide +kernel) (pa_cons (pv 0) pa_nil)) (pv 1) (nomark _))))))
theorem ok_is_name  {sp : Sp} (len : ∀ vs H Q E, sp vs H Q E → vs.length = 1)
    (F : FunD K "is_name" "is_name" (defArgs s_is_name) (defBody s_is_name) (defScope s_is_name) [] [] f fd)
    (gF : mg "is_name" = some (.ref f))
    (m_all : mg "all" = none)
    (m_isinstance : mg "isinstance" = none)
    (m_len : mg "len" = none)
    (m_str : mg "str" = none)
    (c_MOST_NAME : ∃ t, mg "MOST_NAME" = some (.int 8 t))
    (c_SMALL : ∃ t, mg "SMALL" = some (.str "abcdefghijklmnopqrstuvwxyz" t))
    (pure : ∀ vs H Q E, sp vs H Q E → t_is_name P w K   { nx := fun _ H' => Q .non H', rt := Q } (start N_is_name vs) H) :
    Cal P w K mg base (0 + 1) "is_name" ["value"] sp := by
  refine ⟨f, fd, gF, F.kp, F.bindsN fun _ _ _ _ _ _ us hl => match us, hl with | [_], _ => rfl, F.ok sc_is_name len (fun cdv A outer s H vs Q E hr h => ⟨t_is_name P w K  , PSs.nox ?_, pure vs H Q E h⟩)⟩
  exact (pss_cons (ps_if (PW.pt (pw_or (pt_not (pt_val (pe_callB call_isi rfl m_isinstance (by decide +kernel) (pa_cons (pv 0) (pa_cons (pe_bltn rfl m_str (by decide +kernel) rfl) pa_nil))))) (pw_or1 (pt_not (pt_chain op_le op_le pe_int (pe_callB call_lenU rfl m_len (by decide +kernel) (pa_cons (pv 0) pa_nil)) (pe_glob rfl c_MOST_NAME.choose_spec ⟨_, rfl⟩)))))) (pss_one (ps_ret pe_bl)) pss_nil) (pss_one (ps_ret (pe_callB (cr_all rfl) rfl m_all (by decide +kernel) (pa_cons (pe_lc (own := [("sign", 1)]) (tt := tYes) rfl sc_is_name.nd (pi_str (pv 0)) (blkOk_by (N := N_is_name) (sc := defScope s_is_name) (by decide +kernel)) (fun _ _ _ _ _ => (pg_name (i := 1) sc_is_name.nd rfl (Or.inl rfl))) (fun _ _ _ _ _ => pts_nil) (fun _ _ _ _ _ => (pe_cmpR (op_uIn hr.units) (pv 1) (pe_glob rfl c_SMALL.choose_spec ⟨_, rfl⟩) (by with_unfolding_all rfl)))) pa_nil)))))
theorem ok_is_word  {sp : Sp} (len : ∀ vs H Q E, sp vs H Q E → vs.length = 1)
    (F : FunD K "is_word" "is_word" (defArgs s_is_word) (defBody s_is_word) (defScope s_is_word) [] [] f fd)
    (gF : mg "is_word" = some (.ref f))
    (m_all : mg "all" = none)
    (m_isinstance : mg "isinstance" = none)
    (m_len : mg "len" = none)
    (m_str : mg "str" = none)
    (c_CAPITALS : ∃ t, mg "CAPITALS" = some (.str "ABCDEFGHIJKLMNOPQRSTUVWXYZ" t))
    (c_MOST_WORD : ∃ t, mg "MOST_WORD" = some (.int 12 t))
    (c_SMALL : ∃ t, mg "SMALL" = some (.str "abcdefghijklmnopqrstuvwxyz" t))
    (pure : ∀ vs H Q E, sp vs H Q E → t_is_word P w K   { nx := fun _ H' => Q .non H', rt := Q } (start N_is_word vs) H) :
    Cal P w K mg base (0 + 1) "is_word" ["value"] sp := by
  refine ⟨f, fd, gF, F.kp, F.bindsN fun _ _ _ _ _ _ us hl => match us, hl with | [_], _ => rfl, F.ok sc_is_word len (fun cdv A outer s H vs Q E hr h => ⟨t_is_word P w K  , PSs.nox ?_, pure vs H Q E h⟩)⟩
  exact (pss_cons (ps_if (PW.pt (pw_or (pt_not (pt_val (pe_callB call_isi rfl m_isinstance (by decide +kernel) (pa_cons (pv 0) (pa_cons (pe_bltn rfl m_str (by decide +kernel) rfl) pa_nil))))) (pw_or (pt_not (pt_chain op_le op_le pe_int (pe_callB call_lenU rfl m_len (by decide +kernel) (pa_cons (pv 0) pa_nil)) (pe_glob rfl c_MOST_WORD.choose_spec ⟨_, rfl⟩))) (pw_or1 (pt_cmpR (op_uNotIn hr.units) (pe_ix ix_seq (pv 0) pe_int (fun _ _ => rfl)) (pe_glob rfl c_CAPITALS.choose_spec ⟨_, rfl⟩) (by with_unfolding_all rfl)))))) (pss_one (ps_ret pe_bl)) pss_nil) (pss_one (ps_ret (pe_callB (cr_all rfl) rfl m_all (by decide +kernel) (pa_cons (pe_lc (own := [("sign", 1)]) (tt := tYes) rfl sc_is_word.nd (pi_str (pv 0)) (blkOk_by (N := N_is_word) (sc := defScope s_is_word) (by decide +kernel)) (fun _ _ _ _ _ => (pg_name (i := 1) sc_is_word.nd rfl (Or.inl rfl))) (fun _ _ _ _ _ => pts_nil) (fun _ _ _ _ _ => (pe_or (pe_cmpR (op_uIn hr.units) (pv 1) (pe_glob rfl c_SMALL.choose_spec ⟨_, rfl⟩) (by with_unfolding_all rfl)) (pe_or (pe_cmpR (op_uIn hr.units) (pv 1) (pe_glob rfl c_CAPITALS.choose_spec ⟨_, rfl⟩) (by with_unfolding_all rfl)) (pe_one pe_never))))) pa_nil)))))
theorem ok_is_term  {sp : Sp} (len : ∀ vs H Q E, sp vs H Q E → vs.length = 1)
    (F : FunD K "is_term" "is_term" (defArgs s_is_term) (defBody s_is_term) (defScope s_is_term) [] [] f fd)
    (gF : mg "is_term" = some (.ref f))
    {sp_is_name : Sp} (C_is_name : Cal P w K mg base 1 "is_name" ["value"] sp_is_name)
    (pure : ∀ vs H Q E, sp vs H Q E → t_is_term P w K sp_is_name  { nx := fun _ H' => Q .non H', rt := Q } (start N_is_term vs) H) :
    Cal P w K mg base (1 + 1) "is_term" ["value"] sp := by
  refine ⟨f, fd, gF, F.kp, F.bindsN fun _ _ _ _ _ _ us hl => match us, hl with | [_], _ => rfl, F.ok sc_is_term len (fun cdv A outer s H vs Q E hr h => ⟨t_is_term P w K sp_is_name , PSs.nox ?_, pure vs H Q E h⟩)⟩
  exact (pss_one (ps_ret (pe_or (pe_cal C_is_name (hr.mono (by decide)) rfl (pa_cons (pv 0) pa_nil)) (pe_one pe_never))))
theorem ok_unlike_ones  {sp : Sp} (len : ∀ vs H Q E, sp vs H Q E → vs.length = 1)
    (F : FunD K "unlike_ones" "unlike_ones" (defArgs s_unlike_ones) (defBody s_unlike_ones) (defScope s_unlike_ones) [] [] f fd)
    (gF : mg "unlike_ones" = some (.ref f))
    (m_list : mg "list" = none)
    (pure : ∀ vs H Q E, sp vs H Q E → t_unlike_ones P w K   { nx := fun _ H' => Q .non H', rt := Q } (start N_unlike_ones vs) H) :
    Cal P w K mg base (0 + 1) "unlike_ones" ["items"] sp := by
  refine ⟨f, fd, gF, F.kp, F.bindsN fun _ _ _ _ _ _ us hl => match us, hl with | [_], _ => rfl, F.ok sc_unlike_ones len (fun cdv A outer s H vs Q E hr h => ⟨t_unlike_ones P w K  , PSs.nox ?_, pure vs H Q E h⟩)⟩
  exact (pss_cons (ps_set (i := 1) sc_unlike_ones.nd rfl (Or.inl rfl) pe_dnewN) (pss_cons (ps_for PassesOwn.never rfl (pi_or2 (pi_list (pv 0)) (pi_tup (pv 0))) (pg_name (i := 2) sc_unlike_ones.nd rfl (Or.inl rfl)) (pss_one (ps_dputN hr.units (pv 1) (pv 2) pe_bl rfl))) (pss_one (ps_ret (pe_callTy (call_listN rfl) rfl m_list (by decide +kernel) (pa_cons (pv 1) pa_nil))))))
theorem ok_is_terms  {sp : Sp} (len : ∀ vs H Q E, sp vs H Q E → vs.length = 3)
    (F : FunD K "is_terms" "is_terms" (defArgs s_is_terms) (defBody s_is_terms) (defScope s_is_terms) [] [] f fd)
    (gF : mg "is_terms" = some (.ref f))
    {sp_is_term : Sp} (C_is_term : Cal P w K mg base 2 "is_term" ["value"] sp_is_term)
    (m_all : mg "all" = none)
    (m_isinstance : mg "isinstance" = none)
    (m_len : mg "len" = none)
    (m_tuple : mg "tuple" = none)
    (pure : ∀ vs H Q E, sp vs H Q E → t_is_terms P w K sp_is_term  { nx := fun _ H' => Q .non H', rt := Q } (start N_is_terms vs) H) :
    Cal P w K mg base (2 + 1) "is_terms" ["value", "least", "most"] sp := by
  refine ⟨f, fd, gF, F.kp, F.bindsN fun _ _ _ _ _ _ us hl => match us, hl with | [_, _, _], _ => rfl, F.ok sc_is_terms len (fun cdv A outer s H vs Q E hr h => ⟨t_is_terms P w K sp_is_term , PSs.nox ?_, pure vs H Q E h⟩)⟩
  exact (pss_one (ps_ret (pe_and (pe_callB call_isi rfl m_isinstance (by decide +kernel) (pa_cons (pv 0) (pa_cons (pe_bltn rfl m_tuple (by decide +kernel) rfl) pa_nil))) (pe_and (pe_chain op_le op_le (pv 1) (pe_callB call_lenU rfl m_len (by decide +kernel) (pa_cons (pv 0) pa_nil)) (pv 2)) (pe_one (pe_callB (cr_all rfl) rfl m_all (by decide +kernel) (pa_cons (pe_lc (own := [("term", 3)]) (tt := tYes) rfl sc_is_terms.nd (pi_tup (pv 0)) (blkOk_by (N := N_is_terms) (sc := defScope s_is_terms) (by decide +kernel)) (fun _ _ _ _ _ => (pg_name (i := 3) sc_is_terms.nd rfl (Or.inl rfl))) (fun _ _ _ _ _ => pts_nil) (fun _ _ _ _ _ => (pe_cal C_is_term (hr.mono (by decide)) rfl (pa_cons (pv 3) pa_nil)))) pa_nil)))))))
theorem ok_is_atom  {sp : Sp} (len : ∀ vs H Q E, sp vs H Q E → vs.length = 1)
    (F : FunD K "is_atom" "is_atom" (defArgs s_is_atom) (defBody s_is_atom) (defScope s_is_atom) [] [] f fd)
    (gF : mg "is_atom" = some (.ref f))
    {sp_is_row : Sp} (C_is_row : Cal P w K mg base 1 "is_row" ["value", "many"] sp_is_row)
    {sp_is_terms : Sp} (C_is_terms : Cal P w K mg base 3 "is_terms" ["value", "least", "most"] sp_is_terms)
    {sp_is_word : Sp} (C_is_word : Cal P w K mg base 1 "is_word" ["value"] sp_is_word)
    (c_MOST_TERMS : ∃ t, mg "MOST_TERMS" = some (.int 4 t))
    (pure : ∀ vs H Q E, sp vs H Q E → t_is_atom P w K sp_is_row sp_is_terms sp_is_word  { nx := fun _ H' => Q .non H', rt := Q } (start N_is_atom vs) H) :
    Cal P w K mg base (3 + 1) "is_atom" ["value"] sp := by
  refine ⟨f, fd, gF, F.kp, F.bindsN fun _ _ _ _ _ _ us hl => match us, hl with | [_], _ => rfl, F.ok sc_is_atom len (fun cdv A outer s H vs Q E hr h => ⟨t_is_atom P w K sp_is_row sp_is_terms sp_is_word , PSs.nox ?_, pure vs H Q E h⟩)⟩
  exact (pss_one (ps_ret (pe_and (pe_cal C_is_row (hr.mono (by decide)) rfl (pa_cons (pv 0) (pa_cons pe_int pa_nil))) (pe_and (pe_cal C_is_word (hr.mono (by decide)) rfl (pa_cons (pe_ix ix_seq (pv 0) pe_int (fun _ _ => rfl)) pa_nil)) (pe_one (pe_cal C_is_terms (hr.mono (by decide)) rfl (pa_cons (pe_ix ix_seq (pv 0) pe_int (fun _ _ => rfl)) (pa_cons pe_int (pa_cons (pe_glob rfl c_MOST_TERMS.choose_spec ⟨_, rfl⟩) pa_nil)))))))))
theorem ok_unlike_table  {sp : Sp} (len : ∀ vs H Q E, sp vs H Q E → vs.length = 1)
    (F : FunD K "unlike_table" "unlike_table" (defArgs s_unlike_table) (defBody s_unlike_table) (defScope s_unlike_table) [] [] f fd)
    (gF : mg "unlike_table" = some (.ref f))
    (m_len : mg "len" = none)
    (pure : ∀ vs H Q E, sp vs H Q E → t_unlike_table P w K   { nx := fun _ H' => Q .non H', rt := Q } (start N_unlike_table vs) H) :
    Cal P w K mg base (0 + 1) "unlike_table" ["atoms"] sp := by
  refine ⟨f, fd, gF, F.kp, F.bindsN fun _ _ _ _ _ _ us hl => match us, hl with | [_], _ => rfl, F.ok sc_unlike_table len (fun cdv A outer s H vs Q E hr h => ⟨t_unlike_table P w K  , PSs.nox ?_, pure vs H Q E h⟩)⟩
  exact (pss_cons (ps_par (i := 1) (j := 2) rfl sc_unlike_table.nd rfl rfl (by decide) rfl rfl (pa_cons pe_dnewK (pa_cons (pe_lst pa_nil) pa_nil)) rfl) (pss_cons (ps_for PassesOwn.never rfl (pi_or2 (pi_list (pv 0)) (pi_tup (pv 0))) (pg_tup rfl (pgs_cons (pg_name (i := 3) sc_unlike_table.nd rfl (Or.inl rfl)) (pgs_cons (pg_name (i := 4) sc_unlike_table.nd rfl (Or.inl rfl)) pgs_nil))) (pss_one (ps_if (pt_cmpR (op_uNe hr.units) (pe_dsetd (pv 1) (pv 3) (pe_callB call_lenU rfl m_len (by decide +kernel) (pa_cons (pv 4) pa_nil)) ⟨rfl, rfl, rfl, rfl⟩) (pe_callB call_lenU rfl m_len (by decide +kernel) (pa_cons (pv 4) pa_nil)) (nomark _)) (pss_one ps_never) pss_nil))) (pss_one (ps_ret (pe_ifExp (pt_cmpR (op_uNe hr.units) (pv 2) (pe_lst pa_nil) (nomark _)) pe_never pe_non)))))
theorem ok_names_in  {sp : Sp} (len : ∀ vs H Q E, sp vs H Q E → vs.length = 1)
    (F : FunD K "names_in" "names_in" (defArgs s_names_in) (defBody s_names_in) (defScope s_names_in) [] [] f fd)
    (gF : mg "names_in" = some (.ref f))
    {sp_is_name : Sp} (C_is_name : Cal P w K mg base 1 "is_name" ["value"] sp_is_name)
    (m_set : mg "set" = none)
    (m_sorted : mg "sorted" = none)
    (pure : ∀ vs H Q E, sp vs H Q E → t_names_in P w K sp_is_name  { nx := fun _ H' => Q .non H', rt := Q } (start N_names_in vs) H) :
    Cal P w K mg base (1 + 1) "names_in" ["atoms"] sp := by
  refine ⟨f, fd, gF, F.kp, F.bindsN fun _ _ _ _ _ _ us hl => match us, hl with | [_], _ => rfl, F.ok sc_names_in len (fun cdv A outer s H vs Q E hr h => ⟨t_names_in P w K sp_is_name , PSs.nox ?_, pure vs H Q E h⟩)⟩
  exact (pss_cons (ps_set (i := 1) sc_names_in.nd rfl (Or.inl rfl) (pe_lst pa_nil)) (pss_cons (ps_for PassesOwn.never rfl (pi_or2 (pi_list (pv 0)) (pi_tup (pv 0))) (pg_tup rfl (pgs_cons (pg_name (i := 2) sc_names_in.nd rfl (Or.inl rfl)) (pgs_cons (pg_name (i := 3) sc_names_in.nd rfl (Or.inl rfl)) pgs_nil))) (pss_one (ps_expr (pe_bm PySem.F.plainAttrs_list PySem.F.slot_list_extend PySem.F.type_list_extend mt_extend (pv 1) (pa_cons (pe_lc (own := [("term", 4)]) (tt := (tB (tCall sp_is_name [] E0 (tCons (tVar 4) tNil)))) rfl sc_names_in.nd (pi_tup (pv 3)) (blkOk_by (N := N_names_in) (sc := defScope s_names_in) (by decide +kernel)) (fun _ _ _ _ _ => (pg_name (i := 4) sc_names_in.nd rfl (Or.inl rfl))) (fun _ _ _ _ _ => (pts_one (pt_val (pe_cal C_is_name (hr.mono (by decide)) rfl (pa_cons (pv 4) pa_nil))))) (fun _ _ _ _ _ => (pv 4))) pa_nil))))) (pss_one (ps_ret (pe_callB (cr_sortedX rfl hr.units) rfl m_sorted (by decide +kernel) (pa_cons (pe_callTy (cr_setX rfl) rfl m_set (by decide +kernel) (pa_cons (pv 1) pa_nil)) pa_nil))))))
theorem ok_is_question_of  {sp : Sp} (len : ∀ vs H Q E, sp vs H Q E → vs.length = 1)
    (F : FunD K "is_question_of" "is_question_of" (defArgs s_is_question_of) (defBody s_is_question_of) (defScope s_is_question_of) [] [] f fd)
    (gF : mg "is_question_of" = some (.ref f))
    {sp_is_atom : Sp} (C_is_atom : Cal P w K mg base 4 "is_atom" ["value"] sp_is_atom)
    {sp_is_name : Sp} (C_is_name : Cal P w K mg base 1 "is_name" ["value"] sp_is_name)
    {sp_is_row : Sp} (C_is_row : Cal P w K mg base 1 "is_row" ["value", "many"] sp_is_row)
    {sp_is_terms : Sp} (C_is_terms : Cal P w K mg base 3 "is_terms" ["value", "least", "most"] sp_is_terms)
    {sp_names_in : Sp} (C_names_in : Cal P w K mg base 2 "names_in" ["atoms"] sp_names_in)
    {sp_unlike_table : Sp} (C_unlike_table : Cal P w K mg base 1 "unlike_table" ["atoms"] sp_unlike_table)
    (m_all : mg "all" = none)
    (m_isinstance : mg "isinstance" = none)
    (m_len : mg "len" = none)
    (m_tuple : mg "tuple" = none)
    (c_ASK : ∃ t, mg "ASK" = some (.str "ask" t))
    (c_MOST_ATOMS : ∃ t, mg "MOST_ATOMS" = some (.int 6 t))
    (c_MOST_HEAD : ∃ t, mg "MOST_HEAD" = some (.int 4 t))
    (pure : ∀ vs H Q E, sp vs H Q E → t_is_question_of P w K sp_is_atom sp_is_name sp_is_row sp_is_terms sp_names_in sp_unlike_table  { nx := fun _ H' => Q .non H', rt := Q } (start N_is_question_of vs) H) :
    Cal P w K mg base (4 + 1) "is_question_of" ["value"] sp := by
  refine ⟨f, fd, gF, F.kp, F.bindsN fun _ _ _ _ _ _ us hl => match us, hl with | [_], _ => rfl, F.ok sc_is_question_of len (fun cdv A outer s H vs Q E hr h => ⟨t_is_question_of P w K sp_is_atom sp_is_name sp_is_row sp_is_terms sp_names_in sp_unlike_table , PSs.nox ?_, pure vs H Q E h⟩)⟩
  exact (pss_cons (ps_if (PW.pt (pw_or (pt_not (pt_val (pe_cal C_is_row (hr.mono (by decide)) rfl (pa_cons (pv 0) (pa_cons pe_int pa_nil))))) (pw_or (pt_cmpR (op_uNe hr.units) (pe_ix ix_seq (pv 0) pe_int (fun _ _ => rfl)) (pe_glob rfl c_ASK.choose_spec ⟨_, rfl⟩) (nomark _)) (pw_or1 (pt_not (pt_val (pe_cal C_is_terms (hr.mono (by decide)) rfl (pa_cons (pe_ix ix_seq (pv 0) pe_int (fun _ _ => rfl)) (pa_cons pe_int (pa_cons (pe_glob rfl c_MOST_HEAD.choose_spec ⟨_, rfl⟩) pa_nil)))))))))) (pss_one (ps_ret pe_bl)) pss_nil) (pss_cons (ps_if (PW.pt (pw_or (pt_not (pt_val (pe_callB call_isi rfl m_isinstance (by decide +kernel) (pa_cons (pe_ix ix_seq (pv 0) pe_int (fun _ _ => rfl)) (pa_cons (pe_bltn rfl m_tuple (by decide +kernel) rfl) pa_nil))))) (pw_or1 (pt_not (pt_chain op_le op_le pe_int (pe_callB call_lenU rfl m_len (by decide +kernel) (pa_cons (pe_ix ix_seq (pv 0) pe_int (fun _ _ => rfl)) pa_nil)) (pe_glob rfl c_MOST_ATOMS.choose_spec ⟨_, rfl⟩)))))) (pss_one (ps_ret pe_bl)) pss_nil) (pss_cons (ps_if (pt_not (pt_val (pe_callB (cr_all rfl) rfl m_all (by decide +kernel) (pa_cons (pe_lc (own := [("atom", 2)]) (tt := tYes) rfl sc_is_question_of.nd (pi_tup (pe_ix ix_seq (pv 0) pe_int (fun _ _ => rfl))) (blkOk_by (N := N_is_question_of) (sc := defScope s_is_question_of) (by decide +kernel)) (fun _ _ _ _ _ => (pg_name (i := 2) sc_is_question_of.nd rfl (Or.inl rfl))) (fun _ _ _ _ _ => pts_nil) (fun _ _ _ _ _ => (pe_cal C_is_atom (hr.mono (by decide)) rfl (pa_cons (pv 2) pa_nil)))) pa_nil)))) (pss_one (ps_ret pe_bl)) pss_nil) (pss_cons (ps_set (i := 1) sc_is_question_of.nd rfl (Or.inr rfl) (pe_cal C_names_in (hr.mono (by decide)) rfl (pa_cons (pe_ix ix_seq (pv 0) pe_int (fun _ _ => rfl)) pa_nil))) (pss_one (ps_ret (pe_and (pe_cmp (pc_isN (pe_cal C_unlike_table (hr.mono (by decide)) rfl (pa_cons (pe_ix ix_seq (pv 0) pe_int (fun _ _ => rfl)) pa_nil)))) (pe_one (pe_callB (cr_all rfl) rfl m_all (by decide +kernel) (pa_cons (pe_lc (own := [("term", 3)]) (tt := (tB (tCall sp_is_name [] E0 (tCons (tVar 3) tNil)))) rfl sc_is_question_of.nd (pi_tup (pe_ix ix_seq (pv 0) pe_int (fun _ _ => rfl))) (blkOk_by (N := N_is_question_of) (sc := defScope s_is_question_of) (by decide +kernel)) (fun _ _ _ _ _ => (pg_name (i := 3) sc_is_question_of.nd rfl (Or.inl rfl))) (fun _ _ _ _ _ => (pts_one (pt_val (pe_cal C_is_name (hr.mono (by decide)) rfl (pa_cons (pv 3) pa_nil))))) (fun _ _ _ _ _ => (pe_cmpR (op_uIn hr.units) (pv 3) (pv 1) (by with_unfolding_all rfl)))) pa_nil))))))))))
theorem ok_is_union_of  {sp : Sp} (len : ∀ vs H Q E, sp vs H Q E → vs.length = 1)
    (F : FunD K "is_union_of" "is_union_of" (defArgs s_is_union_of) (defBody s_is_union_of) (defScope s_is_union_of) [] [] f fd)
    (gF : mg "is_union_of" = some (.ref f))
    {sp_is_row : Sp} (C_is_row : Cal P w K mg base 1 "is_row" ["value", "many"] sp_is_row)
    (m_isinstance : mg "isinstance" = none)
    (m_tuple : mg "tuple" = none)
    (c_ANY : ∃ t, mg "ANY" = some (.str "any" t))
    (pure : ∀ vs H Q E, sp vs H Q E → t_is_union_of P w K sp_is_row  { nx := fun _ H' => Q .non H', rt := Q } (start N_is_union_of vs) H) :
    Cal P w K mg base (1 + 1) "is_union_of" ["value"] sp := by
  refine ⟨f, fd, gF, F.kp, F.bindsN fun _ _ _ _ _ _ us hl => match us, hl with | [_], _ => rfl, F.ok sc_is_union_of len (fun cdv A outer s H vs Q E hr h => ⟨t_is_union_of P w K sp_is_row , PSs.nox ?_, pure vs H Q E h⟩)⟩
  exact (pss_cons (ps_if (PW.pt (pw_or (pt_not (pt_val (pe_cal C_is_row (hr.mono (by decide)) rfl (pa_cons (pv 0) (pa_cons pe_int pa_nil))))) (pw_or (pt_cmpR (op_uNe hr.units) (pe_ix ix_seq (pv 0) pe_int (fun _ _ => rfl)) (pe_glob rfl c_ANY.choose_spec ⟨_, rfl⟩) (nomark _)) (pw_or1 (pt_not (pt_val (pe_callB call_isi rfl m_isinstance (by decide +kernel) (pa_cons (pe_ix ix_seq (pv 0) pe_int (fun _ _ => rfl)) (pa_cons (pe_bltn rfl m_tuple (by decide +kernel) rfl) pa_nil))))))))) (pss_one (ps_ret pe_bl)) pss_nil) pss_never)
theorem ok_atoms_in  {sp : Sp} (len : ∀ vs H Q E, sp vs H Q E → vs.length = 1)
    (F : FunD K "atoms_in" "atoms_in" (defArgs s_atoms_in) (defBody s_atoms_in) (defScope s_atoms_in) [] [] f fd)
    (gF : mg "atoms_in" = some (.ref f))
    (m_list : mg "list" = none)
    (pure : ∀ vs H Q E, sp vs H Q E → t_atoms_in P w K   { nx := fun _ H' => Q .non H', rt := Q } (start N_atoms_in vs) H) :
    Cal P w K mg base (0 + 1) "atoms_in" ["members"] sp := by
  refine ⟨f, fd, gF, F.kp, F.bindsN fun _ _ _ _ _ _ us hl => match us, hl with | [_], _ => rfl, F.ok sc_atoms_in len (fun cdv A outer s H vs Q E hr h => ⟨t_atoms_in P w K  , PSs.nox ?_, pure vs H Q E h⟩)⟩
  exact (pss_cons (ps_set (i := 1) sc_atoms_in.nd rfl (Or.inl rfl) (pe_lst pa_nil)) (pss_cons (ps_for PassesOwn.never rfl (pi_tup (pv 0)) (pg_name (i := 2) sc_atoms_in.nd rfl (Or.inl rfl)) (pss_one (ps_expr (pe_bm PySem.F.plainAttrs_list PySem.F.slot_list_extend PySem.F.type_list_extend mt_extend (pv 1) (pa_cons (pe_callTy call_listU rfl m_list (by decide +kernel) (pa_cons (pe_ix ix_seq (pv 2) pe_int (fun _ _ => rfl)) pa_nil)) pa_nil))))) (pss_one (ps_ret (pv 1)))))
theorem ok_members_of  {sp : Sp} (len : ∀ vs H Q E, sp vs H Q E → vs.length = 1)
    (F : FunD K "members_of" "members_of" (defArgs s_members_of) (defBody s_members_of) (defScope s_members_of) [] [] f fd)
    (gF : mg "members_of" = some (.ref f))
    (c_ANY : ∃ t, mg "ANY" = some (.str "any" t))
    (pure : ∀ vs H Q E, sp vs H Q E → t_members_of P w K   { nx := fun _ H' => Q .non H', rt := Q } (start N_members_of vs) H) :
    Cal P w K mg base (0 + 1) "members_of" ["union"] sp := by
  refine ⟨f, fd, gF, F.kp, F.bindsN fun _ _ _ _ _ _ us hl => match us, hl with | [_], _ => rfl, F.ok sc_members_of len (fun cdv A outer s H vs Q E hr h => ⟨t_members_of P w K  , PSs.nox ?_, pure vs H Q E h⟩)⟩
  exact (pss_one (ps_ret (pe_ifExp (pt_cmpR (op_uEq hr.units) (pe_ix ix_seq (pv 0) pe_int (fun _ _ => rfl)) (pe_glob rfl c_ANY.choose_spec ⟨_, rfl⟩) (nomark _)) (pe_ix ix_seq (pv 0) pe_int (fun _ _ => rfl)) (pe_tup (pa_cons (pv 0) pa_nil)))))
theorem ok_head_length  {sp : Sp} (len : ∀ vs H Q E, sp vs H Q E → vs.length = 1)
    (F : FunD K "head_length" "head_length" (defArgs s_head_length) (defBody s_head_length) (defScope s_head_length) [] [] f fd)
    (gF : mg "head_length" = some (.ref f))
    {sp_members_of : Sp} (C_members_of : Cal P w K mg base 1 "members_of" ["union"] sp_members_of)
    (m_len : mg "len" = none)
    (pure : ∀ vs H Q E, sp vs H Q E → t_head_length P w K sp_members_of  { nx := fun _ H' => Q .non H', rt := Q } (start N_head_length vs) H) :
    Cal P w K mg base (1 + 1) "head_length" ["union"] sp := by
  refine ⟨f, fd, gF, F.kp, F.bindsN fun _ _ _ _ _ _ us hl => match us, hl with | [_], _ => rfl, F.ok sc_head_length len (fun cdv A outer s H vs Q E hr h => ⟨t_head_length P w K sp_members_of , PSs.nox ?_, pure vs H Q E h⟩)⟩
  exact (pss_one (ps_ret (pe_callB call_lenU rfl m_len (by decide +kernel) (pa_cons (pe_ix ix_seq (pe_ix ix_seq (pe_cal C_members_of (hr.mono (by decide)) rfl (pa_cons (pv 0) pa_nil)) pe_int (fun _ _ => rfl)) pe_int (fun _ _ => rfl)) pa_nil))))
theorem ok_led_terms  {sp : Sp} (len : ∀ vs H Q E, sp vs H Q E → vs.length = 2)
    (F : FunD K "led_terms" "led_terms" (defArgs s_led_terms) (defBody s_led_terms) (defScope s_led_terms) [] [] f fd)
    (gF : mg "led_terms" = some (.ref f))
    {sp_is_name : Sp} (C_is_name : Cal P w K mg base 1 "is_name" ["value"] sp_is_name)
    (m_tuple : mg "tuple" = none)
    (pure : ∀ vs H Q E, sp vs H Q E → t_led_terms P w K sp_is_name  { nx := fun _ H' => Q .non H', rt := Q } (start N_led_terms vs) H) :
    Cal P w K mg base (1 + 1) "led_terms" ["terms", "led"] sp := by
  refine ⟨f, fd, gF, F.kp, F.bindsN fun _ _ _ _ _ _ us hl => match us, hl with | [_, _], _ => rfl, F.ok sc_led_terms len (fun cdv A outer s H vs Q E hr h => ⟨t_led_terms P w K sp_is_name , PSs.nox ?_, pure vs H Q E h⟩)⟩
  exact (pss_one (ps_ret (pe_callTy call_tupU rfl m_tuple (by decide +kernel) (pa_cons (pe_lc (own := [("term", 2)]) (tt := tYes) rfl sc_led_terms.nd (pi_tup (pv 0)) (blkOk_by (N := N_led_terms) (sc := defScope s_led_terms) (by decide +kernel)) (fun _ _ _ _ _ => (pg_name (i := 2) sc_led_terms.nd rfl (Or.inl rfl))) (fun _ _ _ _ _ => pts_nil) (fun _ _ _ _ _ => (pe_ifExp (pt_val (pe_cal C_is_name (hr.mono (by decide)) rfl (pa_cons (pv 2) pa_nil))) (pe_dget (hu_of hr) (pv 1) (pv 2) (fun _ _ => rfl)) (pv 2)))) pa_nil))))
theorem ok_led_atoms  {sp : Sp} (len : ∀ vs H Q E, sp vs H Q E → vs.length = 2)
    (F : FunD K "led_atoms" "led_atoms" (defArgs s_led_atoms) (defBody s_led_atoms) (defScope s_led_atoms) [] [] f fd)
    (gF : mg "led_atoms" = some (.ref f))
    {sp_led_terms : Sp} (C_led_terms : Cal P w K mg base 2 "led_terms" ["terms", "led"] sp_led_terms)
    (pure : ∀ vs H Q E, sp vs H Q E → t_led_atoms P w K sp_led_terms  { nx := fun _ H' => Q .non H', rt := Q } (start N_led_atoms vs) H) :
    Cal P w K mg base (2 + 1) "led_atoms" ["question", "led"] sp := by
  refine ⟨f, fd, gF, F.kp, F.bindsN fun _ _ _ _ _ _ us hl => match us, hl with | [_, _], _ => rfl, F.ok sc_led_atoms len (fun cdv A outer s H vs Q E hr h => ⟨t_led_atoms P w K sp_led_terms , PSs.nox ?_, pure vs H Q E h⟩)⟩
  exact (pss_one (ps_ret (pe_lc (own := [("table", 2), ("terms", 3)]) (tt := tYes) rfl sc_led_atoms.nd (pi_tup (pe_ix ix_seq (pv 0) pe_int (fun _ _ => rfl))) (blkOk_by (N := N_led_atoms) (sc := defScope s_led_atoms) (by decide +kernel)) (fun _ _ _ _ _ => (pg_tup rfl (pgs_cons (pg_name (i := 2) sc_led_atoms.nd rfl (Or.inl rfl)) (pgs_cons (pg_name (i := 3) sc_led_atoms.nd rfl (Or.inl rfl)) pgs_nil)))) (fun _ _ _ _ _ => pts_nil) (fun _ _ _ _ _ => (pe_tup (pa_cons (pv 2) (pa_cons (pe_cal C_led_terms (hr.mono (by decide)) rfl (pa_cons (pv 3) (pa_cons (pv 1) pa_nil))) pa_nil)))))))
theorem ok_want_question  {sp : Sp} (len : ∀ vs H Q E, sp vs H Q E → vs.length = 1)
    (F : FunD K "want_question" "want_question" (defArgs s_want_question) (defBody s_want_question) (defScope s_want_question) [] [] f fd)
    (gF : mg "want_question" = some (.ref f))
    {sp_is_question_of : Sp} (C_is_question_of : Cal P w K mg base 5 "is_question_of" ["value"] sp_is_question_of)
    (pure : ∀ vs H Q E, sp vs H Q E → t_want_question P w K sp_is_question_of  { nx := fun _ H' => Q .non H', rt := Q } (start N_want_question vs) H) :
    Cal P w K mg base (5 + 1) "want_question" ["value"] sp := by
  refine ⟨f, fd, gF, F.kp, F.bindsN fun _ _ _ _ _ _ us hl => match us, hl with | [_], _ => rfl, F.ok sc_want_question len (fun cdv A outer s H vs Q E hr h => ⟨t_want_question P w K sp_is_question_of , PSs.nox ?_, pure vs H Q E h⟩)⟩
  exact (pss_cons (ps_if (pt_not (pt_val (pe_cal C_is_question_of (hr.mono (by decide)) rfl (pa_cons (pv 0) pa_nil)))) (pss_one ps_never) pss_nil) (pss_one (ps_ret (pv 0))))
theorem ok_want_union  {sp : Sp} (len : ∀ vs H Q E, sp vs H Q E → vs.length = 1)
    (F : FunD K "want_union" "want_union" (defArgs s_want_union) (defBody s_want_union) (defScope s_want_union) [] [] f fd)
    (gF : mg "want_union" = some (.ref f))
    {sp_is_question_of : Sp} (C_is_question_of : Cal P w K mg base 5 "is_question_of" ["value"] sp_is_question_of)
    {sp_is_union_of : Sp} (C_is_union_of : Cal P w K mg base 2 "is_union_of" ["value"] sp_is_union_of)
    (pure : ∀ vs H Q E, sp vs H Q E → t_want_union P w K sp_is_question_of sp_is_union_of  { nx := fun _ H' => Q .non H', rt := Q } (start N_want_union vs) H) :
    Cal P w K mg base (5 + 1) "want_union" ["value"] sp := by
  refine ⟨f, fd, gF, F.kp, F.bindsN fun _ _ _ _ _ _ us hl => match us, hl with | [_], _ => rfl, F.ok sc_want_union len (fun cdv A outer s H vs Q E hr h => ⟨t_want_union P w K sp_is_question_of sp_is_union_of , PSs.nox ?_, pure vs H Q E h⟩)⟩
  exact (pss_cons (ps_if (PW.pt (pw_and (pt_not (pt_val (pe_cal C_is_union_of (hr.mono (by decide)) rfl (pa_cons (pv 0) pa_nil)))) (pw_and1 (pt_not (pt_val (pe_cal C_is_question_of (hr.mono (by decide)) rfl (pa_cons (pv 0) pa_nil))))))) (pss_one ps_never) pss_nil) (pss_one (ps_ret (pv 0))))
theorem ok_want_alike  {sp : Sp} (len : ∀ vs H Q E, sp vs H Q E → vs.length = 2)
    (F : FunD K "want_alike" "want_alike" (defArgs s_want_alike) (defBody s_want_alike) (defScope s_want_alike) [] [] f fd)
    (gF : mg "want_alike" = some (.ref f))
    {sp_atoms_in : Sp} (C_atoms_in : Cal P w K mg base 1 "atoms_in" ["members"] sp_atoms_in)
    {sp_head_length : Sp} (C_head_length : Cal P w K mg base 2 "head_length" ["union"] sp_head_length)
    {sp_members_of : Sp} (C_members_of : Cal P w K mg base 1 "members_of" ["union"] sp_members_of)
    {sp_unlike_table : Sp} (C_unlike_table : Cal P w K mg base 1 "unlike_table" ["atoms"] sp_unlike_table)
    (pure : ∀ vs H Q E, sp vs H Q E → t_want_alike P w K sp_atoms_in sp_head_length sp_members_of sp_unlike_table  { nx := fun _ H' => Q .non H', rt := Q } (start N_want_alike vs) H) :
    Cal P w K mg base (2 + 1) "want_alike" ["union", "other"] sp := by
  refine ⟨f, fd, gF, F.kp, F.bindsN fun _ _ _ _ _ _ us hl => match us, hl with | [_, _], _ => rfl, F.ok sc_want_alike len (fun cdv A outer s H vs Q E hr h => ⟨t_want_alike P w K sp_atoms_in sp_head_length sp_members_of sp_unlike_table , PSs.nox ?_, pure vs H Q E h⟩)⟩
  exact (pss_cons (ps_if (pt_cmpR (op_uNe hr.units) (pe_cal C_head_length (hr.mono (by decide)) rfl (pa_cons (pv 0) pa_nil)) (pe_cal C_head_length (hr.mono (by decide)) rfl (pa_cons (pv 1) pa_nil)) (nomark _)) (pss_one ps_never) pss_nil) (pss_cons (ps_set (i := 2) sc_want_alike.nd rfl (Or.inl rfl) (pe_cal C_unlike_table (hr.mono (by decide)) rfl (pa_cons (pe_cal C_atoms_in (hr.mono (by decide)) rfl (pa_cons (pe_op op_catT (pe_cal C_members_of (hr.mono (by decide)) rfl (pa_cons (pv 0) pa_nil)) (pe_cal C_members_of (hr.mono (by decide)) rfl (pa_cons (pv 1) pa_nil))) pa_nil)) pa_nil))) (pss_one (ps_if (pt_cmp (pc_notN (pv 2))) (pss_one ps_never) pss_nil))))
theorem ok_want_two  {sp : Sp} (len : ∀ vs H Q E, sp vs H Q E → vs.length = 2)
    (F : FunD K "want_two" "want_two" (defArgs s_want_two) (defBody s_want_two) (defScope s_want_two) [] [] f fd)
    (gF : mg "want_two" = some (.ref f))
    {sp_want_alike : Sp} (C_want_alike : Cal P w K mg base 3 "want_alike" ["union", "other"] sp_want_alike)
    {sp_want_union : Sp} (C_want_union : Cal P w K mg base 6 "want_union" ["value"] sp_want_union)
    (pure : ∀ vs H Q E, sp vs H Q E → t_want_two P w K sp_want_alike sp_want_union  { nx := fun _ H' => Q .non H', rt := Q } (start N_want_two vs) H) :
    Cal P w K mg base (6 + 1) "want_two" ["union", "other"] sp := by
  refine ⟨f, fd, gF, F.kp, F.bindsN fun _ _ _ _ _ _ us hl => match us, hl with | [_, _], _ => rfl, F.ok sc_want_two len (fun cdv A outer s H vs Q E hr h => ⟨t_want_two P w K sp_want_alike sp_want_union , PSs.nox ?_, pure vs H Q E h⟩)⟩
  exact (pss_cons (ps_expr (pe_cal C_want_union (hr.mono (by decide)) rfl (pa_cons (pv 0) pa_nil))) (pss_one (ps_expr (pe_cal C_want_alike (hr.mono (by decide)) rfl (pa_cons (pv 0) (pa_cons (pe_cal C_want_union (hr.mono (by decide)) rfl (pa_cons (pv 1) pa_nil)) pa_nil))))))
theorem ok_agreed  {sp : Sp} (len : ∀ vs H Q E, sp vs H Q E → vs.length = 3)
    (F : FunD K "agreed" "agreed" (defArgs s_agreed) (defBody s_agreed) (defScope s_agreed) [] [] f fd)
    (gF : mg "agreed" = some (.ref f))
    {sp_is_name : Sp} (C_is_name : Cal P w K mg base 1 "is_name" ["value"] sp_is_name)
    (m_dict : mg "dict" = none)
    (m_zip : mg "zip" = none)
    (pure : ∀ vs H Q E, sp vs H Q E → t_agreed P w K sp_is_name  { nx := fun _ H' => Q .non H', rt := Q } (start N_agreed vs) H) :
    Cal P w K mg base (1 + 1) "agreed" ["terms", "goal", "led"] sp := by
  refine ⟨f, fd, gF, F.kp, F.bindsN fun _ _ _ _ _ _ us hl => match us, hl with | [_, _, _], _ => rfl, F.ok sc_agreed len (fun cdv A outer s H vs Q E hr h => ⟨t_agreed P w K sp_is_name , PSs.nox ?_, pure vs H Q E h⟩)⟩
  exact (pss_cons (ps_set (i := 3) sc_agreed.nd rfl (Or.inl rfl) (pe_callTy cr_dictD rfl m_dict (by decide +kernel) (pa_cons (pv 2) pa_nil))) (pss_cons (ps_for PassesOwn.never rfl (RZ.pi_zipA rfl m_zip (pa_cons (pv 0) (pa_cons (pv 1) pa_nil))) (pg_tup rfl (pgs_cons (pg_name (i := 4) sc_agreed.nd rfl (Or.inl rfl)) (pgs_cons (pg_name (i := 5) sc_agreed.nd rfl (Or.inl rfl)) pgs_nil))) (pss_one (ps_if (pt_not (pt_val (pe_cal C_is_name (hr.mono (by decide)) rfl (pa_cons (pv 4) pa_nil)))) (pss_one ps_never) (pss_one (ps_if (pt_cmpR (op_uNe hr.units) (pe_dsetd (pv 3) (pv 4) (pv 5) ⟨rfl, rfl, rfl, rfl⟩) (pv 5) (nomark _)) (pss_one (ps_ret pe_non)) pss_nil))))) (pss_one (ps_ret (pv 3)))))
theorem ok_led_into {n : Nat} {sp : Sp} (len : ∀ vs H Q E, sp vs H Q E → vs.length = 3)
    (F : FunD K "led_into" "led_into" (defArgs s_led_into) (defBody s_led_into) (defScope s_led_into) [] [] f fd)
    (gF : mg "led_into" = some (.ref f))
    {sp_agreed : Sp} (C_agreed : Cal P w K mg base n "agreed" ["terms", "goal", "led"] sp_agreed)
    {sp_led_into : Sp} (C_led_into : Cal P w K mg base n "led_into" ["atoms", "goals", "led"] sp_led_into)
    (pure : ∀ vs H Q E, sp vs H Q E → t_led_into P w K sp_agreed sp_led_into  { nx := fun _ H' => Q .non H', rt := Q } (start N_led_into vs) H) :
    Cal P w K mg base (n + 1) "led_into" ["atoms", "goals", "led"] sp := by
  refine ⟨f, fd, gF, F.kp, F.bindsN fun _ _ _ _ _ _ us hl => match us, hl with | [_, _, _], _ => rfl, F.ok sc_led_into len (fun cdv A outer s H vs Q E hr h => ⟨t_led_into P w K sp_agreed sp_led_into , PSs.nox ?_, pure vs H Q E h⟩)⟩
  exact (pss_cons (ps_if (pt_cmpR (op_uEq hr.units) (pv 0) (pe_lst pa_nil) (nomark _)) (pss_one (ps_ret (pv 2))) pss_nil) (pss_cons (ps_asg (pe_ix ix_seq (pv 0) pe_int (fun _ _ => rfl)) (pg_tup rfl (pgs_cons (pg_name (i := 3) sc_led_into.nd rfl (Or.inl rfl)) (pgs_cons (pg_name (i := 4) sc_led_into.nd rfl (Or.inl rfl)) pgs_nil)))) (pss_cons (ps_for PassesOwn.never rfl (pi_list (pv 1)) (pg_tup rfl (pgs_cons (pg_name (i := 5) sc_led_into.nd rfl (Or.inl rfl)) (pgs_cons (pg_name (i := 6) sc_led_into.nd rfl (Or.inl rfl)) pgs_nil))) (pss_one (ps_if (pt_cmpR (op_uEq hr.units) (pv 5) (pv 3) (nomark _)) (pss_cons (ps_set (i := 7) sc_led_into.nd rfl (Or.inl rfl) (pe_cal C_agreed hr rfl (pa_cons (pv 4) (pa_cons (pv 6) (pa_cons (pv 2) pa_nil))))) (pss_cons (ps_set (i := 8) sc_led_into.nd rfl (Or.inl rfl) (pe_ifExp (pt_cmp (pc_notN (pv 7))) (pe_cal C_led_into hr rfl (pa_cons (pe_slice sl_list (pv 0) (po_some pe_int) po_none) (pa_cons (pv 1) (pa_cons (pv 7) pa_nil)))) pe_non)) (pss_one (ps_if (pt_cmp (pc_notN (pv 8))) (pss_one (ps_ret (pv 8))) pss_nil)))) pss_nil))) (pss_one (ps_ret pe_non)))))
theorem ok_map_into  {sp : Sp} (len : ∀ vs H Q E, sp vs H Q E → vs.length = 3)
    (F : FunD K "map_into" "map_into" (defArgs s_map_into) (defBody s_map_into) (defScope s_map_into) [] [] f fd)
    (gF : mg "map_into" = some (.ref f))
    {sp_agreed : Sp} (C_agreed : Cal P w K mg base 2 "agreed" ["terms", "goal", "led"] sp_agreed)
    {sp_led_into : Sp} (C_led_into : Cal P w K mg base 10 "led_into" ["atoms", "goals", "led"] sp_led_into)
    (m_list : mg "list" = none)
    (pure : ∀ vs H Q E, sp vs H Q E → t_map_into P w K sp_agreed sp_led_into  { nx := fun _ H' => Q .non H', rt := Q } (start N_map_into vs) H) :
    Cal P w K mg base (10 + 1) "map_into" ["question", "goals", "head"] sp := by
  refine ⟨f, fd, gF, F.kp, F.bindsN fun _ _ _ _ _ _ us hl => match us, hl with | [_, _, _], _ => rfl, F.ok sc_map_into len (fun cdv A outer s H vs Q E hr h => ⟨t_map_into P w K sp_agreed sp_led_into , PSs.nox ?_, pure vs H Q E h⟩)⟩
  exact (pss_cons (ps_set (i := 3) sc_map_into.nd rfl (Or.inl rfl) (pe_cal C_agreed (hr.mono (by decide)) rfl (pa_cons (pe_ix ix_seq (pv 0) pe_int (fun _ _ => rfl)) (pa_cons (pv 2) (pa_cons pe_dnewK pa_nil))))) (pss_one (ps_ret (pe_ifExp (pt_cmp (pc_isN (pv 3))) pe_non (pe_cal C_led_into (hr.mono (by decide)) rfl (pa_cons (pe_callTy call_listU rfl m_list (by decide +kernel) (pa_cons (pe_ix ix_seq (pv 0) pe_int (fun _ _ => rfl)) pa_nil)) (pa_cons (pv 1) (pa_cons (pv 3) pa_nil))))))))
theorem ok_map_using  {sp : Sp} (len : ∀ vs H Q E, sp vs H Q E → vs.length = 4)
    (F : FunD K "map_using" "map_using" (defArgs s_map_using) (defBody s_map_using) (defScope s_map_using) [] [] f fd)
    (gF : mg "map_using" = some (.ref f))
    {sp_agreed : Sp} (C_agreed : Cal P w K mg base 2 "agreed" ["terms", "goal", "led"] sp_agreed)
    {sp_led_into : Sp} (C_led_into : Cal P w K mg base 10 "led_into" ["atoms", "goals", "led"] sp_led_into)
    (m_enumerate : mg "enumerate" = none)
    (pure : ∀ vs H Q E, sp vs H Q E → t_map_using P w K sp_agreed sp_led_into  { nx := fun _ H' => Q .non H', rt := Q } (start N_map_using vs) H) :
    Cal P w K mg base (10 + 1) "map_using" ["question", "goals", "head", "goal"] sp := by
  refine ⟨f, fd, gF, F.kp, F.bindsN fun _ _ _ _ _ _ us hl => match us, hl with | [_, _, _, _], _ => rfl, F.ok sc_map_using len (fun cdv A outer s H vs Q E hr h => ⟨t_map_using P w K sp_agreed sp_led_into , PSs.nox ?_, pure vs H Q E h⟩)⟩
  exact (pss_cons (ps_set (i := 4) sc_map_using.nd rfl (Or.inl rfl) (pe_cal C_agreed (hr.mono (by decide)) rfl (pa_cons (pe_ix ix_seq (pv 0) pe_int (fun _ _ => rfl)) (pa_cons (pv 2) (pa_cons pe_dnewK pa_nil))))) (pss_cons (ps_if (pt_cmp (pc_isN (pv 4))) (pss_one (ps_ret pe_non)) pss_nil) (pss_cons (ps_for PassesOwn.never rfl (pi_enumU rfl m_enumerate (pa_cons (pe_ix ix_seq (pv 0) pe_int (fun _ _ => rfl)) pa_nil)) (pg_tup rfl (pgs_cons (pg_name (i := 5) sc_map_using.nd rfl (Or.inr rfl)) (pgs_cons (pg_tup rfl (pgs_cons (pg_name (i := 7) sc_map_using.nd rfl (Or.inl rfl)) (pgs_cons (pg_name (i := 8) sc_map_using.nd rfl (Or.inl rfl)) pgs_nil))) pgs_nil))) (pss_cons (ps_set (i := 6) sc_map_using.nd rfl (Or.inl rfl) (pe_ifExp (pt_cmpR (op_uEq hr.units) (pv 7) (pe_ix ix_seq (pv 3) pe_int (fun _ _ => rfl)) (nomark _)) (pe_cal C_agreed (hr.mono (by decide)) rfl (pa_cons (pv 8) (pa_cons (pe_ix ix_seq (pv 3) pe_int (fun _ _ => rfl)) (pa_cons (pv 4) pa_nil)))) pe_non)) (pss_one (ps_if (pt_cmp (pc_notN (pv 6))) (pss_cons (ps_set (i := 9) sc_map_using.nd rfl (Or.inl rfl) (pe_cal C_led_into (hr.mono (by decide)) rfl (pa_cons (pe_lc (own := [("place", 10), ("atom", 11)]) (tt := (tTest (tOp (uNe K) (tVar 10) (tVar 5)))) rfl sc_map_using.nd (pi_enumU rfl m_enumerate (pa_cons (pe_ix ix_seq (pv 0) pe_int (fun _ _ => rfl)) pa_nil)) (blkOk_by (N := N_map_using) (sc := defScope s_map_using) (by decide +kernel)) (fun _ _ _ _ _ => (pg_tup rfl (pgs_cons (pg_name (i := 10) sc_map_using.nd rfl (Or.inl rfl)) (pgs_cons (pg_name (i := 11) sc_map_using.nd rfl (Or.inl rfl)) pgs_nil)))) (fun _ _ _ _ _ => (pts_one (pt_cmpR (op_uNe hr.units) (pv 10) (pv 5) (nomark _)))) (fun _ _ _ _ _ => (pv 11))) (pa_cons (pv 1) (pa_cons (pv 6) pa_nil))))) (pss_one (ps_if (pt_cmp (pc_notN (pv 9))) (pss_one (ps_ret (pv 9))) pss_nil))) pss_nil)))) (pss_one (ps_ret pe_non)))))
theorem ok_told_map  {sp : Sp} (len : ∀ vs H Q E, sp vs H Q E → vs.length = 1)
    (F : FunD K "told_map" "told_map" (defArgs s_told_map) (defBody s_told_map) (defScope s_told_map) [] [] f fd)
    (gF : mg "told_map" = some (.ref f))
    (m_sorted : mg "sorted" = none)
    (m_tuple : mg "tuple" = none)
    (pure : ∀ vs H Q E, sp vs H Q E → t_told_map P w K   { nx := fun _ H' => Q .non H', rt := Q } (start N_told_map vs) H) :
    Cal P w K mg base (0 + 1) "told_map" ["led"] sp := by
  refine ⟨f, fd, gF, F.kp, F.bindsN fun _ _ _ _ _ _ us hl => match us, hl with | [_], _ => rfl, F.ok sc_told_map len (fun cdv A outer s H vs Q E hr h => ⟨t_told_map P w K  , PSs.nox ?_, pure vs H Q E h⟩)⟩
  exact (pss_one (ps_ret (pe_callTy call_tupU rfl m_tuple (by decide +kernel) (pa_cons (pe_callB (cr_sortedItemsS rfl hr.units) rfl m_sorted (by decide +kernel) (pa_cons (pe_bm0 PySem.F.plainAttrs_dict PySem.F.slot_dict_items PySem.F.type_dict_items mt_itemsK (pv 0)) pa_nil)) pa_nil))))
theorem ok_part_of  {sp : Sp} (len : ∀ vs H Q E, sp vs H Q E → vs.length = 2)
    (F : FunD K "part_of" "part_of" (defArgs s_part_of) (defBody s_part_of) (defScope s_part_of) [] [] f fd)
    (gF : mg "part_of" = some (.ref f))
    {sp_is_question_of : Sp} (C_is_question_of : Cal P w K mg base 5 "is_question_of" ["value"] sp_is_question_of)
    (m_tuple : mg "tuple" = none)
    (pure : ∀ vs H Q E, sp vs H Q E → t_part_of P w K sp_is_question_of  { nx := fun _ H' => Q .non H', rt := Q } (start N_part_of vs) H) :
    Cal P w K mg base (5 + 1) "part_of" ["question", "left"] sp := by
  refine ⟨f, fd, gF, F.kp, F.bindsN fun _ _ _ _ _ _ us hl => match us, hl with | [_, _], _ => rfl, F.ok sc_part_of len (fun cdv A outer s H vs Q E hr h => ⟨t_part_of P w K sp_is_question_of , PSs.nox ?_, pure vs H Q E h⟩)⟩
  exact (pss_cons (ps_set (i := 2) sc_part_of.nd rfl (Or.inl rfl) (pe_tup (pa_cons (pe_ix ix_seq (pv 0) pe_int (fun _ _ => rfl)) (pa_cons (pe_ix ix_seq (pv 0) pe_int (fun _ _ => rfl)) (pa_cons (pe_callTy call_tupU rfl m_tuple (by decide +kernel) (pa_cons (pe_lc (own := [("at", 3)]) (tt := tYes) rfl sc_part_of.nd (pi_list (pv 1)) (blkOk_by (N := N_part_of) (sc := defScope s_part_of) (by decide +kernel)) (fun _ _ _ _ _ => (pg_name (i := 3) sc_part_of.nd rfl (Or.inl rfl))) (fun _ _ _ _ _ => pts_nil) (fun _ _ _ _ _ => (pe_ix ix_seq (pe_ix ix_seq (pv 0) pe_int (fun _ _ => rfl)) (pv 3) (fun _ _ => rfl)))) pa_nil)) pa_nil))))) (pss_one (ps_ret (pe_ifExp (pt_val (pe_cal C_is_question_of (hr.mono (by decide)) rfl (pa_cons (pv 2) pa_nil))) (pv 2) pe_non))))
theorem ok_fold_of  {sp : Sp} (len : ∀ vs H Q E, sp vs H Q E → vs.length = 1)
    (F : FunD K "fold_of" "fold_of" (defArgs s_fold_of) (defBody s_fold_of) (defScope s_fold_of) [] [] f fd)
    (gF : mg "fold_of" = some (.ref f))
    {sp_map_into : Sp} (C_map_into : Cal P w K mg base 11 "map_into" ["question", "goals", "head"] sp_map_into)
    {sp_unlike_ones : Sp} (C_unlike_ones : Cal P w K mg base 1 "unlike_ones" ["items"] sp_unlike_ones)
    (pure : ∀ vs H Q E, sp vs H Q E → t_fold_of P w K sp_map_into sp_unlike_ones  { nx := fun _ H' => Q .non H', rt := Q } (start N_fold_of vs) H) :
    Cal P w K mg base (11 + 1) "fold_of" ["question"] sp := by
  refine ⟨f, fd, gF, F.kp, F.bindsN fun _ _ _ _ _ _ us hl => match us, hl with | [_], _ => rfl, F.ok sc_fold_of len (fun cdv A outer s H vs Q E hr h => ⟨t_fold_of P w K sp_map_into sp_unlike_ones , PSs.nox ?_, pure vs H Q E h⟩)⟩
  exact (pss_cons (ps_set (i := 1) sc_fold_of.nd rfl (Or.inl rfl) (pe_cal C_unlike_ones (hr.mono (by decide)) rfl (pa_cons (pe_ix ix_seq (pv 0) pe_int (fun _ _ => rfl)) pa_nil))) (pss_cons (ps_for PassesOwn.never rfl (pi_list (pv 1)) (pg_name (i := 2) sc_fold_of.nd rfl (Or.inr rfl)) (pss_cons (ps_set (i := 3) sc_fold_of.nd rfl (Or.inl rfl) (pe_cal C_map_into (hr.mono (by decide)) rfl (pa_cons (pv 0) (pa_cons (pe_lc (own := [("atom", 4)]) (tt := (tTest (tOp (uNe K) (tVar 4) (tVar 2)))) rfl sc_fold_of.nd (pi_list (pv 1)) (blkOk_by (N := N_fold_of) (sc := defScope s_fold_of) (by decide +kernel)) (fun _ _ _ _ _ => (pg_name (i := 4) sc_fold_of.nd rfl (Or.inl rfl))) (fun _ _ _ _ _ => (pts_one (pt_cmpR (op_uNe hr.units) (pv 4) (pv 2) (nomark _)))) (fun _ _ _ _ _ => (pv 4))) (pa_cons (pe_ix ix_seq (pv 0) pe_int (fun _ _ => rfl)) pa_nil))))) (pss_one (ps_if (pt_cmp (pc_notN (pv 3))) (pss_one (ps_ret (pv 3))) pss_nil)))) (pss_one (ps_ret pe_non))))
theorem ok_core_of  {sp : Sp} (len : ∀ vs H Q E, sp vs H Q E → vs.length = 1)
    (F : FunD K "core_of" "core_of" (defArgs s_core_of) (defBody s_core_of) (defScope s_core_of) [] [] f fd)
    (gF : mg "core_of" = some (.ref f))
    {sp_fold_of : Sp} (C_fold_of : Cal P w K mg base 12 "fold_of" ["question"] sp_fold_of)
    {sp_led_atoms : Sp} (C_led_atoms : Cal P w K mg base 3 "led_atoms" ["question", "led"] sp_led_atoms)
    {sp_part_of : Sp} (C_part_of : Cal P w K mg base 6 "part_of" ["question", "left"] sp_part_of)
    {sp_unlike_ones : Sp} (C_unlike_ones : Cal P w K mg base 1 "unlike_ones" ["items"] sp_unlike_ones)
    (m_enumerate : mg "enumerate" = none)
    (m_tuple : mg "tuple" = none)
    (pure : ∀ vs H Q E, sp vs H Q E → t_core_of P w K sp_fold_of sp_led_atoms sp_part_of sp_unlike_ones  { nx := fun _ H' => Q .non H', rt := Q } (start N_core_of vs) H) :
    Cal P w K mg base (12 + 1) "core_of" ["question"] sp := by
  refine ⟨f, fd, gF, F.kp, F.bindsN fun _ _ _ _ _ _ us hl => match us, hl with | [_], _ => rfl, F.ok sc_core_of len (fun cdv A outer s H vs Q E hr h => ⟨t_core_of P w K sp_fold_of sp_led_atoms sp_part_of sp_unlike_ones , PSs.nox ?_, pure vs H Q E h⟩)⟩
  exact (pss_cons (ps_set (i := 1) sc_core_of.nd rfl (Or.inl rfl) (pe_cal C_fold_of (hr.mono (by decide)) rfl (pa_cons (pv 0) pa_nil))) (pss_cons (ps_while PassesOwn.never (pt_cmp (pc_notN (pv 1))) (pss_cons (ps_set (i := 2) sc_core_of.nd rfl (Or.inr rfl) (pe_cal C_led_atoms (hr.mono (by decide)) rfl (pa_cons (pv 0) (pa_cons (pv 1) pa_nil)))) (pss_cons (ps_set (i := 0) sc_core_of.nd rfl (Or.inl rfl) (pe_cal C_part_of (hr.mono (by decide)) rfl (pa_cons (pv 0) (pa_cons (pe_lc (own := [("at", 3), ("atom", 4)]) (tt := (tTest (tOp (uIn K) (tVar 4) (tVar 2)))) rfl sc_core_of.nd (pi_enumU rfl m_enumerate (pa_cons (pe_ix ix_seq (pv 0) pe_int (fun _ _ => rfl)) pa_nil)) (blkOk_by (N := N_core_of) (sc := defScope s_core_of) (by decide +kernel)) (fun _ _ _ _ _ => (pg_tup rfl (pgs_cons (pg_name (i := 3) sc_core_of.nd rfl (Or.inl rfl)) (pgs_cons (pg_name (i := 4) sc_core_of.nd rfl (Or.inl rfl)) pgs_nil)))) (fun _ _ _ _ _ => (pts_one (pt_cmpR (op_uIn hr.units) (pv 4) (pv 2) (by with_unfolding_all rfl)))) (fun _ _ _ _ _ => (pv 3))) pa_nil)))) (pss_one (ps_set (i := 1) sc_core_of.nd rfl (Or.inl rfl) (pe_cal C_fold_of (hr.mono (by decide)) rfl (pa_cons (pv 0) pa_nil))))))) (pss_one (ps_ret (pe_tup (pa_cons (pe_ix ix_seq (pv 0) pe_int (fun _ _ => rfl)) (pa_cons (pe_ix ix_seq (pv 0) pe_int (fun _ _ => rfl)) (pa_cons (pe_callTy call_tupU rfl m_tuple (by decide +kernel) (pa_cons (pe_cal C_unlike_ones (hr.mono (by decide)) rfl (pa_cons (pe_ix ix_seq (pv 0) pe_int (fun _ _ => rfl)) pa_nil)) pa_nil)) pa_nil))))))))
theorem ok_is_core  {sp : Sp} (len : ∀ vs H Q E, sp vs H Q E → vs.length = 1)
    (F : FunD K "is_core" "is_core" (defArgs s_is_core) (defBody s_is_core) (defScope s_is_core) [] [] f fd)
    (gF : mg "is_core" = some (.ref f))
    {sp_fold_of : Sp} (C_fold_of : Cal P w K mg base 12 "fold_of" ["question"] sp_fold_of)
    {sp_unlike_ones : Sp} (C_unlike_ones : Cal P w K mg base 1 "unlike_ones" ["items"] sp_unlike_ones)
    {sp_want_question : Sp} (C_want_question : Cal P w K mg base 6 "want_question" ["value"] sp_want_question)
    (m_len : mg "len" = none)
    (pure : ∀ vs H Q E, sp vs H Q E → t_is_core P w K sp_fold_of sp_unlike_ones sp_want_question  { nx := fun _ H' => Q .non H', rt := Q } (start N_is_core vs) H) :
    Cal P w K mg base (12 + 1) "is_core" ["question"] sp := by
  refine ⟨f, fd, gF, F.kp, F.bindsN fun _ _ _ _ _ _ us hl => match us, hl with | [_], _ => rfl, F.ok sc_is_core len (fun cdv A outer s H vs Q E hr h => ⟨t_is_core P w K sp_fold_of sp_unlike_ones sp_want_question , PSs.nox ?_, pure vs H Q E h⟩)⟩
  exact (pss_cons (ps_expr (pe_cal C_want_question (hr.mono (by decide)) rfl (pa_cons (pv 0) pa_nil))) (pss_one (ps_ret (pe_and (pe_cmp (pc_isN (pe_cal C_fold_of (hr.mono (by decide)) rfl (pa_cons (pv 0) pa_nil)))) (pe_one (pe_cmpR (op_uEq hr.units) (pe_callB call_lenU rfl m_len (by decide +kernel) (pa_cons (pe_cal C_unlike_ones (hr.mono (by decide)) rfl (pa_cons (pe_ix ix_seq (pv 0) pe_int (fun _ _ => rfl)) pa_nil)) pa_nil)) (pe_callB call_lenU rfl m_len (by decide +kernel) (pa_cons (pe_ix ix_seq (pv 0) pe_int (fun _ _ => rfl)) pa_nil)) (nomark _)))))))
theorem ok_core  {sp : Sp} (len : ∀ vs H Q E, sp vs H Q E → vs.length = 1)
    (F : FunD K "core" "core" (defArgs s_core) (defBody s_core) (defScope s_core) [] [] f fd)
    (gF : mg "core" = some (.ref f))
    {sp_core_of : Sp} (C_core_of : Cal P w K mg base 13 "core_of" ["question"] sp_core_of)
    {sp_want_question : Sp} (C_want_question : Cal P w K mg base 6 "want_question" ["value"] sp_want_question)
    (pure : ∀ vs H Q E, sp vs H Q E → t_core P w K sp_core_of sp_want_question  { nx := fun _ H' => Q .non H', rt := Q } (start N_core vs) H) :
    Cal P w K mg base (13 + 1) "core" ["question"] sp := by
  refine ⟨f, fd, gF, F.kp, F.bindsN fun _ _ _ _ _ _ us hl => match us, hl with | [_], _ => rfl, F.ok sc_core len (fun cdv A outer s H vs Q E hr h => ⟨t_core P w K sp_core_of sp_want_question , PSs.nox ?_, pure vs H Q E h⟩)⟩
  exact (pss_one (ps_ret (pe_cal C_core_of (hr.mono (by decide)) rfl (pa_cons (pe_cal C_want_question (hr.mono (by decide)) rfl (pa_cons (pv 0) pa_nil)) pa_nil))))
theorem ok_term_key  {sp : Sp} (len : ∀ vs H Q E, sp vs H Q E → vs.length = 1)
    (F : FunD K "term_key" "term_key" (defArgs s_term_key) (defBody s_term_key) (defScope s_term_key) [] [] f fd)
    (gF : mg "term_key" = some (.ref f))
    {sp_is_name : Sp} (C_is_name : Cal P w K mg base 1 "is_name" ["value"] sp_is_name)
    (pure : ∀ vs H Q E, sp vs H Q E → t_term_key P w K sp_is_name  { nx := fun _ H' => Q .non H', rt := Q } (start N_term_key vs) H) :
    Cal P w K mg base (1 + 1) "term_key" ["term"] sp := by
  refine ⟨f, fd, gF, F.kp, F.bindsN fun _ _ _ _ _ _ us hl => match us, hl with | [_], _ => rfl, F.ok sc_term_key len (fun cdv A outer s H vs Q E hr h => ⟨t_term_key P w K sp_is_name , PSs.nox ?_, pure vs H Q E h⟩)⟩
  exact (pss_one (ps_ret (pe_ifExp (pt_val (pe_cal C_is_name (hr.mono (by decide)) rfl (pa_cons (pv 0) pa_nil))) (pe_tup (pa_cons pe_int (pa_cons pe_int (pa_cons (pv 0) pa_nil)))) pe_never)))
theorem ok_atom_key  {sp : Sp} (len : ∀ vs H Q E, sp vs H Q E → vs.length = 1)
    (F : FunD K "atom_key" "atom_key" (defArgs s_atom_key) (defBody s_atom_key) (defScope s_atom_key) [] [] f fd)
    (gF : mg "atom_key" = some (.ref f))
    {sp_term_key : Sp} (C_term_key : Cal P w K mg base 2 "term_key" ["term"] sp_term_key)
    (pure : ∀ vs H Q E, sp vs H Q E → t_atom_key P w K sp_term_key  { nx := fun _ H' => Q .non H', rt := Q } (start N_atom_key vs) H) :
    Cal P w K mg base (2 + 1) "atom_key" ["atom"] sp := by
  refine ⟨f, fd, gF, F.kp, F.bindsN fun _ _ _ _ _ _ us hl => match us, hl with | [_], _ => rfl, F.ok sc_atom_key len (fun cdv A outer s H vs Q E hr h => ⟨t_atom_key P w K sp_term_key , PSs.nox ?_, pure vs H Q E h⟩)⟩
  exact (pss_one (ps_ret (pe_tup (pa_cons (pe_ix ix_seq (pv 0) pe_int (fun _ _ => rfl)) (pa_cons (pe_lc (own := [("term", 1)]) (tt := tYes) rfl sc_atom_key.nd (pi_tup (pe_ix ix_seq (pv 0) pe_int (fun _ _ => rfl))) (blkOk_by (N := N_atom_key) (sc := defScope s_atom_key) (by decide +kernel)) (fun _ _ _ _ _ => (pg_name (i := 1) sc_atom_key.nd rfl (Or.inl rfl))) (fun _ _ _ _ _ => pts_nil) (fun _ _ _ _ _ => (pe_cal C_term_key (hr.mono (by decide)) rfl (pa_cons (pv 1) pa_nil)))) pa_nil)))))
theorem ok_question_key  {sp : Sp} (len : ∀ vs H Q E, sp vs H Q E → vs.length = 1)
    (F : FunD K "question_key" "question_key" (defArgs s_question_key) (defBody s_question_key) (defScope s_question_key) [] [] f fd)
    (gF : mg "question_key" = some (.ref f))
    {sp_atom_key : Sp} (C_atom_key : Cal P w K mg base 3 "atom_key" ["atom"] sp_atom_key)
    {sp_term_key : Sp} (C_term_key : Cal P w K mg base 2 "term_key" ["term"] sp_term_key)
    (pure : ∀ vs H Q E, sp vs H Q E → t_question_key P w K sp_atom_key sp_term_key  { nx := fun _ H' => Q .non H', rt := Q } (start N_question_key vs) H) :
    Cal P w K mg base (3 + 1) "question_key" ["question"] sp := by
  refine ⟨f, fd, gF, F.kp, F.bindsN fun _ _ _ _ _ _ us hl => match us, hl with | [_], _ => rfl, F.ok sc_question_key len (fun cdv A outer s H vs Q E hr h => ⟨t_question_key P w K sp_atom_key sp_term_key , PSs.nox ?_, pure vs H Q E h⟩)⟩
  exact (pss_one (ps_ret (pe_lst (pa_cons (pe_lc (own := [("term", 1)]) (tt := tYes) rfl sc_question_key.nd (pi_tup (pe_ix ix_seq (pv 0) pe_int (fun _ _ => rfl))) (blkOk_by (N := N_question_key) (sc := defScope s_question_key) (by decide +kernel)) (fun _ _ _ _ _ => (pg_name (i := 1) sc_question_key.nd rfl (Or.inl rfl))) (fun _ _ _ _ _ => pts_nil) (fun _ _ _ _ _ => (pe_cal C_term_key (hr.mono (by decide)) rfl (pa_cons (pv 1) pa_nil)))) (pa_cons (pe_lc (own := [("atom", 2)]) (tt := tYes) rfl sc_question_key.nd (pi_tup (pe_ix ix_seq (pv 0) pe_int (fun _ _ => rfl))) (blkOk_by (N := N_question_key) (sc := defScope s_question_key) (by decide +kernel)) (fun _ _ _ _ _ => (pg_name (i := 2) sc_question_key.nd rfl (Or.inl rfl))) (fun _ _ _ _ _ => pts_nil) (fun _ _ _ _ _ => (pe_cal C_atom_key (hr.mono (by decide)) rfl (pa_cons (pv 2) pa_nil)))) pa_nil)))))
theorem ok_with_terms  {sp : Sp} (len : ∀ vs H Q E, sp vs H Q E → vs.length = 2)
    (F : FunD K "with_terms" "with_terms" (defArgs s_with_terms) (defBody s_with_terms) (defScope s_with_terms) [] [] f fd)
    (gF : mg "with_terms" = some (.ref f))
    {sp_is_name : Sp} (C_is_name : Cal P w K mg base 1 "is_name" ["value"] sp_is_name)
    (m_dict : mg "dict" = none)
    (m_len : mg "len" = none)
    (c_LETTERS : ∃ t, mg "LETTERS" = some (.str "abcdefghijklmnopqrstuvwxyz" t))
    (pure : ∀ vs H Q E, sp vs H Q E → t_with_terms P w K sp_is_name  { nx := fun _ H' => Q .non H', rt := Q } (start N_with_terms vs) H) :
    Cal P w K mg base (1 + 1) "with_terms" ["led", "terms"] sp := by
  refine ⟨f, fd, gF, F.kp, F.bindsN fun _ _ _ _ _ _ us hl => match us, hl with | [_, _], _ => rfl, F.ok sc_with_terms len (fun cdv A outer s H vs Q E hr h => ⟨t_with_terms P w K sp_is_name , PSs.nox ?_, pure vs H Q E h⟩)⟩
  exact (pss_cons (ps_set (i := 2) sc_with_terms.nd rfl (Or.inl rfl) (pe_callTy cr_dictD rfl m_dict (by decide +kernel) (pa_cons (pv 0) pa_nil))) (pss_cons (ps_for PassesOwn.never rfl (pi_tup (pv 1)) (pg_name (i := 3) sc_with_terms.nd rfl (Or.inl rfl)) (pss_one (ps_if (PW.pt (pw_and (pt_val (pe_cal C_is_name (hr.mono (by decide)) rfl (pa_cons (pv 3) pa_nil))) (pw_and1 (pt_cmp (pc_dnotin (hu_of hr) (pv 3) (pv 2)) (by with_unfolding_all rfl))))) (pss_one (ps_dput (hu_of hr) (pv 2) (pv 3) (pe_ix ix_seq (pe_glob rfl c_LETTERS.choose_spec ⟨_, rfl⟩) (pe_callB cr_lenD rfl m_len (by decide +kernel) (pa_cons (pv 2) pa_nil)) (fun _ _ => rfl)) rfl)) pss_nil))) (pss_one (ps_ret (pv 2)))))
theorem ok_least_from {n : Nat} {sp : Sp} (len : ∀ vs H Q E, sp vs H Q E → vs.length = 3)
    (F : FunD K "least_from" "least_from" (defArgs s_least_from) (defBody s_least_from) (defScope s_least_from) [] [] f fd)
    (gF : mg "least_from" = some (.ref f))
    {sp_atom_key : Sp} (C_atom_key : Cal P w K mg base n "atom_key" ["atom"] sp_atom_key)
    {sp_least_from : Sp} (C_least_from : Cal P w K mg base n "least_from" ["told", "left", "led"] sp_least_from)
    {sp_led_terms : Sp} (C_led_terms : Cal P w K mg base n "led_terms" ["terms", "led"] sp_led_terms)
    {sp_with_terms : Sp} (C_with_terms : Cal P w K mg base n "with_terms" ["led", "terms"] sp_with_terms)
    (m_list : mg "list" = none)
    (m_min : mg "min" = none)
    (pure : ∀ vs H Q E, sp vs H Q E → t_least_from P w K sp_atom_key sp_least_from sp_led_terms sp_with_terms  { nx := fun _ H' => Q .non H', rt := Q } (start N_least_from vs) H) :
    Cal P w K mg base (n + 1) "least_from" ["told", "left", "led"] sp := by
  refine ⟨f, fd, gF, F.kp, F.bindsN fun _ _ _ _ _ _ us hl => match us, hl with | [_, _, _], _ => rfl, F.ok sc_least_from len (fun cdv A outer s H vs Q E hr h => ⟨t_least_from P w K sp_atom_key sp_least_from sp_led_terms sp_with_terms , PSs.nox ?_, pure vs H Q E h⟩)⟩
  exact (pss_cons (ps_if (pt_cmpR (op_uEq hr.units) (pv 1) (pe_lst pa_nil) (nomark _)) (pss_one (ps_ret (pv 0))) pss_nil) (pss_cons (ps_set (i := 3) sc_least_from.nd rfl (Or.inl rfl) (pe_lst pa_nil)) (pss_cons (ps_for PassesOwn.never rfl (pi_list (pv 1)) (pg_name (i := 4) sc_least_from.nd rfl (Or.inl rfl)) (pss_cons (ps_set (i := 7) sc_least_from.nd rfl (Or.inl rfl) (pe_cal C_with_terms hr rfl (pa_cons (pv 2) (pa_cons (pe_ix ix_seq (pv 4) pe_int (fun _ _ => rfl)) pa_nil)))) (pss_one (ps_expr (pe_bm PySem.F.plainAttrs_list PySem.F.slot_list_append PySem.F.type_list_append mt_append (pv 3) (pa_cons (pe_tup (pa_cons (pe_tup (pa_cons (pe_ix ix_seq (pv 4) pe_int (fun _ _ => rfl)) (pa_cons (pe_cal C_led_terms hr rfl (pa_cons (pe_ix ix_seq (pv 4) pe_int (fun _ _ => rfl)) (pa_cons (pv 7) pa_nil))) pa_nil))) (pa_cons (pv 4) (pa_cons (pv 7) pa_nil)))) pa_nil)))))) (pss_cons (ps_set (i := 5) sc_least_from.nd rfl (Or.inl rfl) (pe_callB (cr_minD rfl hr.units) rfl m_min (by decide +kernel) (pa_cons (pe_lc (own := [("spelled", 8), ("atom", 4), ("more", 7)]) (tt := tYes) rfl sc_least_from.nd (pi_list (pv 3)) (blkOk_by (N := N_least_from) (sc := defScope s_least_from) (by decide +kernel)) (fun _ _ _ _ _ => (pg_tup rfl (pgs_cons (pg_name (i := 8) sc_least_from.nd rfl (Or.inl rfl)) (pgs_cons (pg_name (i := 4) sc_least_from.nd rfl (Or.inl rfl)) (pgs_cons (pg_name (i := 7) sc_least_from.nd rfl (Or.inl rfl)) pgs_nil))))) (fun _ _ _ _ _ => pts_nil) (fun _ _ _ _ _ => (pe_cal C_atom_key hr rfl (pa_cons (pv 8) pa_nil)))) pa_nil))) (pss_cons (ps_set (i := 6) sc_least_from.nd rfl (Or.inl rfl) pe_non) (pss_cons (ps_for PassesOwn.never rfl (pi_list (pv 3)) (pg_tup rfl (pgs_cons (pg_name (i := 8) sc_least_from.nd rfl (Or.inl rfl)) (pgs_cons (pg_name (i := 4) sc_least_from.nd rfl (Or.inl rfl)) (pgs_cons (pg_name (i := 7) sc_least_from.nd rfl (Or.inl rfl)) pgs_nil)))) (pss_one (ps_if (pt_cmpR (op_uEq hr.units) (pe_cal C_atom_key hr rfl (pa_cons (pv 8) pa_nil)) (pv 5) (nomark _)) (pss_cons (ps_set (i := 9) sc_least_from.nd rfl (Or.inl rfl) (pe_callTy call_listU rfl m_list (by decide +kernel) (pa_cons (pv 1) pa_nil))) (pss_cons (ps_expr (pe_bm PySem.F.plainAttrs_list PySem.F.slot_list_remove PySem.F.type_list_remove (mt_removeD hr.units) (pv 9) (pa_cons (pv 4) pa_nil))) (pss_cons (ps_set (i := 10) sc_least_from.nd rfl (Or.inl rfl) (pe_cal C_least_from hr rfl (pa_cons (pe_op op_catU (pv 0) (pe_lst (pa_cons (pv 8) pa_nil))) (pa_cons (pv 9) (pa_cons (pv 7) pa_nil))))) (pss_one (ps_if (PW.pt (pw_or (pt_cmp (pc_isN (pv 6))) (pw_or1 (pt_cmpR (op_uLt hr.units) (pe_lc (own := [("one", 11)]) (tt := tYes) rfl sc_least_from.nd (pi_list (pv 10)) (blkOk_by (N := N_least_from) (sc := defScope s_least_from) (by decide +kernel)) (fun _ _ _ _ _ => (pg_name (i := 11) sc_least_from.nd rfl (Or.inl rfl))) (fun _ _ _ _ _ => pts_nil) (fun _ _ _ _ _ => (pe_cal C_atom_key hr rfl (pa_cons (pv 11) pa_nil)))) (pe_lc (own := [("one", 11)]) (tt := tYes) rfl sc_least_from.nd (pi_list (pv 6)) (blkOk_by (N := N_least_from) (sc := defScope s_least_from) (by decide +kernel)) (fun _ _ _ _ _ => (pg_name (i := 11) sc_least_from.nd rfl (Or.inl rfl))) (fun _ _ _ _ _ => pts_nil) (fun _ _ _ _ _ => (pe_cal C_atom_key hr rfl (pa_cons (pv 11) pa_nil)))) (nomark _))))) (pss_one (ps_set (i := 6) sc_least_from.nd rfl (Or.inl rfl) (pv 10))) pss_nil))))) pss_nil))) (pss_one (ps_ret (pv 6)))))))))
theorem ok_form_in  {sp : Sp} (len : ∀ vs H Q E, sp vs H Q E → vs.length = 1)
    (F : FunD K "form_in" "form_in" (defArgs s_form_in) (defBody s_form_in) (defScope s_form_in) [] [] f fd)
    (gF : mg "form_in" = some (.ref f))
    {sp_least_from : Sp} (C_least_from : Cal P w K mg base 12 "least_from" ["told", "left", "led"] sp_least_from)
    {sp_led_terms : Sp} (C_led_terms : Cal P w K mg base 2 "led_terms" ["terms", "led"] sp_led_terms)
    {sp_with_terms : Sp} (C_with_terms : Cal P w K mg base 2 "with_terms" ["led", "terms"] sp_with_terms)
    (m_list : mg "list" = none)
    (m_tuple : mg "tuple" = none)
    (c_ASK : ∃ t, mg "ASK" = some (.str "ask" t))
    (pure : ∀ vs H Q E, sp vs H Q E → t_form_in P w K sp_least_from sp_led_terms sp_with_terms  { nx := fun _ H' => Q .non H', rt := Q } (start N_form_in vs) H) :
    Cal P w K mg base (12 + 1) "form_in" ["question"] sp := by
  refine ⟨f, fd, gF, F.kp, F.bindsN fun _ _ _ _ _ _ us hl => match us, hl with | [_], _ => rfl, F.ok sc_form_in len (fun cdv A outer s H vs Q E hr h => ⟨t_form_in P w K sp_least_from sp_led_terms sp_with_terms , PSs.nox ?_, pure vs H Q E h⟩)⟩
  exact (pss_cons (ps_set (i := 1) sc_form_in.nd rfl (Or.inl rfl) (pe_cal C_with_terms (hr.mono (by decide)) rfl (pa_cons pe_dnewK (pa_cons (pe_ix ix_seq (pv 0) pe_int (fun _ _ => rfl)) pa_nil)))) (pss_one (ps_ret (pe_tup (pa_cons (pe_glob rfl c_ASK.choose_spec ⟨_, rfl⟩) (pa_cons (pe_cal C_led_terms (hr.mono (by decide)) rfl (pa_cons (pe_ix ix_seq (pv 0) pe_int (fun _ _ => rfl)) (pa_cons (pv 1) pa_nil))) (pa_cons (pe_callTy call_tupU rfl m_tuple (by decide +kernel) (pa_cons (pe_cal C_least_from (hr.mono (by decide)) rfl (pa_cons (pe_lst pa_nil) (pa_cons (pe_callTy call_listU rfl m_list (by decide +kernel) (pa_cons (pe_ix ix_seq (pv 0) pe_int (fun _ _ => rfl)) pa_nil)) (pa_cons (pv 1) pa_nil)))) pa_nil)) pa_nil)))))))
theorem ok_least_of  {sp : Sp} (len : ∀ vs H Q E, sp vs H Q E → vs.length = 1)
    (F : FunD K "least_of" "least_of" (defArgs s_least_of) (defBody s_least_of) (defScope s_least_of) [] [] f fd)
    (gF : mg "least_of" = some (.ref f))
    {sp_core_of : Sp} (C_core_of : Cal P w K mg base 13 "core_of" ["question"] sp_core_of)
    {sp_form_in : Sp} (C_form_in : Cal P w K mg base 13 "form_in" ["question"] sp_form_in)
    {sp_members_of : Sp} (C_members_of : Cal P w K mg base 1 "members_of" ["union"] sp_members_of)
    {sp_question_key : Sp} (C_question_key : Cal P w K mg base 4 "question_key" ["question"] sp_question_key)
    (m_any : mg "any" = none)
    (m_sorted : mg "sorted" = none)
    (m_tuple : mg "tuple" = none)
    (c_ANY : ∃ t, mg "ANY" = some (.str "any" t))
    (pure : ∀ vs H Q E, sp vs H Q E → t_least_of P w K sp_core_of sp_form_in sp_members_of sp_question_key  { nx := fun _ H' => Q .non H', rt := Q } (start N_least_of vs) H) :
    Cal P w K mg base (13 + 1) "least_of" ["union"] sp := by
  refine ⟨f, fd, gF, F.kp, F.bindsN fun _ _ _ _ _ _ us hl => match us, hl with | [_], _ => rfl, F.ok sc_least_of len (fun cdv A outer s H vs Q E hr h => ⟨t_least_of P w K sp_core_of sp_form_in sp_members_of sp_question_key , PSs.nox ?_, pure vs H Q E h⟩)⟩
  exact (pss_cons (ps_set (i := 1) sc_least_of.nd rfl (Or.inl rfl) (pe_lst pa_nil)) (pss_cons (ps_for PassesOwn.never rfl (pi_tup (pe_cal C_members_of (hr.mono (by decide)) rfl (pa_cons (pv 0) pa_nil))) (pg_name (i := 2) sc_least_of.nd rfl (Or.inr rfl)) (pss_one (ps_if (pt_not (pt_val (pe_callB (cr_any rfl) rfl m_any (by decide +kernel) (pa_cons (pe_lc (own := [("other", 4)]) (tt := tYes) rfl sc_least_of.nd (pi_list (pv 1)) (blkOk_by (N := N_least_of) (sc := defScope s_least_of) (by decide +kernel)) (fun _ _ _ _ _ => (pg_name (i := 4) sc_least_of.nd rfl (Or.inl rfl))) (fun _ _ _ _ _ => pts_nil) (fun _ _ _ _ _ => pe_never)) pa_nil)))) (pss_one (ps_set (i := 1) sc_least_of.nd rfl (Or.inl rfl) (pe_op op_catU (pe_lc (own := [("other", 4)]) (tt := tNeverT) rfl sc_least_of.nd (pi_list (pv 1)) (blkOk_by (N := N_least_of) (sc := defScope s_least_of) (by decide +kernel)) (fun _ _ _ _ _ => (pg_name (i := 4) sc_least_of.nd rfl (Or.inl rfl))) (fun _ _ _ _ _ => (pts_one pt_never)) (fun _ _ _ _ _ => (pv 4))) (pe_lst (pa_cons (pv 2) pa_nil))))) pss_nil))) (pss_cons (ps_setLc (own := [("member", 2)]) (i := 3) rfl sc_least_of.nd rfl rfl (sw_true rfl rfl rfl (by decide +kernel)) (pi_list (pv 1)) (blkOk_by (N := N_least_of) (sc := defScope s_least_of) (by decide +kernel)) (fun _ _ _ _ _ => (pg_name (i := 2) sc_least_of.nd rfl (Or.inl rfl))) (fun _ _ _ _ _ => pts_nil) (fun _ _ _ _ _ => (pe_cal C_form_in (hr.mono (by decide)) rfl (pa_cons (pe_cal C_core_of (hr.mono (by decide)) rfl (pa_cons (pv 2) pa_nil)) pa_nil)))) (pss_one (ps_ret (pe_tup (pa_cons (pe_glob rfl c_ANY.choose_spec ⟨_, rfl⟩) (pa_cons (pe_callTy call_tupU rfl m_tuple (by decide +kernel) (pa_cons (pe_sortedKey C_question_key (hr.mono (by decide)) rfl rfl m_sorted rfl (pa_cons (pv 3) pa_nil)) pa_nil)) pa_nil))))))))
theorem ok_form_of  {sp : Sp} (len : ∀ vs H Q E, sp vs H Q E → vs.length = 1)
    (F : FunD K "form_of" "form_of" (defArgs s_form_of) (defBody s_form_of) (defScope s_form_of) [] [] f fd)
    (gF : mg "form_of" = some (.ref f))
    {sp_form_in : Sp} (C_form_in : Cal P w K mg base 13 "form_in" ["question"] sp_form_in)
    {sp_want_question : Sp} (C_want_question : Cal P w K mg base 6 "want_question" ["value"] sp_want_question)
    (pure : ∀ vs H Q E, sp vs H Q E → t_form_of P w K sp_form_in sp_want_question  { nx := fun _ H' => Q .non H', rt := Q } (start N_form_of vs) H) :
    Cal P w K mg base (13 + 1) "form_of" ["question"] sp := by
  refine ⟨f, fd, gF, F.kp, F.bindsN fun _ _ _ _ _ _ us hl => match us, hl with | [_], _ => rfl, F.ok sc_form_of len (fun cdv A outer s H vs Q E hr h => ⟨t_form_of P w K sp_form_in sp_want_question , PSs.nox ?_, pure vs H Q E h⟩)⟩
  exact (pss_one (ps_ret (pe_cal C_form_in (hr.mono (by decide)) rfl (pa_cons (pe_cal C_want_question (hr.mono (by decide)) rfl (pa_cons (pv 0) pa_nil)) pa_nil))))
theorem ok_least_union  {sp : Sp} (len : ∀ vs H Q E, sp vs H Q E → vs.length = 1)
    (F : FunD K "least_union" "least_union" (defArgs s_least_union) (defBody s_least_union) (defScope s_least_union) [] [] f fd)
    (gF : mg "least_union" = some (.ref f))
    {sp_least_of : Sp} (C_least_of : Cal P w K mg base 14 "least_of" ["union"] sp_least_of)
    {sp_want_union : Sp} (C_want_union : Cal P w K mg base 6 "want_union" ["value"] sp_want_union)
    (pure : ∀ vs H Q E, sp vs H Q E → t_least_union P w K sp_least_of sp_want_union  { nx := fun _ H' => Q .non H', rt := Q } (start N_least_union vs) H) :
    Cal P w K mg base (14 + 1) "least_union" ["union"] sp := by
  refine ⟨f, fd, gF, F.kp, F.bindsN fun _ _ _ _ _ _ us hl => match us, hl with | [_], _ => rfl, F.ok sc_least_union len (fun cdv A outer s H vs Q E hr h => ⟨t_least_union P w K sp_least_of sp_want_union , PSs.nox ?_, pure vs H Q E h⟩)⟩
  exact (pss_one (ps_ret (pe_cal C_least_of (hr.mono (by decide)) rfl (pa_cons (pe_cal C_want_union (hr.mono (by decide)) rfl (pa_cons (pv 0) pa_nil)) pa_nil))))
theorem ok_are_held_alike  {sp : Sp} (len : ∀ vs H Q E, sp vs H Q E → vs.length = 2)
    (F : FunD K "are_held_alike" "are_held_alike" (defArgs s_are_held_alike) (defBody s_are_held_alike) (defScope s_are_held_alike) [] [] f fd)
    (gF : mg "are_held_alike" = some (.ref f))
    {sp_least_of : Sp} (C_least_of : Cal P w K mg base 14 "least_of" ["union"] sp_least_of)
    {sp_want_two : Sp} (C_want_two : Cal P w K mg base 7 "want_two" ["union", "other"] sp_want_two)
    (pure : ∀ vs H Q E, sp vs H Q E → t_are_held_alike P w K sp_least_of sp_want_two  { nx := fun _ H' => Q .non H', rt := Q } (start N_are_held_alike vs) H) :
    Cal P w K mg base (14 + 1) "are_held_alike" ["union", "other_union"] sp := by
  refine ⟨f, fd, gF, F.kp, F.bindsN fun _ _ _ _ _ _ us hl => match us, hl with | [_, _], _ => rfl, F.ok sc_are_held_alike len (fun cdv A outer s H vs Q E hr h => ⟨t_are_held_alike P w K sp_least_of sp_want_two , PSs.nox ?_, pure vs H Q E h⟩)⟩
  exact (pss_cons (ps_expr (pe_cal C_want_two (hr.mono (by decide)) rfl (pa_cons (pv 0) (pa_cons (pv 1) pa_nil)))) (pss_one (ps_ret (pe_cmpR (op_uEq hr.units) (pe_cal C_least_of (hr.mono (by decide)) rfl (pa_cons (pv 0) pa_nil)) (pe_cal C_least_of (hr.mono (by decide)) rfl (pa_cons (pv 1) pa_nil)) (nomark _)))))
theorem ok_is_kind  {sp : Sp} (len : ∀ vs H Q E, sp vs H Q E → vs.length = 1)
    (F : FunD K "is_kind" "is_kind" (defArgs s_is_kind) (defBody s_is_kind) (defScope s_is_kind) [] [] f fd)
    (gF : mg "is_kind" = some (.ref f))
    (m_isinstance : mg "isinstance" = none)
    (m_str : mg "str" = none)
    {a_KINDS : Addr} (c_KINDS : mg "KINDS" = some (.ref a_KINDS))
    (pure : ∀ vs H Q E, sp vs H Q E → t_is_kind P w K  a_KINDS { nx := fun _ H' => Q .non H', rt := Q } (start N_is_kind vs) H) :
    Cal P w K mg base (0 + 1) "is_kind" ["value"] sp := by
  refine ⟨f, fd, gF, F.kp, F.bindsN fun _ _ _ _ _ _ us hl => match us, hl with | [_], _ => rfl, F.ok sc_is_kind len (fun cdv A outer s H vs Q E hr h => ⟨t_is_kind P w K  a_KINDS, PSs.nox ?_, pure vs H Q E h⟩)⟩
  exact (pss_one (ps_ret (pe_and (pe_callB call_isi rfl m_isinstance (by decide +kernel) (pa_cons (pv 0) (pa_cons (pe_bltn rfl m_str (by decide +kernel) rfl) pa_nil))) (pe_one (pe_cmpR (op_uIn hr.units) (pv 0) (pe_glob rfl c_KINDS rfl) (by with_unfolding_all rfl))))))
theorem ok_want_kind  {sp : Sp} (len : ∀ vs H Q E, sp vs H Q E → vs.length = 1)
    (F : FunD K "want_kind" "want_kind" (defArgs s_want_kind) (defBody s_want_kind) (defScope s_want_kind) [] [] f fd)
    (gF : mg "want_kind" = some (.ref f))
    {sp_is_kind : Sp} (C_is_kind : Cal P w K mg base 1 "is_kind" ["value"] sp_is_kind)
    (pure : ∀ vs H Q E, sp vs H Q E → t_want_kind P w K sp_is_kind  { nx := fun _ H' => Q .non H', rt := Q } (start N_want_kind vs) H) :
    Cal P w K mg base (1 + 1) "want_kind" ["value"] sp := by
  refine ⟨f, fd, gF, F.kp, F.bindsN fun _ _ _ _ _ _ us hl => match us, hl with | [_], _ => rfl, F.ok sc_want_kind len (fun cdv A outer s H vs Q E hr h => ⟨t_want_kind P w K sp_is_kind , PSs.nox ?_, pure vs H Q E h⟩)⟩
  exact (pss_cons (ps_if (pt_not (pt_val (pe_cal C_is_kind (hr.mono (by decide)) rfl (pa_cons (pv 0) pa_nil)))) (pss_one ps_never) pss_nil) (pss_one (ps_ret (pv 0))))
theorem ok_covering  {sp : Sp} (len : ∀ vs H Q E, sp vs H Q E → vs.length = 2)
    (F : FunD K "covering" "covering" (defArgs s_covering) (defBody s_covering) (defScope s_covering) [] [] f fd)
    (gF : mg "covering" = some (.ref f))
    {sp_map_using : Sp} (C_map_using : Cal P w K mg base 11 "map_using" ["question", "goals", "head", "goal"] sp_map_using)
    {sp_told_map : Sp} (C_told_map : Cal P w K mg base 1 "told_map" ["led"] sp_told_map)
    {sp_unlike_ones : Sp} (C_unlike_ones : Cal P w K mg base 1 "unlike_ones" ["items"] sp_unlike_ones)
    (m_tuple : mg "tuple" = none)
    (pure : ∀ vs H Q E, sp vs H Q E → t_covering P w K sp_map_using sp_told_map sp_unlike_ones  { nx := fun _ H' => Q .non H', rt := Q } (start N_covering vs) H) :
    Cal P w K mg base (11 + 1) "covering" ["question", "other"] sp := by
  refine ⟨f, fd, gF, F.kp, F.bindsN fun _ _ _ _ _ _ us hl => match us, hl with | [_, _], _ => rfl, F.ok sc_covering len (fun cdv A outer s H vs Q E hr h => ⟨t_covering P w K sp_map_using sp_told_map sp_unlike_ones , PSs.nox ?_, pure vs H Q E h⟩)⟩
  exact (pss_cons (ps_par (i := 3) (j := 4) rfl sc_covering.nd rfl rfl (by decide) rfl rfl (pa_cons (pe_lst pa_nil) (pa_cons (pe_cal C_unlike_ones (hr.mono (by decide)) rfl (pa_cons (pe_ix ix_seq (pv 1) pe_int (fun _ _ => rfl)) pa_nil)) pa_nil)) rfl) (pss_cons (ps_for PassesOwn.never rfl (pi_list (pv 4)) (pg_name (i := 2) sc_covering.nd rfl (Or.inl rfl)) (pss_cons (ps_set (i := 5) sc_covering.nd rfl (Or.inl rfl) (pe_cal C_map_using (hr.mono (by decide)) rfl (pa_cons (pv 0) (pa_cons (pv 4) (pa_cons (pe_ix ix_seq (pv 1) pe_int (fun _ _ => rfl)) (pa_cons (pv 2) pa_nil)))))) (pss_cons (ps_if (pt_cmp (pc_isN (pv 5))) (pss_one (ps_ret pe_non)) pss_nil) (pss_one (ps_expr (pe_bm PySem.F.plainAttrs_list PySem.F.slot_list_append PySem.F.type_list_append mt_append (pv 3) (pa_cons (pe_cal C_told_map (hr.mono (by decide)) rfl (pa_cons (pv 5) pa_nil)) pa_nil))))))) (pss_one (ps_ret (pe_callTy call_tupU rfl m_tuple (by decide +kernel) (pa_cons (pe_cal C_unlike_ones (hr.mono (by decide)) rfl (pa_cons (pv 3) pa_nil)) pa_nil))))))
theorem ok_paper_of  {sp : Sp} (len : ∀ vs H Q E, sp vs H Q E → vs.length = 3)
    (F : FunD K "paper_of" "paper_of" (defArgs s_paper_of) (defBody s_paper_of) (defScope s_paper_of) [] [] f fd)
    (gF : mg "paper_of" = some (.ref f))
    {sp_covering : Sp} (C_covering : Cal P w K mg base 12 "covering" ["question", "other"] sp_covering)
    {sp_map_into : Sp} (C_map_into : Cal P w K mg base 11 "map_into" ["question", "goals", "head"] sp_map_into)
    {sp_part_of : Sp} (C_part_of : Cal P w K mg base 6 "part_of" ["question", "left"] sp_part_of)
    {sp_told_map : Sp} (C_told_map : Cal P w K mg base 1 "told_map" ["led"] sp_told_map)
    (m_len : mg "len" = none)
    (m_list : mg "list" = none)
    (m_range : mg "range" = none)
    (c_HELPED : ∃ t, mg "HELPED" = some (.str "helped" t))
    {a_LATTICES : Addr} (c_LATTICES : mg "LATTICES" = some (.ref a_LATTICES))
    (pure : ∀ vs H Q E, sp vs H Q E → t_paper_of P w K sp_covering sp_map_into sp_part_of sp_told_map a_LATTICES { nx := fun _ H' => Q .non H', rt := Q } (start N_paper_of vs) H) :
    Cal P w K mg base (12 + 1) "paper_of" ["kind", "question", "position"] sp := by
  refine ⟨f, fd, gF, F.kp, F.bindsN fun _ _ _ _ _ _ us hl => match us, hl with | [_, _, _], _ => rfl, F.ok sc_paper_of len (fun cdv A outer s H vs Q E hr h => ⟨t_paper_of P w K sp_covering sp_map_into sp_part_of sp_told_map a_LATTICES, PSs.nox ?_, pure vs H Q E h⟩)⟩
  exact (pss_cons (ps_set (i := 3) sc_paper_of.nd rfl (Or.inl rfl) (pe_cal C_part_of (hr.mono (by decide)) rfl (pa_cons (pv 1) (pa_cons (pe_lc (own := [("at", 7)]) (tt := (tTest (tOp (uNe K) (tVar 7) (tVar 2)))) rfl sc_paper_of.nd (pi_range1 rfl m_range (pa_cons (pe_callB call_lenU rfl m_len (by decide +kernel) (pa_cons (pe_ix ix_seq (pv 1) pe_int (fun _ _ => rfl)) pa_nil)) pa_nil)) (blkOk_by (N := N_paper_of) (sc := defScope s_paper_of) (by decide +kernel)) (fun _ _ _ _ _ => (pg_name (i := 7) sc_paper_of.nd rfl (Or.inl rfl))) (fun _ _ _ _ _ => (pts_one (pt_cmpR (op_uNe hr.units) (pv 7) (pv 2) (nomark _)))) (fun _ _ _ _ _ => (pv 7))) pa_nil)))) (pss_cons (ps_if (pt_cmpR (op_uIn hr.units) (pv 0) (pe_glob rfl c_LATTICES rfl) (by with_unfolding_all rfl)) (pss_cons (ps_set (i := 4) sc_paper_of.nd rfl (Or.inl rfl) (pe_cal C_map_into (hr.mono (by decide)) rfl (pa_cons (pv 1) (pa_cons (pe_callTy call_listU rfl m_list (by decide +kernel) (pa_cons (pe_ix ix_seq (pv 3) pe_int (fun _ _ => rfl)) pa_nil)) (pa_cons (pe_ix ix_seq (pv 3) pe_int (fun _ _ => rfl)) pa_nil))))) (pss_one (ps_ret (pe_ifExp (pt_cmp (pc_isN (pv 4))) pe_non (pe_tup (pa_cons (pe_cal C_told_map (hr.mono (by decide)) rfl (pa_cons (pv 4) pa_nil)) pa_nil)))))) pss_nil) (pss_cons (ps_if (pt_cmpR (op_uNe hr.units) (pv 0) (pe_glob rfl c_HELPED.choose_spec ⟨_, rfl⟩) (nomark _)) (pss_one (ps_ret pe_non)) pss_nil) (pss_cons (ps_par (i := 5) (j := 6) rfl sc_paper_of.nd rfl rfl (by decide) rfl rfl (pa_cons (pe_cal C_covering (hr.mono (by decide)) rfl (pa_cons (pv 3) (pa_cons (pv 1) pa_nil))) (pa_cons (pe_cal C_covering (hr.mono (by decide)) rfl (pa_cons (pv 1) (pa_cons (pv 3) pa_nil))) pa_nil)) rfl) (pss_one (ps_ret (pe_ifExp (PW.pt (pw_or (pt_cmp (pc_isN (pv 5))) (pw_or1 (pt_cmp (pc_isN (pv 6)))))) pe_non (pe_tup (pa_cons (pv 5) (pa_cons (pv 6) pa_nil))))))))))
theorem ok_want_going  {sp : Sp} (len : ∀ vs H Q E, sp vs H Q E → vs.length = 3)
    (F : FunD K "want_going" "want_going" (defArgs s_want_going) (defBody s_want_going) (defScope s_want_going) [] [] f fd)
    (gF : mg "want_going" = some (.ref f))
    {sp_is_integer : Sp} (C_is_integer : Cal P w K mg base 1 "is_integer" ["value"] sp_is_integer)
    {sp_part_of : Sp} (C_part_of : Cal P w K mg base 6 "part_of" ["question", "left"] sp_part_of)
    {sp_want_kind : Sp} (C_want_kind : Cal P w K mg base 2 "want_kind" ["value"] sp_want_kind)
    {sp_want_question : Sp} (C_want_question : Cal P w K mg base 6 "want_question" ["value"] sp_want_question)
    (m_len : mg "len" = none)
    (m_range : mg "range" = none)
    (pure : ∀ vs H Q E, sp vs H Q E → t_want_going P w K sp_is_integer sp_part_of sp_want_kind sp_want_question  { nx := fun _ H' => Q .non H', rt := Q } (start N_want_going vs) H) :
    Cal P w K mg base (6 + 1) "want_going" ["kind", "question", "position"] sp := by
  refine ⟨f, fd, gF, F.kp, F.bindsN fun _ _ _ _ _ _ us hl => match us, hl with | [_, _, _], _ => rfl, F.ok sc_want_going len (fun cdv A outer s H vs Q E hr h => ⟨t_want_going P w K sp_is_integer sp_part_of sp_want_kind sp_want_question , PSs.nox ?_, pure vs H Q E h⟩)⟩
  exact (pss_cons (ps_expr (pe_cal C_want_kind (hr.mono (by decide)) rfl (pa_cons (pv 0) pa_nil))) (pss_cons (ps_set (i := 3) sc_want_going.nd rfl (Or.inl rfl) (pe_callB call_lenU rfl m_len (by decide +kernel) (pa_cons (pe_ix ix_seq (pe_cal C_want_question (hr.mono (by decide)) rfl (pa_cons (pv 1) pa_nil)) pe_int (fun _ _ => rfl)) pa_nil))) (pss_cons (ps_if (PW.pt (pw_or (pt_not (pt_val (pe_cal C_is_integer (hr.mono (by decide)) rfl (pa_cons (pv 2) pa_nil)))) (pw_or1 (pt_not (pt_chain op_le op_lt pe_int (pv 2) (pv 3)))))) (pss_one ps_never) pss_nil) (pss_one (ps_if (pt_cmp (pc_isN (pe_cal C_part_of (hr.mono (by decide)) rfl (pa_cons (pv 1) (pa_cons (pe_lc (own := [("at", 4)]) (tt := (tTest (tOp (uNe K) (tVar 4) (tVar 2)))) rfl sc_want_going.nd (pi_range1 rfl m_range (pa_cons (pv 3) pa_nil)) (blkOk_by (N := N_want_going) (sc := defScope s_want_going) (by decide +kernel)) (fun _ _ _ _ _ => (pg_name (i := 4) sc_want_going.nd rfl (Or.inl rfl))) (fun _ _ _ _ _ => (pts_one (pt_cmpR (op_uNe hr.units) (pv 4) (pv 2) (nomark _)))) (fun _ _ _ _ _ => (pv 4))) pa_nil))))) (pss_one ps_never) pss_nil)))))
theorem ok_going_paper  {sp : Sp} (len : ∀ vs H Q E, sp vs H Q E → vs.length = 3)
    (F : FunD K "going_paper" "going_paper" (defArgs s_going_paper) (defBody s_going_paper) (defScope s_going_paper) [] [] f fd)
    (gF : mg "going_paper" = some (.ref f))
    {sp_paper_of : Sp} (C_paper_of : Cal P w K mg base 13 "paper_of" ["kind", "question", "position"] sp_paper_of)
    {sp_want_going : Sp} (C_want_going : Cal P w K mg base 7 "want_going" ["kind", "question", "position"] sp_want_going)
    (pure : ∀ vs H Q E, sp vs H Q E → t_going_paper P w K sp_paper_of sp_want_going  { nx := fun _ H' => Q .non H', rt := Q } (start N_going_paper vs) H) :
    Cal P w K mg base (13 + 1) "going_paper" ["kind", "question", "position"] sp := by
  refine ⟨f, fd, gF, F.kp, F.bindsN fun _ _ _ _ _ _ us hl => match us, hl with | [_, _, _], _ => rfl, F.ok sc_going_paper len (fun cdv A outer s H vs Q E hr h => ⟨t_going_paper P w K sp_paper_of sp_want_going , PSs.nox ?_, pure vs H Q E h⟩)⟩
  exact (pss_cons (ps_expr (pe_cal C_want_going (hr.mono (by decide)) rfl (pa_cons (pv 0) (pa_cons (pv 1) (pa_cons (pv 2) pa_nil))))) (pss_one (ps_ret (pe_cal C_paper_of (hr.mono (by decide)) rfl (pa_cons (pv 0) (pa_cons (pv 1) (pa_cons (pv 2) pa_nil)))))))
theorem ok_can_go  {sp : Sp} (len : ∀ vs H Q E, sp vs H Q E → vs.length = 3)
    (F : FunD K "can_go" "can_go" (defArgs s_can_go) (defBody s_can_go) (defScope s_can_go) [] [] f fd)
    (gF : mg "can_go" = some (.ref f))
    {sp_going_paper : Sp} (C_going_paper : Cal P w K mg base 14 "going_paper" ["kind", "question", "position"] sp_going_paper)
    (pure : ∀ vs H Q E, sp vs H Q E → t_can_go P w K sp_going_paper  { nx := fun _ H' => Q .non H', rt := Q } (start N_can_go vs) H) :
    Cal P w K mg base (14 + 1) "can_go" ["kind", "question", "position"] sp := by
  refine ⟨f, fd, gF, F.kp, F.bindsN fun _ _ _ _ _ _ us hl => match us, hl with | [_, _, _], _ => rfl, F.ok sc_can_go len (fun cdv A outer s H vs Q E hr h => ⟨t_can_go P w K sp_going_paper , PSs.nox ?_, pure vs H Q E h⟩)⟩
  exact (pss_one (ps_ret (pe_cmp (pc_notN (pe_cal C_going_paper (hr.mono (by decide)) rfl (pa_cons (pv 0) (pa_cons (pv 1) (pa_cons (pv 2) pa_nil))))))))
theorem ok_least_helped  {sp : Sp} (len : ∀ vs H Q E, sp vs H Q E → vs.length = 1)
    (F : FunD K "least_helped" "least_helped" (defArgs s_least_helped) (defBody s_least_helped) (defScope s_least_helped) [] [] f fd)
    (gF : mg "least_helped" = some (.ref f))
    {sp_paper_of : Sp} (C_paper_of : Cal P w K mg base 13 "paper_of" ["kind", "question", "position"] sp_paper_of)
    {sp_part_of : Sp} (C_part_of : Cal P w K mg base 6 "part_of" ["question", "left"] sp_part_of)
    {sp_want_question : Sp} (C_want_question : Cal P w K mg base 6 "want_question" ["value"] sp_want_question)
    (m_len : mg "len" = none)
    (m_range : mg "range" = none)
    (c_HELPED : ∃ t, mg "HELPED" = some (.str "helped" t))
    (pure : ∀ vs H Q E, sp vs H Q E → t_least_helped P w K sp_paper_of sp_part_of sp_want_question  { nx := fun _ H' => Q .non H', rt := Q } (start N_least_helped vs) H) :
    Cal P w K mg base (13 + 1) "least_helped" ["question"] sp := by
  refine ⟨f, fd, gF, F.kp, F.bindsN fun _ _ _ _ _ _ us hl => match us, hl with | [_], _ => rfl, F.ok sc_least_helped len (fun cdv A outer s H vs Q E hr h => ⟨t_least_helped P w K sp_paper_of sp_part_of sp_want_question , PSs.nox ?_, pure vs H Q E h⟩)⟩
  exact (pss_cons (ps_expr (pe_cal C_want_question (hr.mono (by decide)) rfl (pa_cons (pv 0) pa_nil))) (pss_cons (ps_set (i := 1) sc_least_helped.nd rfl (Or.inr rfl) pe_int) (pss_cons (ps_while PassesOwn.never (pt_cmpR op_lt (pv 1) (pe_callB call_lenU rfl m_len (by decide +kernel) (pa_cons (pe_ix ix_seq (pv 0) pe_int (fun _ _ => rfl)) pa_nil)) (nomark _)) (pss_cons (ps_set (i := 2) sc_least_helped.nd rfl (Or.inl rfl) (pe_cal C_part_of (hr.mono (by decide)) rfl (pa_cons (pv 0) (pa_cons (pe_lc (own := [("place", 3)]) (tt := (tTest (tOp (uNe K) (tVar 3) (tVar 1)))) rfl sc_least_helped.nd (pi_range1 rfl m_range (pa_cons (pe_callB call_lenU rfl m_len (by decide +kernel) (pa_cons (pe_ix ix_seq (pv 0) pe_int (fun _ _ => rfl)) pa_nil)) pa_nil)) (blkOk_by (N := N_least_helped) (sc := defScope s_least_helped) (by decide +kernel)) (fun _ _ _ _ _ => (pg_name (i := 3) sc_least_helped.nd rfl (Or.inl rfl))) (fun _ _ _ _ _ => (pts_one (pt_cmpR (op_uNe hr.units) (pv 3) (pv 1) (nomark _)))) (fun _ _ _ _ _ => (pv 3))) pa_nil)))) (pss_one (ps_if (PW.pt (pw_and (pt_cmp (pc_notN (pv 2))) (pw_and1 (pt_cmp (pc_notN (pe_cal C_paper_of (hr.mono (by decide)) rfl (pa_cons (pe_glob rfl c_HELPED.choose_spec ⟨_, rfl⟩) (pa_cons (pv 0) (pa_cons (pv 1) pa_nil))))))))) (pss_one (ps_asg (pe_tup (pa_cons (pv 2) (pa_cons pe_int pa_nil))) (pg_tup rfl (pgs_cons (pg_name (i := 0) sc_least_helped.nd rfl (Or.inl rfl)) (pgs_cons (pg_name (i := 1) sc_least_helped.nd rfl (Or.inr rfl)) pgs_nil))))) (pss_one (ps_aug (i := 1) sc_least_helped.nd rfl (Or.inr rfl) pe_int ip_add)))))) (pss_one (ps_ret (pv 0))))))
theorem ok__law_pot  {sp : Sp} (len : ∀ vs H Q E, sp vs H Q E → vs.length = 2)
    (F : FunD K "_law_pot" "_law_pot" (defArgs s__law_pot) (defBody s__law_pot) (defScope s__law_pot) [] [] f fd)
    (gF : mg "_law_pot" = some (.ref f))
    (m_abs : mg "abs" = none)
    (m_int : mg "int" = none)
    (m_len : mg "len" = none)
    (m_max : mg "max" = none)
    (pure : ∀ vs H Q E, sp vs H Q E → t__law_pot P w K   { nx := fun _ H' => Q .non H', rt := Q } (start N__law_pot vs) H) :
    Cal P w K mg base (0 + 1) "_law_pot" ["script", "k"] sp := by
  refine ⟨f, fd, gF, F.kp, F.bindsN fun _ _ _ _ _ _ us hl => match us, hl with | [_, _], _ => rfl, F.ok sc__law_pot len (fun cdv A outer s H vs Q E hr h => ⟨t__law_pot P w K  , PSs.nox ?_, pure vs H Q E h⟩)⟩
  exact (pss_cons (ps_set (i := 2) sc__law_pot.nd rfl (Or.inl rfl) (pe_ifExp (pt_cmpR op_lt (pv 1) (pe_callB call_lenU rfl m_len (by decide +kernel) (pa_cons (pv 0) pa_nil)) (nomark _)) (pe_callB cr_abs rfl m_abs (by decide +kernel) (pa_cons (pe_ix ix_seq (pv 0) (pv 1) (fun _ _ => rfl)) pa_nil)) (pe_op op_add (pe_op op_mul pe_int (pv 1)) pe_int))) (pss_one (ps_ret (pe_lst (pa_cons (pe_callB (cr_max2 rfl) rfl m_max (by decide +kernel) (pa_cons pe_int (pa_cons (pe_op op_sub (pv 2) (pe_op op_pow pe_int pe_int)) pa_nil))) (pa_cons (pe_op op_add (pe_op op_mod (pe_callTy cr_int1 rfl m_int (by decide +kernel) (pa_cons (pe_op op_add (pe_op op_add (pe_op op_mul (pe_op op_mod (pe_callTy cr_int1 rfl m_int (by decide +kernel) (pa_cons (pv 2) pa_nil)) pe_int) pe_int) (pe_op op_mul pe_int (pv 1))) pe_int) pa_nil)) pe_int) pe_int) pa_nil))))))
theorem ok__law_draw  {sp : Sp} (len : ∀ vs H Q E, sp vs H Q E → vs.length = 2)
    (F : FunD K "_law_draw" "_law_draw" (defArgs s__law_draw) (defBody s__law_draw) (defScope s__law_draw) [] [] f fd)
    (gF : mg "_law_draw" = some (.ref f))
    (m_divmod : mg "divmod" = none)
    (m_int : mg "int" = none)
    (pure : ∀ vs H Q E, sp vs H Q E → t__law_draw P w K   { nx := fun _ H' => Q .non H', rt := Q } (start N__law_draw vs) H) :
    Cal P w K mg base (0 + 1) "_law_draw" ["pot", "size"] sp := by
  refine ⟨f, fd, gF, F.kp, F.bindsN fun _ _ _ _ _ _ us hl => match us, hl with | [_, _], _ => rfl, F.ok sc__law_draw len (fun cdv A outer s H vs Q E hr h => ⟨t__law_draw P w K  , PSs.nox ?_, pure vs H Q E h⟩)⟩
  exact (pss_cons (ps_if (pt_cmpR op_gt (pe_ix ix_seq (pv 0) pe_int (fun _ _ => rfl)) pe_int (nomark _)) (pss_cons (ps_asg (pe_callB cr_divmod rfl m_divmod (by decide +kernel) (pa_cons (pe_ix ix_seq (pv 0) pe_int (fun _ _ => rfl)) (pa_cons (pv 1) pa_nil))) (pg_tup rfl (pgs_cons (pg_sub (pv 0) pe_int set_list) (pgs_cons (pg_name (i := 2) sc__law_draw.nd rfl (Or.inl rfl)) pgs_nil)))) (pss_one (ps_ret (pv 2)))) pss_nil) (pss_cons (ps_asg (pe_op op_mod (pe_callTy cr_int1 rfl m_int (by decide +kernel) (pa_cons (pe_op op_add (pe_op op_mul (pe_ix ix_seq (pv 0) pe_int (fun _ _ => rfl)) pe_int) pe_int) pa_nil)) pe_int) (pg_sub (pv 0) pe_int set_list)) (pss_one (ps_ret (pe_op op_mod (pe_callTy cr_int1 rfl m_int (by decide +kernel) (pa_cons (pe_op op_fdiv (pe_op op_mod (pe_callTy cr_int1 rfl m_int (by decide +kernel) (pa_cons (pe_op op_mul (pe_ix ix_seq (pv 0) pe_int (fun _ _ => rfl)) (pe_ix ix_seq (pv 0) pe_int (fun _ _ => rfl))) pa_nil)) pe_int) pe_int) pa_nil)) (pv 1))))))
theorem ok__law_mixed  {sp : Sp} (len : ∀ vs H Q E, sp vs H Q E → vs.length = 3)
    (F : FunD K "_law_mixed" "_law_mixed" (defArgs s__law_mixed) (defBody s__law_mixed) (defScope s__law_mixed) [] [] f fd)
    (gF : mg "_law_mixed" = some (.ref f))
    {sp__law_draw : Sp} (C__law_draw : Cal P w K mg base 1 "_law_draw" ["pot", "size"] sp__law_draw)
    (m_len : mg "len" = none)
    (m_list : mg "list" = none)
    (m_range : mg "range" = none)
    (m_tuple : mg "tuple" = none)
    (pure : ∀ vs H Q E, sp vs H Q E → t__law_mixed P w K sp__law_draw  { nx := fun _ H' => Q .non H', rt := Q } (start N__law_mixed vs) H) :
    Cal P w K mg base (1 + 1) "_law_mixed" ["pot", "head", "atoms"] sp := by
  refine ⟨f, fd, gF, F.kp, F.bindsN fun _ _ _ _ _ _ us hl => match us, hl with | [_, _, _], _ => rfl, F.ok sc__law_mixed len (fun cdv A outer s H vs Q E hr h => ⟨t__law_mixed P w K sp__law_draw , PSs.nox ?_, pure vs H Q E h⟩)⟩
  exact (pss_cons (ps_par (i := 4) (j := 5) rfl sc__law_mixed.nd rfl rfl (by decide) rfl rfl (pa_cons (pe_callTy call_listU rfl m_list (by decide +kernel) (pa_cons (pv 2) pa_nil)) (pa_cons (pe_lst pa_nil) pa_nil)) rfl) (pss_cons (ps_for PassesOwn.never rfl (pi_range1 rfl m_range (pa_cons (pe_callB call_lenU rfl m_len (by decide +kernel) (pa_cons (pv 2) pa_nil)) pa_nil)) (pg_name (i := 3) sc__law_mixed.nd rfl (Or.inl rfl)) (pss_one (ps_expr (pe_bm PySem.F.plainAttrs_list PySem.F.slot_list_append PySem.F.type_list_append mt_append (pv 5) (pa_cons (pe_bm PySem.F.plainAttrs_list PySem.F.slot_list_pop PySem.F.type_list_pop mt_popAt (pv 4) (pa_cons (pe_cal C__law_draw (hr.mono (by decide)) rfl (pa_cons (pv 0) (pa_cons (pe_callB call_lenU rfl m_len (by decide +kernel) (pa_cons (pv 4) pa_nil)) pa_nil))) pa_nil)) pa_nil))))) (pss_one (ps_ret (pe_tup (pa_cons pe_str (pa_cons (pv 1) (pa_cons (pe_callTy call_tupU rfl m_tuple (by decide +kernel) (pa_cons (pv 5) pa_nil)) pa_nil))))))))
theorem ok__law_names  {sp : Sp} (len : ∀ vs H Q E, sp vs H Q E → vs.length = 2)
    (F : FunD K "_law_names" "_law_names" (defArgs s__law_names) (defBody s__law_names) (defScope s__law_names) [] [] f fd)
    (gF : mg "_law_names" = some (.ref f))
    {sp__law_draw : Sp} (C__law_draw : Cal P w K mg base 1 "_law_draw" ["pot", "size"] sp__law_draw)
    (m_len : mg "len" = none)
    (m_range : mg "range" = none)
    (pure : ∀ vs H Q E, sp vs H Q E → t__law_names P w K sp__law_draw  { nx := fun _ H' => Q .non H', rt := Q } (start N__law_names vs) H) :
    Cal P w K mg base (1 + 1) "_law_names" ["pot", "many"] sp := by
  refine ⟨f, fd, gF, F.kp, F.bindsN fun _ _ _ _ _ _ us hl => match us, hl with | [_, _], _ => rfl, F.ok sc__law_names len (fun cdv A outer s H vs Q E hr h => ⟨t__law_names P w K sp__law_draw , PSs.nox ?_, pure vs H Q E h⟩)⟩
  exact (pss_cons (ps_par (i := 3) (j := 4) rfl sc__law_names.nd rfl rfl (by decide) rfl rfl (pa_cons (pe_lst (pa_cons pe_str (pa_cons pe_str (pa_cons pe_str (pa_cons pe_str (pa_cons pe_str (pa_cons pe_str (pa_cons pe_str (pa_cons pe_str pa_nil))))))))) (pa_cons (pe_lst pa_nil) pa_nil)) rfl) (pss_cons (ps_for PassesOwn.never rfl (pi_range1 rfl m_range (pa_cons (pv 1) pa_nil)) (pg_name (i := 2) sc__law_names.nd rfl (Or.inl rfl)) (pss_one (ps_expr (pe_bm PySem.F.plainAttrs_list PySem.F.slot_list_append PySem.F.type_list_append mt_append (pv 4) (pa_cons (pe_bm PySem.F.plainAttrs_list PySem.F.slot_list_pop PySem.F.type_list_pop mt_popAt (pv 3) (pa_cons (pe_cal C__law_draw (hr.mono (by decide)) rfl (pa_cons (pv 0) (pa_cons (pe_callB call_lenU rfl m_len (by decide +kernel) (pa_cons (pv 3) pa_nil)) pa_nil))) pa_nil)) pa_nil))))) (pss_one (ps_ret (pv 4)))))
theorem ok__law_star_right  {sp : Sp} (len : ∀ vs H Q E, sp vs H Q E → vs.length = 1)
    (F : FunD K "_law_star_right" "_law_star_right" (defArgs s__law_star_right) (defBody s__law_star_right) (defScope s__law_star_right) [] [] f fd)
    (gF : mg "_law_star_right" = some (.ref f))
    {sp__law_draw : Sp} (C__law_draw : Cal P w K mg base 1 "_law_draw" ["pot", "size"] sp__law_draw)
    {sp__law_mixed : Sp} (C__law_mixed : Cal P w K mg base 2 "_law_mixed" ["pot", "head", "atoms"] sp__law_mixed)
    {sp__law_names : Sp} (C__law_names : Cal P w K mg base 2 "_law_names" ["pot", "many"] sp__law_names)
    {sp_are_held_alike : Sp} (C_are_held_alike : Cal P w K mg base 15 "are_held_alike" ["union", "other_union"] sp_are_held_alike)
    {sp_can_go : Sp} (C_can_go : Cal P w K mg base 15 "can_go" ["kind", "question", "position"] sp_can_go)
    {sp_core : Sp} (C_core : Cal P w K mg base 14 "core" ["question"] sp_core)
    {sp_form_of : Sp} (C_form_of : Cal P w K mg base 14 "form_of" ["question"] sp_form_of)
    {sp_is_core : Sp} (C_is_core : Cal P w K mg base 13 "is_core" ["question"] sp_is_core)
    {sp_least_helped : Sp} (C_least_helped : Cal P w K mg base 14 "least_helped" ["question"] sp_least_helped)
    {sp_least_union : Sp} (C_least_union : Cal P w K mg base 15 "least_union" ["union"] sp_least_union)
    (m_len : mg "len" = none)
    (m_range : mg "range" = none)
    (m_tuple : mg "tuple" = none)
    (pure : ∀ vs H Q E, sp vs H Q E → t__law_star_right P w K sp__law_draw sp__law_mixed sp__law_names sp_are_held_alike sp_can_go sp_core sp_form_of sp_is_core sp_least_helped sp_least_union  { nx := fun _ H' => Q .non H', rt := Q } (start N__law_star_right vs) H) :
    Cal P w K mg base (15 + 1) "_law_star_right" ["pot"] sp := by
  refine ⟨f, fd, gF, F.kp, F.bindsN fun _ _ _ _ _ _ us hl => match us, hl with | [_], _ => rfl, F.ok sc__law_star_right len (fun cdv A outer s H vs Q E hr h => ⟨t__law_star_right P w K sp__law_draw sp__law_mixed sp__law_names sp_are_held_alike sp_can_go sp_core sp_form_of sp_is_core sp_least_helped sp_least_union , PSs.nox ?_, pure vs H Q E h⟩)⟩
  exact (pss_cons (ps_set (i := 1) sc__law_star_right.nd rfl (Or.inr rfl) (pe_op op_add pe_int (pe_cal C__law_draw (hr.mono (by decide)) rfl (pa_cons (pv 0) (pa_cons pe_int pa_nil))))) (pss_cons (ps_set (i := 2) sc__law_star_right.nd rfl (Or.inr rfl) (pe_cal C__law_names (hr.mono (by decide)) rfl (pa_cons (pv 0) (pa_cons (pe_op op_add (pv 1) pe_int) pa_nil)))) (pss_cons (ps_set (i := 3) sc__law_star_right.nd rfl (Or.inr rfl) (pe_cal C__law_mixed (hr.mono (by decide)) rfl (pa_cons (pv 0) (pa_cons (pe_tup (pa_cons (pe_ix ix_seq (pv 2) pe_int (fun _ _ => rfl)) pa_nil)) (pa_cons (pe_lc (own := [("name", 5)]) (tt := tYes) rfl sc__law_star_right.nd (pi_list (pe_slice sl_list (pv 2) (po_some pe_int) po_none)) (blkOk_by (N := N__law_star_right) (sc := defScope s__law_star_right) (by decide +kernel)) (fun _ _ _ _ _ => (pg_name (i := 5) sc__law_star_right.nd rfl (Or.inl rfl))) (fun _ _ _ _ _ => pts_nil) (fun _ _ _ _ _ => (pe_tup (pa_cons pe_str (pa_cons (pe_tup (pa_cons (pe_ix ix_seq (pv 2) pe_int (fun _ _ => rfl)) (pa_cons (pv 5) pa_nil))) pa_nil))))) pa_nil))))) (pss_cons (ps_set (i := 4) sc__law_star_right.nd rfl (Or.inl rfl) (pe_tup (pa_cons pe_str (pa_cons (pe_tup (pa_cons pe_str pa_nil)) (pa_cons (pe_tup (pa_cons (pe_tup (pa_cons pe_str (pa_cons (pe_tup (pa_cons pe_str (pa_cons pe_str pa_nil))) pa_nil))) pa_nil)) pa_nil))))) (pss_cons (ps_if (PW.pt (pw_or (pt_cmpR (op_uNe hr.units) (pe_cal C_form_of (hr.mono (by decide)) rfl (pa_cons (pe_cal C_core (hr.mono (by decide)) rfl (pa_cons (pv 3) pa_nil)) pa_nil)) (pv 4) (nomark _)) (pw_or (pt_cmpR (op_uNe hr.units) (pe_cal C_is_core (hr.mono (by decide)) rfl (pa_cons (pv 3) pa_nil)) (pe_cmpR (op_uEq hr.units) (pv 1) pe_int (nomark _)) (nomark _)) (pw_or (pt_cmpR op_notBl (pe_cal C_are_held_alike (hr.mono (by decide)) rfl (pa_cons (pv 3) (pa_cons (pv 4) pa_nil))) pe_bl (nomark _)) (pw_or1 (pt_cmpR (op_uNe hr.units) (pe_cal C_least_union (hr.mono (by decide)) rfl (pa_cons (pv 3) pa_nil)) (pe_tup (pa_cons pe_str (pa_cons (pe_tup (pa_cons (pv 4) pa_nil)) pa_nil))) (nomark _))))))) (pss_one (ps_ret pe_bl)) pss_nil) (pss_cons (ps_if (pt_cmpR (op_uNe hr.units) (pe_cal C_form_of (hr.mono (by decide)) rfl (pa_cons (pv 3) pa_nil)) (pe_tup (pa_cons pe_str (pa_cons (pe_tup (pa_cons pe_str pa_nil)) (pa_cons (pe_callTy call_tupU rfl m_tuple (by decide +kernel) (pa_cons (pe_lc (own := [("at", 7)]) (tt := tYes) rfl sc__law_star_right.nd (pi_range1 rfl m_range (pa_cons (pv 1) pa_nil)) (blkOk_by (N := N__law_star_right) (sc := defScope s__law_star_right) (by decide +kernel)) (fun _ _ _ _ _ => (pg_name (i := 7) sc__law_star_right.nd rfl (Or.inl rfl))) (fun _ _ _ _ _ => pts_nil) (fun _ _ _ _ _ => (pe_tup (pa_cons pe_str (pa_cons (pe_tup (pa_cons pe_str (pa_cons (pe_ix ix_seq pe_str (pv 7) (fun _ _ => rfl)) pa_nil))) pa_nil))))) pa_nil)) pa_nil)))) (nomark _)) (pss_one (ps_ret pe_bl)) pss_nil) (pss_cons (ps_if (pt_cmpR (op_uNe hr.units) (pe_callB call_lenU rfl m_len (by decide +kernel) (pa_cons (pe_ix ix_seq (pe_cal C_least_helped (hr.mono (by decide)) rfl (pa_cons (pv 3) pa_nil)) pe_int (fun _ _ => rfl)) pa_nil)) pe_int (nomark _)) (pss_one (ps_ret pe_bl)) pss_nil) (pss_one (ps_ret (pe_or (pe_cmpR (op_uEq hr.units) (pv 1) pe_int (nomark _)) (pe_one (pe_cmpR (op_uEq hr.units) (pe_lc (own := [("kind", 6)]) (tt := tYes) rfl sc__law_star_right.nd (pi_list (pe_lst (pa_cons pe_str (pa_cons pe_str (pa_cons pe_str (pa_cons pe_str (pa_cons pe_str (pa_cons pe_str pa_nil)))))))) (blkOk_by (N := N__law_star_right) (sc := defScope s__law_star_right) (by decide +kernel)) (fun _ _ _ _ _ => (pg_name (i := 6) sc__law_star_right.nd rfl (Or.inl rfl))) (fun _ _ _ _ _ => pts_nil) (fun _ _ _ _ _ => (pe_cal C_can_go (hr.mono (by decide)) rfl (pa_cons (pv 6) (pa_cons (pv 3) (pa_cons (pe_cal C__law_draw (hr.mono (by decide)) rfl (pa_cons (pv 0) (pa_cons (pv 1) pa_nil))) pa_nil)))))) (pe_lst (pa_cons pe_bl (pa_cons pe_bl (pa_cons pe_bl (pa_cons pe_bl (pa_cons pe_bl (pa_cons pe_bl pa_nil))))))) (nomark _)))))))))))))
theorem ok__law_row_right  {sp : Sp} (len : ∀ vs H Q E, sp vs H Q E → vs.length = 1)
    (F : FunD K "_law_row_right" "_law_row_right" (defArgs s__law_row_right) (defBody s__law_row_right) (defScope s__law_row_right) [] [] f fd)
    (gF : mg "_law_row_right" = some (.ref f))
    {sp__law_draw : Sp} (C__law_draw : Cal P w K mg base 1 "_law_draw" ["pot", "size"] sp__law_draw)
    {sp__law_mixed : Sp} (C__law_mixed : Cal P w K mg base 2 "_law_mixed" ["pot", "head", "atoms"] sp__law_mixed)
    {sp__law_names : Sp} (C__law_names : Cal P w K mg base 2 "_law_names" ["pot", "many"] sp__law_names)
    {sp_are_held_alike : Sp} (C_are_held_alike : Cal P w K mg base 15 "are_held_alike" ["union", "other_union"] sp_are_held_alike)
    {sp_core : Sp} (C_core : Cal P w K mg base 14 "core" ["question"] sp_core)
    {sp_form_of : Sp} (C_form_of : Cal P w K mg base 14 "form_of" ["question"] sp_form_of)
    {sp_is_core : Sp} (C_is_core : Cal P w K mg base 13 "is_core" ["question"] sp_is_core)
    (m_len : mg "len" = none)
    (m_range : mg "range" = none)
    (m_tuple : mg "tuple" = none)
    (pure : ∀ vs H Q E, sp vs H Q E → t__law_row_right P w K sp__law_draw sp__law_mixed sp__law_names sp_are_held_alike sp_core sp_form_of sp_is_core  { nx := fun _ H' => Q .non H', rt := Q } (start N__law_row_right vs) H) :
    Cal P w K mg base (15 + 1) "_law_row_right" ["pot"] sp := by
  refine ⟨f, fd, gF, F.kp, F.bindsN fun _ _ _ _ _ _ us hl => match us, hl with | [_], _ => rfl, F.ok sc__law_row_right len (fun cdv A outer s H vs Q E hr h => ⟨t__law_row_right P w K sp__law_draw sp__law_mixed sp__law_names sp_are_held_alike sp_core sp_form_of sp_is_core , PSs.nox ?_, pure vs H Q E h⟩)⟩
  exact (pss_cons (ps_set (i := 1) sc__law_row_right.nd rfl (Or.inl rfl) (pe_op op_add pe_int (pe_cal C__law_draw (hr.mono (by decide)) rfl (pa_cons (pv 0) (pa_cons pe_int pa_nil))))) (pss_cons (ps_set (i := 2) sc__law_row_right.nd rfl (Or.inr rfl) (pe_cal C__law_names (hr.mono (by decide)) rfl (pa_cons (pv 0) (pa_cons (pe_op op_add (pv 1) pe_int) pa_nil)))) (pss_cons (ps_setLc (own := [("at", 9)]) (i := 3) rfl sc__law_row_right.nd rfl rfl (sw_true rfl rfl rfl (by decide +kernel)) (pi_range1 rfl m_range (pa_cons (pv 1) pa_nil)) (blkOk_by (N := N__law_row_right) (sc := defScope s__law_row_right) (by decide +kernel)) (fun _ _ _ _ _ => (pg_name (i := 9) sc__law_row_right.nd rfl (Or.inl rfl))) (fun _ _ _ _ _ => pts_nil) (fun _ _ _ _ _ => (pe_tup (pa_cons pe_str (pa_cons (pe_tup (pa_cons (pe_ix ix_seq (pv 2) (pv 9) (fun _ _ => rfl)) (pa_cons (pe_ix ix_seq (pv 2) (pe_op op_add (pv 9) pe_int) (fun _ _ => rfl)) pa_nil))) pa_nil))))) (pss_cons (ps_par (i := 7) (j := 8) rfl sc__law_row_right.nd rfl rfl (by decide) rfl rfl (pa_cons (pe_cal C__law_mixed (hr.mono (by decide)) rfl (pa_cons (pv 0) (pa_cons (pe_tup (pa_cons (pe_ix ix_seq (pv 2) pe_int (fun _ _ => rfl)) pa_nil)) (pa_cons (pv 3) pa_nil)))) (pa_cons (pe_cal C__law_mixed (hr.mono (by decide)) rfl (pa_cons (pv 0) (pa_cons (pe_tup pa_nil) (pa_cons (pv 3) pa_nil)))) pa_nil)) rfl) (pss_cons (ps_if (PW.pt (pw_or (pt_not (pt_val (pe_cal C_is_core (hr.mono (by decide)) rfl (pa_cons (pv 7) pa_nil)))) (pw_or (pt_not (pt_val (pe_cal C_is_core (hr.mono (by decide)) rfl (pa_cons (pv 8) pa_nil)))) (pw_or1 (pt_cmpR (op_uNe hr.units) (pe_cal C_form_of (hr.mono (by decide)) rfl (pa_cons (pv 7) pa_nil)) (pe_tup (pa_cons pe_str (pa_cons (pe_tup (pa_cons pe_str pa_nil)) (pa_cons (pe_callTy call_tupU rfl m_tuple (by decide +kernel) (pa_cons (pe_lc (own := [("at", 9)]) (tt := tYes) rfl sc__law_row_right.nd (pi_range1 rfl m_range (pa_cons (pv 1) pa_nil)) (blkOk_by (N := N__law_row_right) (sc := defScope s__law_row_right) (by decide +kernel)) (fun _ _ _ _ _ => (pg_name (i := 9) sc__law_row_right.nd rfl (Or.inl rfl))) (fun _ _ _ _ _ => pts_nil) (fun _ _ _ _ _ => (pe_tup (pa_cons pe_str (pa_cons (pe_tup (pa_cons (pe_ix ix_seq pe_str (pv 9) (fun _ _ => rfl)) (pa_cons (pe_ix ix_seq pe_str (pe_op op_add (pv 9) pe_int) (fun _ _ => rfl)) pa_nil))) pa_nil))))) pa_nil)) pa_nil)))) (nomark _)))))) (pss_one (ps_ret pe_bl)) pss_nil) (pss_cons (ps_setLc (own := [("table", 10), ("terms", 11)]) (i := 4) rfl sc__law_row_right.nd rfl rfl (sw_true rfl rfl rfl (by decide +kernel)) (pi_list (pv 3)) (blkOk_by (N := N__law_row_right) (sc := defScope s__law_row_right) (by decide +kernel)) (fun _ _ _ _ _ => (pg_tup rfl (pgs_cons (pg_name (i := 10) sc__law_row_right.nd rfl (Or.inl rfl)) (pgs_cons (pg_name (i := 11) sc__law_row_right.nd rfl (Or.inl rfl)) pgs_nil)))) (fun _ _ _ _ _ => pts_nil) (fun _ _ _ _ _ => (pe_tup (pa_cons (pv 10) (pa_cons (pe_revT (pv 11)) pa_nil))))) (pss_cons (ps_set (i := 5) sc__law_row_right.nd rfl (Or.inl rfl) (pe_ifExp (pt_cmpR op_le (pv 1) pe_int (nomark _)) (pe_cal C__law_mixed (hr.mono (by decide)) rfl (pa_cons (pv 0) (pa_cons (pe_tup pa_nil) (pa_cons (pe_slice sl_list (pe_op op_catU (pv 3) (pv 4)) po_none (po_some pe_int)) pa_nil)))) pe_non)) (pss_cons (ps_if (pt_cmp (pc_isN (pv 5))) (pss_one (ps_ret pe_bl)) pss_nil) (pss_cons (ps_set (i := 6) sc__law_row_right.nd rfl (Or.inl rfl) (pe_tup (pa_cons pe_str (pa_cons (pe_tup pa_nil) (pa_cons (pe_tup (pa_cons (pe_tup (pa_cons pe_str (pa_cons (pe_tup (pa_cons pe_str (pa_cons pe_str pa_nil))) pa_nil))) (pa_cons (pe_tup (pa_cons pe_str (pa_cons (pe_tup (pa_cons pe_str (pa_cons pe_str pa_nil))) pa_nil))) pa_nil))) pa_nil))))) (pss_one (ps_ret (pe_and (pe_cmpR (op_uEq hr.units) (pe_cal C_form_of (hr.mono (by decide)) rfl (pa_cons (pe_cal C_core (hr.mono (by decide)) rfl (pa_cons (pv 5) pa_nil)) pa_nil)) (pv 6) (nomark _)) (pe_and (pe_cmpR (op_uEq hr.units) (pe_callB call_lenU rfl m_len (by decide +kernel) (pa_cons (pe_ix ix_seq (pe_cal C_core (hr.mono (by decide)) rfl (pa_cons (pv 5) pa_nil)) pe_int (fun _ _ => rfl)) pa_nil)) pe_int (nomark _)) (pe_one (pe_cmpR op_isBl (pe_cal C_are_held_alike (hr.mono (by decide)) rfl (pa_cons (pv 5) (pa_cons (pv 6) pa_nil))) pe_bl (nomark _))))))))))))))))
theorem ok__law_ring_right  {sp : Sp} (len : ∀ vs H Q E, sp vs H Q E → vs.length = 1)
    (F : FunD K "_law_ring_right" "_law_ring_right" (defArgs s__law_ring_right) (defBody s__law_ring_right) (defScope s__law_ring_right) [] [] f fd)
    (gF : mg "_law_ring_right" = some (.ref f))
    {sp__law_draw : Sp} (C__law_draw : Cal P w K mg base 1 "_law_draw" ["pot", "size"] sp__law_draw)
    {sp__law_mixed : Sp} (C__law_mixed : Cal P w K mg base 2 "_law_mixed" ["pot", "head", "atoms"] sp__law_mixed)
    {sp__law_names : Sp} (C__law_names : Cal P w K mg base 2 "_law_names" ["pot", "many"] sp__law_names)
    {sp_are_held_alike : Sp} (C_are_held_alike : Cal P w K mg base 15 "are_held_alike" ["union", "other_union"] sp_are_held_alike)
    {sp_can_go : Sp} (C_can_go : Cal P w K mg base 15 "can_go" ["kind", "question", "position"] sp_can_go)
    {sp_core : Sp} (C_core : Cal P w K mg base 14 "core" ["question"] sp_core)
    {sp_form_of : Sp} (C_form_of : Cal P w K mg base 14 "form_of" ["question"] sp_form_of)
    {sp_is_core : Sp} (C_is_core : Cal P w K mg base 13 "is_core" ["question"] sp_is_core)
    (m_len : mg "len" = none)
    (m_range : mg "range" = none)
    (pure : ∀ vs H Q E, sp vs H Q E → t__law_ring_right P w K sp__law_draw sp__law_mixed sp__law_names sp_are_held_alike sp_can_go sp_core sp_form_of sp_is_core  { nx := fun _ H' => Q .non H', rt := Q } (start N__law_ring_right vs) H) :
    Cal P w K mg base (15 + 1) "_law_ring_right" ["pot"] sp := by
  refine ⟨f, fd, gF, F.kp, F.bindsN fun _ _ _ _ _ _ us hl => match us, hl with | [_], _ => rfl, F.ok sc__law_ring_right len (fun cdv A outer s H vs Q E hr h => ⟨t__law_ring_right P w K sp__law_draw sp__law_mixed sp__law_names sp_are_held_alike sp_can_go sp_core sp_form_of sp_is_core , PSs.nox ?_, pure vs H Q E h⟩)⟩
  exact (pss_cons (ps_set (i := 1) sc__law_ring_right.nd rfl (Or.inr rfl) (pe_op op_add pe_int (pe_cal C__law_draw (hr.mono (by decide)) rfl (pa_cons (pv 0) (pa_cons pe_int pa_nil))))) (pss_cons (ps_set (i := 2) sc__law_ring_right.nd rfl (Or.inr rfl) (pe_cal C__law_names (hr.mono (by decide)) rfl (pa_cons (pv 0) (pa_cons (pv 1) pa_nil)))) (pss_cons (ps_setLc (own := [("at", 7)]) (i := 3) rfl sc__law_ring_right.nd rfl rfl (sw_true rfl rfl rfl (by decide +kernel)) (pi_range1 rfl m_range (pa_cons (pv 1) pa_nil)) (blkOk_by (N := N__law_ring_right) (sc := defScope s__law_ring_right) (by decide +kernel)) (fun _ _ _ _ _ => (pg_name (i := 7) sc__law_ring_right.nd rfl (Or.inl rfl))) (fun _ _ _ _ _ => pts_nil) (fun _ _ _ _ _ => (pe_tup (pa_cons pe_str (pa_cons (pe_tup (pa_cons (pe_ix ix_seq (pv 2) (pv 7) (fun _ _ => rfl)) (pa_cons (pe_ix ix_seq (pv 2) (pe_ifExp (pt_cmpR op_lt (pe_op op_add (pv 7) pe_int) (pv 1) (nomark _)) (pe_op op_add (pv 7) pe_int) pe_int) (fun _ _ => rfl)) pa_nil))) pa_nil))))) (pss_cons (ps_set (i := 4) sc__law_ring_right.nd rfl (Or.inl rfl) (pe_cal C__law_mixed (hr.mono (by decide)) rfl (pa_cons (pv 0) (pa_cons (pe_tup pa_nil) (pa_cons (pv 3) pa_nil))))) (pss_cons (ps_if (PW.pt (pw_or (pt_not (pt_val (pe_cal C_is_core (hr.mono (by decide)) rfl (pa_cons (pv 4) pa_nil)))) (pw_or1 (pt_cmpR (op_uNe hr.units) (pe_cal C_core (hr.mono (by decide)) rfl (pa_cons (pv 4) pa_nil)) (pv 4) (nomark _))))) (pss_one (ps_ret pe_bl)) pss_nil) (pss_cons (ps_set (i := 5) sc__law_ring_right.nd rfl (Or.inr rfl) (pe_cal C__law_mixed (hr.mono (by decide)) rfl (pa_cons (pv 0) (pa_cons (pe_tup pa_nil) (pa_cons (pe_op op_catU (pe_slice sl_list (pv 3) po_none (po_some pe_int)) (pe_lst (pa_cons (pe_tup (pa_cons pe_str (pa_cons (pe_tup (pa_cons (pe_ix ix_seq (pv 2) pe_int (fun _ _ => rfl)) (pa_cons (pe_ix ix_seq (pv 2) pe_int (fun _ _ => rfl)) pa_nil))) pa_nil))) pa_nil))) pa_nil))))) (pss_cons (ps_set (i := 6) sc__law_ring_right.nd rfl (Or.inl rfl) (pe_tup (pa_cons pe_str (pa_cons (pe_tup pa_nil) (pa_cons (pe_tup (pa_cons (pe_tup (pa_cons pe_str (pa_cons (pe_tup (pa_cons pe_str (pa_cons pe_str pa_nil))) pa_nil))) pa_nil)) pa_nil))))) (pss_one (ps_ret (pe_and (pe_cmpR (op_uEq hr.units) (pe_cal C_form_of (hr.mono (by decide)) rfl (pa_cons (pe_cal C_core (hr.mono (by decide)) rfl (pa_cons (pv 5) pa_nil)) pa_nil)) (pv 6) (nomark _)) (pe_and (pe_cmpR op_isBl (pe_cal C_are_held_alike (hr.mono (by decide)) rfl (pa_cons (pv 5) (pa_cons (pv 6) pa_nil))) pe_bl (nomark _)) (pe_one (pe_cmpR (op_uEq hr.units) (pe_lc (own := [("at", 7)]) (tt := (tTest (tOp (uEq K) (tOp (rIx K) (tOp (rIx K) (tVar 5) (tC (.int 2))) (tVar 7)) (tTup (tCons (tC (.str "Road")) (tCons (tTup (tCons (tOp (rIx K) (tVar 2) (tC (.int 0))) (tCons (tOp (rIx K) (tVar 2) (tC (.int 0))) tNil))) tNil)))))) rfl sc__law_ring_right.nd (pi_range1 rfl m_range (pa_cons (pe_callB call_lenU rfl m_len (by decide +kernel) (pa_cons (pe_ix ix_seq (pv 5) pe_int (fun _ _ => rfl)) pa_nil)) pa_nil)) (blkOk_by (N := N__law_ring_right) (sc := defScope s__law_ring_right) (by decide +kernel)) (fun _ _ _ _ _ => (pg_name (i := 7) sc__law_ring_right.nd rfl (Or.inl rfl))) (fun _ _ _ _ _ => (pts_one (pt_cmpR (op_uEq hr.units) (pe_ix ix_seq (pe_ix ix_seq (pv 5) pe_int (fun _ _ => rfl)) (pv 7) (fun _ _ => rfl)) (pe_tup (pa_cons pe_str (pa_cons (pe_tup (pa_cons (pe_ix ix_seq (pv 2) pe_int (fun _ _ => rfl)) (pa_cons (pe_ix ix_seq (pv 2) pe_int (fun _ _ => rfl)) pa_nil))) pa_nil))) (nomark _)))) (fun _ _ _ _ _ => (pe_cal C_can_go (hr.mono (by decide)) rfl (pa_cons pe_str (pa_cons (pv 5) (pa_cons (pv 7) pa_nil)))))) (pe_lst (pa_cons pe_bl pa_nil)) (nomark _))))))))))))))
theorem ok_law  {sp : Sp} (len : ∀ vs H Q E, sp vs H Q E → vs.length = 1)
    (F : FunD K "law" "law" (defArgs s_law) (defBody s_law) (defScope s_law) [] [] f fd)
    (gF : mg "law" = some (.ref f))
    {sp__law_pot : Sp} (C__law_pot : Cal P w K mg base 1 "_law_pot" ["script", "k"] sp__law_pot)
    {sp__law_ring_right : Sp} (C__law_ring_right : Cal P w K mg base 16 "_law_ring_right" ["pot"] sp__law_ring_right)
    {sp__law_row_right : Sp} (C__law_row_right : Cal P w K mg base 16 "_law_row_right" ["pot"] sp__law_row_right)
    {sp__law_star_right : Sp} (C__law_star_right : Cal P w K mg base 16 "_law_star_right" ["pot"] sp__law_star_right)
    (pure : ∀ vs H Q E, sp vs H Q E → t_law P w K sp__law_pot sp__law_ring_right sp__law_row_right sp__law_star_right  { nx := fun _ H' => Q .non H', rt := Q } (start N_law vs) H) :
    Cal P w K mg base (16 + 1) "law" ["script"] sp := by
  refine ⟨f, fd, gF, F.kp, F.bindsN fun _ _ _ _ _ _ us hl => match us, hl with | [_], _ => rfl, F.ok sc_law len (fun cdv A outer s H vs Q E hr h => ⟨t_law P w K sp__law_pot sp__law_ring_right sp__law_row_right sp__law_star_right , PSs.nox ?_, pure vs H Q E h⟩)⟩
  exact (pss_cons (ps_set (i := 1) sc_law.nd rfl (Or.inl rfl) (pe_cal C__law_pot (hr.mono (by decide)) rfl (pa_cons (pv 0) (pa_cons pe_int pa_nil)))) (pss_one (ps_ret (pe_and (pe_cal C__law_star_right (hr.mono (by decide)) rfl (pa_cons (pv 1) pa_nil)) (pe_and (pe_cal C__law_row_right (hr.mono (by decide)) rfl (pa_cons (pv 1) pa_nil)) (pe_one (pe_cal C__law_ring_right (hr.mono (by decide)) rfl (pa_cons (pv 1) pa_nil))))))))
end
end K68


set_option Elab.async false
set_option linter.all false
set_option maxRecDepth 100000
set_option maxHeartbeats 0
/-! K68END: the head by facts, every def's promise, the statement. -/
namespace K68
open PySem L2 DL PySem.Spec PyProof.Rows
abbrev R : PySem.W.OpenRow := PySem.W.OpenLaw.row PySem.Challenge.rw_markedrows_k68_whole_stars_and_rows_by_f
def names0 : List PySem.Str := ["RowError", "StateError", "InvalidKind", "InvalidQuestion", "InvalidUnion", "InvalidPosition", "UnlikeHeads", "UnlikeTables", "NotLeft", "MOST_NAME", "MOST_WORD", "MOST_VALUE", "SMALL", "CAPITALS", "DIGITS", "is_integer", "is_row", "is_name", "is_word", "is_value", "is_term", "unlike_ones", "value_key", "ASK", "ANY", "MOST_HEAD", "MOST_TERMS", "MOST_ATOMS", "MOST_MEMBERS", "is_terms"]
def names1 : List PySem.Str := ["is_atom", "unlike_table", "names_in", "is_question_of", "is_union_of", "atoms_in", "members_of", "head_length", "led_terms", "led_atoms", "want_question", "want_union", "want_alike", "want_two", "agreed", "led_into", "map_into", "map_using", "told_map", "part_of", "fold_of", "core_of", "is_core", "core", "LETTERS", "term_key", "atom_key", "question_key", "with_terms", "least_from"]
def names2 : List PySem.Str := ["form_in", "stands_held", "least_of", "form_of", "least_union", "are_held_alike", "KINDS", "is_kind", "want_kind", "LATTICES", "HELPED", "covering", "paper_of", "want_going", "going_paper", "can_go", "least_helped", "_law_pot", "_law_draw", "_law_mixed", "_law_names", "_law_star_right", "_law_row_right", "_law_ring_right"]
def names : List PySem.Str := names0 ++ names1 ++ names2
def d_is_integer : He.DefD := ⟨("is_integer", none), "is_integer", "is_integer", defArgs s_is_integer, defBody s_is_integer, defScope s_is_integer, [], []⟩
def d_is_row : He.DefD := ⟨("is_row", none), "is_row", "is_row", defArgs s_is_row, defBody s_is_row, defScope s_is_row, [], []⟩
def d_is_name : He.DefD := ⟨("is_name", none), "is_name", "is_name", defArgs s_is_name, defBody s_is_name, defScope s_is_name, [], []⟩
def d_is_word : He.DefD := ⟨("is_word", none), "is_word", "is_word", defArgs s_is_word, defBody s_is_word, defScope s_is_word, [], []⟩
def d_is_term : He.DefD := ⟨("is_term", none), "is_term", "is_term", defArgs s_is_term, defBody s_is_term, defScope s_is_term, [], []⟩
def d_unlike_ones : He.DefD := ⟨("unlike_ones", none), "unlike_ones", "unlike_ones", defArgs s_unlike_ones, defBody s_unlike_ones, defScope s_unlike_ones, [], []⟩
def d_is_terms : He.DefD := ⟨("is_terms", none), "is_terms", "is_terms", defArgs s_is_terms, defBody s_is_terms, defScope s_is_terms, [], []⟩
def d_is_atom : He.DefD := ⟨("is_atom", none), "is_atom", "is_atom", defArgs s_is_atom, defBody s_is_atom, defScope s_is_atom, [], []⟩
def d_unlike_table : He.DefD := ⟨("unlike_table", none), "unlike_table", "unlike_table", defArgs s_unlike_table, defBody s_unlike_table, defScope s_unlike_table, [], []⟩
def d_names_in : He.DefD := ⟨("names_in", none), "names_in", "names_in", defArgs s_names_in, defBody s_names_in, defScope s_names_in, [], []⟩
def d_is_question_of : He.DefD := ⟨("is_question_of", none), "is_question_of", "is_question_of", defArgs s_is_question_of, defBody s_is_question_of, defScope s_is_question_of, [], []⟩
def d_is_union_of : He.DefD := ⟨("is_union_of", none), "is_union_of", "is_union_of", defArgs s_is_union_of, defBody s_is_union_of, defScope s_is_union_of, [], []⟩
def d_atoms_in : He.DefD := ⟨("atoms_in", none), "atoms_in", "atoms_in", defArgs s_atoms_in, defBody s_atoms_in, defScope s_atoms_in, [], []⟩
def d_members_of : He.DefD := ⟨("members_of", none), "members_of", "members_of", defArgs s_members_of, defBody s_members_of, defScope s_members_of, [], []⟩
def d_head_length : He.DefD := ⟨("head_length", none), "head_length", "head_length", defArgs s_head_length, defBody s_head_length, defScope s_head_length, [], []⟩
def d_led_terms : He.DefD := ⟨("led_terms", none), "led_terms", "led_terms", defArgs s_led_terms, defBody s_led_terms, defScope s_led_terms, [], []⟩
def d_led_atoms : He.DefD := ⟨("led_atoms", none), "led_atoms", "led_atoms", defArgs s_led_atoms, defBody s_led_atoms, defScope s_led_atoms, [], []⟩
def d_want_question : He.DefD := ⟨("want_question", none), "want_question", "want_question", defArgs s_want_question, defBody s_want_question, defScope s_want_question, [], []⟩
def d_want_union : He.DefD := ⟨("want_union", none), "want_union", "want_union", defArgs s_want_union, defBody s_want_union, defScope s_want_union, [], []⟩
def d_want_alike : He.DefD := ⟨("want_alike", none), "want_alike", "want_alike", defArgs s_want_alike, defBody s_want_alike, defScope s_want_alike, [], []⟩
def d_want_two : He.DefD := ⟨("want_two", none), "want_two", "want_two", defArgs s_want_two, defBody s_want_two, defScope s_want_two, [], []⟩
def d_agreed : He.DefD := ⟨("agreed", none), "agreed", "agreed", defArgs s_agreed, defBody s_agreed, defScope s_agreed, [], []⟩
def d_led_into : He.DefD := ⟨("led_into", none), "led_into", "led_into", defArgs s_led_into, defBody s_led_into, defScope s_led_into, [], []⟩
def d_map_into : He.DefD := ⟨("map_into", none), "map_into", "map_into", defArgs s_map_into, defBody s_map_into, defScope s_map_into, [], []⟩
def d_map_using : He.DefD := ⟨("map_using", none), "map_using", "map_using", defArgs s_map_using, defBody s_map_using, defScope s_map_using, [], []⟩
def d_told_map : He.DefD := ⟨("told_map", none), "told_map", "told_map", defArgs s_told_map, defBody s_told_map, defScope s_told_map, [], []⟩
def d_part_of : He.DefD := ⟨("part_of", none), "part_of", "part_of", defArgs s_part_of, defBody s_part_of, defScope s_part_of, [], []⟩
def d_fold_of : He.DefD := ⟨("fold_of", none), "fold_of", "fold_of", defArgs s_fold_of, defBody s_fold_of, defScope s_fold_of, [], []⟩
def d_core_of : He.DefD := ⟨("core_of", none), "core_of", "core_of", defArgs s_core_of, defBody s_core_of, defScope s_core_of, [], []⟩
def d_is_core : He.DefD := ⟨("is_core", none), "is_core", "is_core", defArgs s_is_core, defBody s_is_core, defScope s_is_core, [], []⟩
def d_core : He.DefD := ⟨("core", none), "core", "core", defArgs s_core, defBody s_core, defScope s_core, [], []⟩
def d_term_key : He.DefD := ⟨("term_key", none), "term_key", "term_key", defArgs s_term_key, defBody s_term_key, defScope s_term_key, [], []⟩
def d_atom_key : He.DefD := ⟨("atom_key", none), "atom_key", "atom_key", defArgs s_atom_key, defBody s_atom_key, defScope s_atom_key, [], []⟩
def d_question_key : He.DefD := ⟨("question_key", none), "question_key", "question_key", defArgs s_question_key, defBody s_question_key, defScope s_question_key, [], []⟩
def d_with_terms : He.DefD := ⟨("with_terms", none), "with_terms", "with_terms", defArgs s_with_terms, defBody s_with_terms, defScope s_with_terms, [], []⟩
def d_least_from : He.DefD := ⟨("least_from", none), "least_from", "least_from", defArgs s_least_from, defBody s_least_from, defScope s_least_from, [], []⟩
def d_form_in : He.DefD := ⟨("form_in", none), "form_in", "form_in", defArgs s_form_in, defBody s_form_in, defScope s_form_in, [], []⟩
def d_least_of : He.DefD := ⟨("least_of", none), "least_of", "least_of", defArgs s_least_of, defBody s_least_of, defScope s_least_of, [], []⟩
def d_form_of : He.DefD := ⟨("form_of", none), "form_of", "form_of", defArgs s_form_of, defBody s_form_of, defScope s_form_of, [], []⟩
def d_least_union : He.DefD := ⟨("least_union", none), "least_union", "least_union", defArgs s_least_union, defBody s_least_union, defScope s_least_union, [], []⟩
def d_are_held_alike : He.DefD := ⟨("are_held_alike", none), "are_held_alike", "are_held_alike", defArgs s_are_held_alike, defBody s_are_held_alike, defScope s_are_held_alike, [], []⟩
def d_is_kind : He.DefD := ⟨("is_kind", none), "is_kind", "is_kind", defArgs s_is_kind, defBody s_is_kind, defScope s_is_kind, [], []⟩
def d_want_kind : He.DefD := ⟨("want_kind", none), "want_kind", "want_kind", defArgs s_want_kind, defBody s_want_kind, defScope s_want_kind, [], []⟩
def d_covering : He.DefD := ⟨("covering", none), "covering", "covering", defArgs s_covering, defBody s_covering, defScope s_covering, [], []⟩
def d_paper_of : He.DefD := ⟨("paper_of", none), "paper_of", "paper_of", defArgs s_paper_of, defBody s_paper_of, defScope s_paper_of, [], []⟩
def d_want_going : He.DefD := ⟨("want_going", none), "want_going", "want_going", defArgs s_want_going, defBody s_want_going, defScope s_want_going, [], []⟩
def d_going_paper : He.DefD := ⟨("going_paper", none), "going_paper", "going_paper", defArgs s_going_paper, defBody s_going_paper, defScope s_going_paper, [], []⟩
def d_can_go : He.DefD := ⟨("can_go", none), "can_go", "can_go", defArgs s_can_go, defBody s_can_go, defScope s_can_go, [], []⟩
def d_least_helped : He.DefD := ⟨("least_helped", none), "least_helped", "least_helped", defArgs s_least_helped, defBody s_least_helped, defScope s_least_helped, [], []⟩
def d__law_pot : He.DefD := ⟨("_law_pot", none), "_law_pot", "_law_pot", defArgs s__law_pot, defBody s__law_pot, defScope s__law_pot, [], []⟩
def d__law_draw : He.DefD := ⟨("_law_draw", none), "_law_draw", "_law_draw", defArgs s__law_draw, defBody s__law_draw, defScope s__law_draw, [], []⟩
def d__law_mixed : He.DefD := ⟨("_law_mixed", none), "_law_mixed", "_law_mixed", defArgs s__law_mixed, defBody s__law_mixed, defScope s__law_mixed, [], []⟩
def d__law_names : He.DefD := ⟨("_law_names", none), "_law_names", "_law_names", defArgs s__law_names, defBody s__law_names, defScope s__law_names, [], []⟩
def d__law_star_right : He.DefD := ⟨("_law_star_right", none), "_law_star_right", "_law_star_right", defArgs s__law_star_right, defBody s__law_star_right, defScope s__law_star_right, [], []⟩
def d__law_row_right : He.DefD := ⟨("_law_row_right", none), "_law_row_right", "_law_row_right", defArgs s__law_row_right, defBody s__law_row_right, defScope s__law_row_right, [], []⟩
def d__law_ring_right : He.DefD := ⟨("_law_ring_right", none), "_law_ring_right", "_law_ring_right", defArgs s__law_ring_right, defBody s__law_ring_right, defScope s__law_ring_right, [], []⟩
def d_law : He.DefD := ⟨("law", none), "law", "law", defArgs s_law, defBody s_law, defScope s_law, [], []⟩
def fn : List He.DefD := [d_is_integer, d_is_row, d_is_name, d_is_word, d_is_term, d_unlike_ones, d_is_terms, d_is_atom, d_unlike_table, d_names_in, d_is_question_of, d_is_union_of, d_atoms_in, d_members_of, d_head_length, d_led_terms, d_led_atoms, d_want_question, d_want_union, d_want_alike, d_want_two, d_agreed, d_led_into, d_map_into, d_map_using, d_told_map, d_part_of, d_fold_of, d_core_of, d_is_core, d_core, d_term_key, d_atom_key, d_question_key, d_with_terms, d_least_from, d_form_in, d_least_of, d_form_of, d_least_union, d_are_held_alike, d_is_kind, d_want_kind, d_covering, d_paper_of, d_want_going, d_going_paper, d_can_go, d_least_helped, d__law_pot, d__law_draw, d__law_mixed, d__law_names, d__law_star_right, d__law_row_right, d__law_ring_right, d_law]
def fa : List He.Fa := [.glo "is_integer", .glo "is_row", .glo "is_name", .glo "is_word", .glo "is_term", .glo "unlike_ones", .glo "is_terms", .glo "is_atom", .glo "unlike_table", .glo "names_in", .glo "is_question_of", .glo "is_union_of", .glo "atoms_in", .glo "members_of", .glo "head_length", .glo "led_terms", .glo "led_atoms", .glo "want_question", .glo "want_union", .glo "want_alike", .glo "want_two", .glo "agreed", .glo "led_into", .glo "map_into", .glo "map_using", .glo "told_map", .glo "part_of", .glo "fold_of", .glo "core_of", .glo "is_core", .glo "core", .glo "term_key", .glo "atom_key", .glo "question_key", .glo "with_terms", .glo "least_from", .glo "form_in", .glo "least_of", .glo "form_of", .glo "least_union", .glo "are_held_alike", .glo "is_kind", .glo "want_kind", .glo "covering", .glo "paper_of", .glo "want_going", .glo "going_paper", .glo "can_go", .glo "least_helped", .glo "_law_pot", .glo "_law_draw", .glo "_law_mixed", .glo "_law_names", .glo "_law_star_right", .glo "_law_row_right", .glo "_law_ring_right", .glo "law", .free "bool", .free "int", .free "isinstance", .free "len", .free "tuple", .int "MOST_NAME" 8, .str "SMALL" "abcdefghijklmnopqrstuvwxyz", .free "all", .free "str", .str "CAPITALS" "ABCDEFGHIJKLMNOPQRSTUVWXYZ", .int "MOST_WORD" 12, .free "list", .int "MOST_TERMS" 4, .free "set", .free "sorted", .str "ASK" "ask", .int "MOST_ATOMS" 6, .int "MOST_HEAD" 4, .str "ANY" "any", .free "dict", .free "zip", .free "enumerate", .str "LETTERS" "abcdefghijklmnopqrstuvwxyz", .free "min", .free "any", .glo "KINDS", .glo "LATTICES", .str "HELPED" "helped", .free "range", .free "abs", .free "max", .free "divmod"]
def ex (K : PySem.W.Frag) : Bool := He.tupB K "KINDS" (KINDS.map He.Dv.str) && He.tupB K "LATTICES" (LATT.map He.Dv.str)
abbrev hk : PySem.W.Hook := He.hookX 4 fa fn [] [] ex
def ob (s : PySem.W.SharedT) : He.AlX := He.obsX 4 fa fn [] [] ex (HandSHeadRun.getT s)
theorem ob_eq (s : PySem.W.SharedT) : ob s = hk.obs s.abs := He.obsX_eq (HandSHeadRun.getT_eq s)
theorem run (w : World) : HandSHeadRun.RunEq R (PySem.W.view R.prog [92]) hk ob 20000 names w := by
  intro os
  kernel_rfl
theorem vs_str (K : PySem.W.Frag) (xs : List Str) : (xs.map He.Dv.str).map (He.Dv.v K) = xs.map V.str := by rw [List.map_map]; rfl
theorem tup_of {K : PySem.W.Frag} {x : Str} {xs : List Str} (h : He.tupB K x (xs.map He.Dv.str) = true) : ∀ S, Dp K S (.ref (He.ga K x)) (.tuple (xs.map .str)) := fun S => by
  have h1 := He.tupB_ok h S
  rw [vs_str] at h1
  exact .tup h1 (dps_strs' xs)
theorem cal_vac {P : Program} {w : World} {K : PySem.W.Frag} {mg : Str → Option Value} {base : Heap} {k : Nat} {x : Str} {ps : List Str} {sp : Sp} {f : Addr} {fd : FuncData} (g : mg x = some (.ref f)) (kp : PySem.W.keepIn K (.ref f) = true) (b : Binds K fd ps []) (h : ∀ vs H Q E, sp vs H Q E → False) : Cal P w K mg base k x ps sp :=
  ⟨f, fd, g, kp, b, ⟨fun vs H Q E z => (h vs H Q E z).elim, fun A outer s H args us vs Q E hr e0 hb hv z => (h vs H Q E z).elim⟩⟩
section
variable {P : Program} {w : World} {K : PySem.W.Frag}

theorem len_is_integer : ∀ vs H Q E, sp_is_integer K vs H Q E → vs.length = 1 := len_of fun i S vs h => dps_len h
theorem len_is_row : ∀ vs H Q E, sp_is_row K vs H Q E → vs.length = 2 := len_of fun i S vs h => dps_len h
theorem len_is_name : ∀ vs H Q E, sp_is_name K vs H Q E → vs.length = 1 := len_of fun i S vs h => dps_len h
theorem len_is_word : ∀ vs H Q E, sp_is_word K vs H Q E → vs.length = 1 := len_of fun i S vs h => dps_len h
theorem len_is_term : ∀ vs H Q E, sp_is_term K vs H Q E → vs.length = 1 := len_of fun i S vs h => dps_len h
theorem len_unlike_ones : ∀ vs H Q E, sp_unlike_ones K vs H Q E → vs.length = 1 := len_of fun i S vs h => dps_len h
theorem len_is_terms : ∀ vs H Q E, sp_is_terms K vs H Q E → vs.length = 3 := len_of fun i S vs h => dps_len h
theorem len_is_atom : ∀ vs H Q E, sp_is_atom K vs H Q E → vs.length = 1 := len_of fun i S vs h => dps_len h
theorem len_unlike_table : ∀ vs H Q E, sp_unlike_table K vs H Q E → vs.length = 1 := len_of fun i S vs h => dps_len h
theorem len_names_in : ∀ vs H Q E, sp_names_in K vs H Q E → vs.length = 1 := len_of fun i S vs h => dps_len h
theorem len_is_question_of : ∀ vs H Q E, sp_is_question_of K vs H Q E → vs.length = 1 := len_of fun i S vs h => dps_len h
theorem len_is_union_of : ∀ vs H Q E, sp_is_union_of K vs H Q E → vs.length = 1 := len_of fun i S vs h => dps_len h
theorem len_atoms_in : ∀ vs H Q E, sp_atoms_in K vs H Q E → vs.length = 1 := len_of fun i S vs h => dps_len h
theorem len_members_of : ∀ vs H Q E, sp_members_of K vs H Q E → vs.length = 1 := len_of fun i S vs h => dps_len h
theorem len_head_length : ∀ vs H Q E, sp_head_length K vs H Q E → vs.length = 1 := len_of fun i S vs h => dps_len h
theorem len_want_question : ∀ vs H Q E, sp_want_question K vs H Q E → vs.length = 1 := len_of fun i S vs h => dps_len h
theorem len_want_union : ∀ vs H Q E, sp_want_union K vs H Q E → vs.length = 1 := len_of fun i S vs h => dps_len h
theorem len_want_alike : ∀ vs H Q E, sp_want_alike K vs H Q E → vs.length = 2 := len_of fun i S vs h => dps_len h
theorem len_want_two : ∀ vs H Q E, sp_want_two K vs H Q E → vs.length = 2 := len_of fun i S vs h => dps_len h
theorem len_map_into : ∀ vs H Q E, sp_map_into K vs H Q E → vs.length = 3 := len_of fun i S vs h => dps_len h
theorem len_map_using : ∀ vs H Q E, sp_map_using K vs H Q E → vs.length = 4 := len_of fun i S vs h => dps_len h
theorem len_part_of : ∀ vs H Q E, sp_part_of K vs H Q E → vs.length = 2 := len_of fun i S vs h => dps_len h
theorem len_fold_of : ∀ vs H Q E, sp_fold_of K vs H Q E → vs.length = 1 := len_of fun i S vs h => dps_len h
theorem len_core_of : ∀ vs H Q E, sp_core_of K vs H Q E → vs.length = 1 := len_of fun i S vs h => dps_len h
theorem len_is_core : ∀ vs H Q E, sp_is_core K vs H Q E → vs.length = 1 := len_of fun i S vs h => dps_len h
theorem len_core : ∀ vs H Q E, sp_core K vs H Q E → vs.length = 1 := len_of fun i S vs h => dps_len h
theorem len_term_key : ∀ vs H Q E, sp_term_key K vs H Q E → vs.length = 1 := len_of fun i S vs h => dps_len h
theorem len_atom_key : ∀ vs H Q E, sp_atom_key K vs H Q E → vs.length = 1 := len_of fun i S vs h => dps_len h
theorem len_question_key : ∀ vs H Q E, sp_question_key K vs H Q E → vs.length = 1 := len_of fun i S vs h => dps_len h
theorem len_least_of : ∀ vs H Q E, sp_least_of K vs H Q E → vs.length = 1 := len_of fun i S vs h => dps_len h
theorem len_least_union : ∀ vs H Q E, sp_least_union K vs H Q E → vs.length = 1 := len_of fun i S vs h => dps_len h
theorem len_are_held_alike : ∀ vs H Q E, sp_are_held_alike K vs H Q E → vs.length = 2 := len_of fun i S vs h => dps_len h
theorem len_is_kind : ∀ vs H Q E, sp_is_kind K vs H Q E → vs.length = 1 := len_of fun i S vs h => dps_len h
theorem len_want_kind : ∀ vs H Q E, sp_want_kind K vs H Q E → vs.length = 1 := len_of fun i S vs h => dps_len h
theorem len_covering : ∀ vs H Q E, sp_covering K vs H Q E → vs.length = 2 := len_of fun i S vs h => dps_len h
theorem len_paper_of : ∀ vs H Q E, sp_paper_of K vs H Q E → vs.length = 3 := len_of fun i S vs h => dps_len h
theorem len_want_going : ∀ vs H Q E, sp_want_going K vs H Q E → vs.length = 3 := len_of fun i S vs h => dps_len h
theorem len_going_paper : ∀ vs H Q E, sp_going_paper K vs H Q E → vs.length = 3 := len_of fun i S vs h => dps_len h
theorem len_can_go : ∀ vs H Q E, sp_can_go K vs H Q E → vs.length = 3 := len_of fun i S vs h => dps_len h
theorem len_least_helped : ∀ vs H Q E, sp_least_helped K vs H Q E → vs.length = 1 := len_of fun i S vs h => dps_len h
theorem len_law : ∀ vs H Q E, sp_law K vs H Q E → vs.length = 1 := len_of fun i S vs h => dps_len h
theorem len_led_terms : ∀ vs H Q E, sp_led_terms K vs H Q E → vs.length = 2 := len_of fun i S vs h => by obtain ⟨_, _, rfl, _⟩ := h; rfl
theorem len_led_atoms : ∀ vs H Q E, sp_led_atoms K vs H Q E → vs.length = 2 := len_of fun i S vs h => by obtain ⟨_, _, rfl, _⟩ := h; rfl
theorem len_agreed : ∀ vs H Q E, sp_agreed K vs H Q E → vs.length = 3 := len_of fun i S vs h => by obtain ⟨_, _, _, rfl, _⟩ := h; rfl
theorem len_led_into (j : Nat) : ∀ vs H Q E, sp_led_into K j vs H Q E → vs.length = 3 := len_of fun i S vs h => by obtain ⟨_, _, _, rfl, _⟩ := h; rfl
theorem len_told_map : ∀ vs H Q E, sp_told_map K vs H Q E → vs.length = 1 := len_of fun i S vs h => by obtain ⟨_, rfl, _⟩ := h; rfl
theorem len_with_terms : ∀ vs H Q E, sp_with_terms K vs H Q E → vs.length = 2 := len_of fun i S vs h => by obtain ⟨_, _, rfl, _⟩ := h; rfl
theorem len_least_from (j : Nat) : ∀ vs H Q E, sp_least_from K j vs H Q E → vs.length = 3 := len_of fun i S vs h => by obtain ⟨_, _, _, rfl, _⟩ := h; rfl
theorem len_form_in : ∀ vs H Q E, sp_form_in K vs H Q E → vs.length = 1 := len_of fun i S vs h => by obtain ⟨_, _, rfl, _⟩ := h; rfl
theorem len_form_of : ∀ vs H Q E, sp_form_ofC K vs H Q E → vs.length = 1 := len_of fun i S vs h => by obtain ⟨_, _, rfl, _⟩ := h; rfl
theorem len__law_names : ∀ vs H Q E, sp__law_names P w K vs H Q E → vs.length = 2 := len_of fun i S vs h => by obtain ⟨rfl, _⟩ := h; rfl
theorem len__law_mixed : ∀ vs H Q E, sp__law_mixed P w K vs H Q E → vs.length = 3 := len_of fun i S vs h => by obtain ⟨_, _, rfl, _⟩ := h; rfl
theorem len__law_star_right : ∀ vs H Q E, sp__law_star_right P w K vs H Q E → vs.length = 1 := len_of fun i S vs h => by obtain ⟨rfl, _⟩ := h; rfl
theorem len__law_row_right : ∀ vs H Q E, sp__law_row_right P w K vs H Q E → vs.length = 1 := len_of fun i S vs h => by obtain ⟨rfl, _⟩ := h; rfl
theorem len__law_ring_right : ∀ vs H Q E, sp__law_ring_right P w K vs H Q E → vs.length = 1 := len_of fun i S vs h => by obtain ⟨rfl, _⟩ := h; rfl
theorem len__law_pot : ∀ vs H Q E, spL_pot K vs H Q E → vs.length = 2 := fun vs H Q E h => by obtain ⟨_, _, _, _, rfl, _⟩ := h; rfl
theorem len__law_draw : ∀ vs H Q E, spL_draw K vs H Q E → vs.length = 2 := fun vs H Q E h => by obtain ⟨_, _, _, _, rfl, _⟩ := h; rfl
theorem vac_led_into : ∀ vs H Q E, sp_led_into K 0 vs H Q E → False := fun vs H Q E ⟨i, _⟩ => by have := i.2; omega
theorem vac_least_from : ∀ vs H Q E, sp_least_from K 0 vs H Q E → False := fun vs H Q E ⟨i, _⟩ => by have := i.2; omega
end
section
variable {P : Program} {w : World} {K : PySem.W.Frag} {mg : Str → Option Value} {base : Heap} {f : Addr} {fd : FuncData}
theorem fn_law  {sp : Sp} (len : ∀ vs H Q E, sp vs H Q E → vs.length = 1)
    (F : FunD K "law" "law" (defArgs s_law) (defBody s_law) (defScope s_law) [] [] f fd)
    {sp__law_pot : Sp} (C__law_pot : Cal P w K mg base 1 "_law_pot" ["script", "k"] sp__law_pot)
    {sp__law_ring_right : Sp} (C__law_ring_right : Cal P w K mg base 16 "_law_ring_right" ["pot"] sp__law_ring_right)
    {sp__law_row_right : Sp} (C__law_row_right : Cal P w K mg base 16 "_law_row_right" ["pot"] sp__law_row_right)
    {sp__law_star_right : Sp} (C__law_star_right : Cal P w K mg base 16 "_law_star_right" ["pot"] sp__law_star_right)
    (pure : ∀ vs H Q E, sp vs H Q E → t_law P w K sp__law_pot sp__law_ring_right sp__law_row_right sp__law_star_right  { nx := fun _ H' => Q .non H', rt := Q } (start N_law vs) H) :
    FnOk P w K mg base CX0 (16 + 1) f fd ["script"] sp := by
  refine F.ok sc_law len (fun cdv A outer s H vs Q E hr h => ⟨t_law P w K sp__law_pot sp__law_ring_right sp__law_row_right sp__law_star_right , PSs.nox ?_, pure vs H Q E h⟩)
  exact (pss_cons (ps_set (i := 1) sc_law.nd rfl (Or.inl rfl) (pe_cal C__law_pot (hr.mono (by decide)) rfl (pa_cons (pv 0) (pa_cons pe_int pa_nil)))) (pss_one (ps_ret (pe_and (pe_cal C__law_star_right (hr.mono (by decide)) rfl (pa_cons (pv 1) pa_nil)) (pe_and (pe_cal C__law_row_right (hr.mono (by decide)) rfl (pa_cons (pv 1) pa_nil)) (pe_one (pe_cal C__law_ring_right (hr.mono (by decide)) rfl (pa_cons (pv 1) pa_nil))))))))
end
theorem law_in {K : PySem.W.Frag} {H : Hp} {a : Addr} {ns : List Int} (hS : SqL K H a (ns.map V.int)) : sp_law K [.ref a] H (fun v _ => v = .bl true) (fun _ _ _ => False) := by
  have hd : ∀ (S : Hp) (ns : List Int), DpAll K S (ns.map V.int) (ns.map PyData.int) := fun S ns => by
    induction ns with
    | nil => exact .nil
    | cons x r ih => exact .cons (.int x) ih
  exact ⟨ns, H, Evl.Ex.refl H, fun S' e => .cons (.lst (Evl.ex_l e hS) (hd S' ns)) .nil, fun v S' H' ok p => by have := p.now; cases this; rfl⟩
theorem facts {P : Program} {w : World} {K : PySem.W.Frag} {h : Heap} {mg : Str → Option Value} {f : Addr} (X : K.In h) (G : h.Ns mainGlobals mg) (hfa : mg ("law" : Str) = some (.ref f)) (c : He.SaysD fa fn K) (hx : ex K = true) :
    ∃ fd : FuncData, (∀ (s : Shared) (v : Value), BindsTo s fd ⟨[v], []⟩ [("script", v)]) ∧ ∀ base : Heap, K.In base → base.Ns mainGlobals mg → FnOk P w K mg base CX0 17 f fd ["script"] (sp_law K) := by
  obtain ⟨hKi, hLa⟩ := He.ba (show (He.tupB K "KINDS" (KINDS.map He.Dv.str) && He.tupB K "LATTICES" (LATT.map He.Dv.str)) = true from hx)
  have cK : ∀ S, Dp K S (.ref (He.ga K "KINDS")) KINDSD := tup_of hKi
  have cL : ∀ S, Dp K S (.ref (He.ga K "LATTICES")) LATTD := tup_of hLa
  have g_is_integer := He.glo_ok X G (c.fact 0 (f := .glo "is_integer") rfl)
  have g_is_row := He.glo_ok X G (c.fact 1 (f := .glo "is_row") rfl)
  have g_is_name := He.glo_ok X G (c.fact 2 (f := .glo "is_name") rfl)
  have g_is_word := He.glo_ok X G (c.fact 3 (f := .glo "is_word") rfl)
  have g_is_term := He.glo_ok X G (c.fact 4 (f := .glo "is_term") rfl)
  have g_unlike_ones := He.glo_ok X G (c.fact 5 (f := .glo "unlike_ones") rfl)
  have g_is_terms := He.glo_ok X G (c.fact 6 (f := .glo "is_terms") rfl)
  have g_is_atom := He.glo_ok X G (c.fact 7 (f := .glo "is_atom") rfl)
  have g_unlike_table := He.glo_ok X G (c.fact 8 (f := .glo "unlike_table") rfl)
  have g_names_in := He.glo_ok X G (c.fact 9 (f := .glo "names_in") rfl)
  have g_is_question_of := He.glo_ok X G (c.fact 10 (f := .glo "is_question_of") rfl)
  have g_is_union_of := He.glo_ok X G (c.fact 11 (f := .glo "is_union_of") rfl)
  have g_atoms_in := He.glo_ok X G (c.fact 12 (f := .glo "atoms_in") rfl)
  have g_members_of := He.glo_ok X G (c.fact 13 (f := .glo "members_of") rfl)
  have g_head_length := He.glo_ok X G (c.fact 14 (f := .glo "head_length") rfl)
  have g_led_terms := He.glo_ok X G (c.fact 15 (f := .glo "led_terms") rfl)
  have g_led_atoms := He.glo_ok X G (c.fact 16 (f := .glo "led_atoms") rfl)
  have g_want_question := He.glo_ok X G (c.fact 17 (f := .glo "want_question") rfl)
  have g_want_union := He.glo_ok X G (c.fact 18 (f := .glo "want_union") rfl)
  have g_want_alike := He.glo_ok X G (c.fact 19 (f := .glo "want_alike") rfl)
  have g_want_two := He.glo_ok X G (c.fact 20 (f := .glo "want_two") rfl)
  have g_agreed := He.glo_ok X G (c.fact 21 (f := .glo "agreed") rfl)
  have g_led_into := He.glo_ok X G (c.fact 22 (f := .glo "led_into") rfl)
  have g_map_into := He.glo_ok X G (c.fact 23 (f := .glo "map_into") rfl)
  have g_map_using := He.glo_ok X G (c.fact 24 (f := .glo "map_using") rfl)
  have g_told_map := He.glo_ok X G (c.fact 25 (f := .glo "told_map") rfl)
  have g_part_of := He.glo_ok X G (c.fact 26 (f := .glo "part_of") rfl)
  have g_fold_of := He.glo_ok X G (c.fact 27 (f := .glo "fold_of") rfl)
  have g_core_of := He.glo_ok X G (c.fact 28 (f := .glo "core_of") rfl)
  have g_is_core := He.glo_ok X G (c.fact 29 (f := .glo "is_core") rfl)
  have g_core := He.glo_ok X G (c.fact 30 (f := .glo "core") rfl)
  have g_term_key := He.glo_ok X G (c.fact 31 (f := .glo "term_key") rfl)
  have g_atom_key := He.glo_ok X G (c.fact 32 (f := .glo "atom_key") rfl)
  have g_question_key := He.glo_ok X G (c.fact 33 (f := .glo "question_key") rfl)
  have g_with_terms := He.glo_ok X G (c.fact 34 (f := .glo "with_terms") rfl)
  have g_least_from := He.glo_ok X G (c.fact 35 (f := .glo "least_from") rfl)
  have g_form_in := He.glo_ok X G (c.fact 36 (f := .glo "form_in") rfl)
  have g_least_of := He.glo_ok X G (c.fact 37 (f := .glo "least_of") rfl)
  have g_form_of := He.glo_ok X G (c.fact 38 (f := .glo "form_of") rfl)
  have g_least_union := He.glo_ok X G (c.fact 39 (f := .glo "least_union") rfl)
  have g_are_held_alike := He.glo_ok X G (c.fact 40 (f := .glo "are_held_alike") rfl)
  have g_is_kind := He.glo_ok X G (c.fact 41 (f := .glo "is_kind") rfl)
  have g_want_kind := He.glo_ok X G (c.fact 42 (f := .glo "want_kind") rfl)
  have g_covering := He.glo_ok X G (c.fact 43 (f := .glo "covering") rfl)
  have g_paper_of := He.glo_ok X G (c.fact 44 (f := .glo "paper_of") rfl)
  have g_want_going := He.glo_ok X G (c.fact 45 (f := .glo "want_going") rfl)
  have g_going_paper := He.glo_ok X G (c.fact 46 (f := .glo "going_paper") rfl)
  have g_can_go := He.glo_ok X G (c.fact 47 (f := .glo "can_go") rfl)
  have g_least_helped := He.glo_ok X G (c.fact 48 (f := .glo "least_helped") rfl)
  have g__law_pot := He.glo_ok X G (c.fact 49 (f := .glo "_law_pot") rfl)
  have g__law_draw := He.glo_ok X G (c.fact 50 (f := .glo "_law_draw") rfl)
  have g__law_mixed := He.glo_ok X G (c.fact 51 (f := .glo "_law_mixed") rfl)
  have g__law_names := He.glo_ok X G (c.fact 52 (f := .glo "_law_names") rfl)
  have g__law_star_right := He.glo_ok X G (c.fact 53 (f := .glo "_law_star_right") rfl)
  have g__law_row_right := He.glo_ok X G (c.fact 54 (f := .glo "_law_row_right") rfl)
  have g__law_ring_right := He.glo_ok X G (c.fact 55 (f := .glo "_law_ring_right") rfl)
  have g_law := He.glo_ok X G (c.fact 56 (f := .glo "law") rfl)
  have m_bool : mg "bool" = none := He.free_ok X G (c.fact 57 (f := .free "bool") rfl)
  have m_int : mg "int" = none := He.free_ok X G (c.fact 58 (f := .free "int") rfl)
  have m_isinstance : mg "isinstance" = none := He.free_ok X G (c.fact 59 (f := .free "isinstance") rfl)
  have m_len : mg "len" = none := He.free_ok X G (c.fact 60 (f := .free "len") rfl)
  have m_tuple : mg "tuple" = none := He.free_ok X G (c.fact 61 (f := .free "tuple") rfl)
  have c_MOST_NAME := He.int_ok X G (c.fact 62 (f := .int "MOST_NAME" 8) rfl)
  have c_SMALL := He.str_ok X G (c.fact 63 (f := .str "SMALL" "abcdefghijklmnopqrstuvwxyz") rfl)
  have m_all : mg "all" = none := He.free_ok X G (c.fact 64 (f := .free "all") rfl)
  have m_str : mg "str" = none := He.free_ok X G (c.fact 65 (f := .free "str") rfl)
  have c_CAPITALS := He.str_ok X G (c.fact 66 (f := .str "CAPITALS" "ABCDEFGHIJKLMNOPQRSTUVWXYZ") rfl)
  have c_MOST_WORD := He.int_ok X G (c.fact 67 (f := .int "MOST_WORD" 12) rfl)
  have m_list : mg "list" = none := He.free_ok X G (c.fact 68 (f := .free "list") rfl)
  have c_MOST_TERMS := He.int_ok X G (c.fact 69 (f := .int "MOST_TERMS" 4) rfl)
  have m_set : mg "set" = none := He.free_ok X G (c.fact 70 (f := .free "set") rfl)
  have m_sorted : mg "sorted" = none := He.free_ok X G (c.fact 71 (f := .free "sorted") rfl)
  have c_ASK := He.str_ok X G (c.fact 72 (f := .str "ASK" "ask") rfl)
  have c_MOST_ATOMS := He.int_ok X G (c.fact 73 (f := .int "MOST_ATOMS" 6) rfl)
  have c_MOST_HEAD := He.int_ok X G (c.fact 74 (f := .int "MOST_HEAD" 4) rfl)
  have c_ANY := He.str_ok X G (c.fact 75 (f := .str "ANY" "any") rfl)
  have m_dict : mg "dict" = none := He.free_ok X G (c.fact 76 (f := .free "dict") rfl)
  have m_zip : mg "zip" = none := He.free_ok X G (c.fact 77 (f := .free "zip") rfl)
  have m_enumerate : mg "enumerate" = none := He.free_ok X G (c.fact 78 (f := .free "enumerate") rfl)
  have c_LETTERS := He.str_ok X G (c.fact 79 (f := .str "LETTERS" "abcdefghijklmnopqrstuvwxyz") rfl)
  have m_min : mg "min" = none := He.free_ok X G (c.fact 80 (f := .free "min") rfl)
  have m_any : mg "any" = none := He.free_ok X G (c.fact 81 (f := .free "any") rfl)
  have g_KINDS := He.glo_ok X G (c.fact 82 (f := .glo "KINDS") rfl)
  have g_LATTICES := He.glo_ok X G (c.fact 83 (f := .glo "LATTICES") rfl)
  have c_HELPED := He.str_ok X G (c.fact 84 (f := .str "HELPED" "helped") rfl)
  have m_range : mg "range" = none := He.free_ok X G (c.fact 85 (f := .free "range") rfl)
  have m_abs : mg "abs" = none := He.free_ok X G (c.fact 86 (f := .free "abs") rfl)
  have m_max : mg "max" = none := He.free_ok X G (c.fact 87 (f := .free "max") rfl)
  have m_divmod : mg "divmod" = none := He.free_ok X G (c.fact 88 (f := .free "divmod") rfl)
  obtain ⟨fd_is_integer, F_is_integer⟩ := c.def_ 0 (d := d_is_integer) rfl
  obtain ⟨fd_is_row, F_is_row⟩ := c.def_ 1 (d := d_is_row) rfl
  obtain ⟨fd_is_name, F_is_name⟩ := c.def_ 2 (d := d_is_name) rfl
  obtain ⟨fd_is_word, F_is_word⟩ := c.def_ 3 (d := d_is_word) rfl
  obtain ⟨fd_is_term, F_is_term⟩ := c.def_ 4 (d := d_is_term) rfl
  obtain ⟨fd_unlike_ones, F_unlike_ones⟩ := c.def_ 5 (d := d_unlike_ones) rfl
  obtain ⟨fd_is_terms, F_is_terms⟩ := c.def_ 6 (d := d_is_terms) rfl
  obtain ⟨fd_is_atom, F_is_atom⟩ := c.def_ 7 (d := d_is_atom) rfl
  obtain ⟨fd_unlike_table, F_unlike_table⟩ := c.def_ 8 (d := d_unlike_table) rfl
  obtain ⟨fd_names_in, F_names_in⟩ := c.def_ 9 (d := d_names_in) rfl
  obtain ⟨fd_is_question_of, F_is_question_of⟩ := c.def_ 10 (d := d_is_question_of) rfl
  obtain ⟨fd_is_union_of, F_is_union_of⟩ := c.def_ 11 (d := d_is_union_of) rfl
  obtain ⟨fd_atoms_in, F_atoms_in⟩ := c.def_ 12 (d := d_atoms_in) rfl
  obtain ⟨fd_members_of, F_members_of⟩ := c.def_ 13 (d := d_members_of) rfl
  obtain ⟨fd_head_length, F_head_length⟩ := c.def_ 14 (d := d_head_length) rfl
  obtain ⟨fd_led_terms, F_led_terms⟩ := c.def_ 15 (d := d_led_terms) rfl
  obtain ⟨fd_led_atoms, F_led_atoms⟩ := c.def_ 16 (d := d_led_atoms) rfl
  obtain ⟨fd_want_question, F_want_question⟩ := c.def_ 17 (d := d_want_question) rfl
  obtain ⟨fd_want_union, F_want_union⟩ := c.def_ 18 (d := d_want_union) rfl
  obtain ⟨fd_want_alike, F_want_alike⟩ := c.def_ 19 (d := d_want_alike) rfl
  obtain ⟨fd_want_two, F_want_two⟩ := c.def_ 20 (d := d_want_two) rfl
  obtain ⟨fd_agreed, F_agreed⟩ := c.def_ 21 (d := d_agreed) rfl
  obtain ⟨fd_led_into, F_led_into⟩ := c.def_ 22 (d := d_led_into) rfl
  obtain ⟨fd_map_into, F_map_into⟩ := c.def_ 23 (d := d_map_into) rfl
  obtain ⟨fd_map_using, F_map_using⟩ := c.def_ 24 (d := d_map_using) rfl
  obtain ⟨fd_told_map, F_told_map⟩ := c.def_ 25 (d := d_told_map) rfl
  obtain ⟨fd_part_of, F_part_of⟩ := c.def_ 26 (d := d_part_of) rfl
  obtain ⟨fd_fold_of, F_fold_of⟩ := c.def_ 27 (d := d_fold_of) rfl
  obtain ⟨fd_core_of, F_core_of⟩ := c.def_ 28 (d := d_core_of) rfl
  obtain ⟨fd_is_core, F_is_core⟩ := c.def_ 29 (d := d_is_core) rfl
  obtain ⟨fd_core, F_core⟩ := c.def_ 30 (d := d_core) rfl
  obtain ⟨fd_term_key, F_term_key⟩ := c.def_ 31 (d := d_term_key) rfl
  obtain ⟨fd_atom_key, F_atom_key⟩ := c.def_ 32 (d := d_atom_key) rfl
  obtain ⟨fd_question_key, F_question_key⟩ := c.def_ 33 (d := d_question_key) rfl
  obtain ⟨fd_with_terms, F_with_terms⟩ := c.def_ 34 (d := d_with_terms) rfl
  obtain ⟨fd_least_from, F_least_from⟩ := c.def_ 35 (d := d_least_from) rfl
  obtain ⟨fd_form_in, F_form_in⟩ := c.def_ 36 (d := d_form_in) rfl
  obtain ⟨fd_least_of, F_least_of⟩ := c.def_ 37 (d := d_least_of) rfl
  obtain ⟨fd_form_of, F_form_of⟩ := c.def_ 38 (d := d_form_of) rfl
  obtain ⟨fd_least_union, F_least_union⟩ := c.def_ 39 (d := d_least_union) rfl
  obtain ⟨fd_are_held_alike, F_are_held_alike⟩ := c.def_ 40 (d := d_are_held_alike) rfl
  obtain ⟨fd_is_kind, F_is_kind⟩ := c.def_ 41 (d := d_is_kind) rfl
  obtain ⟨fd_want_kind, F_want_kind⟩ := c.def_ 42 (d := d_want_kind) rfl
  obtain ⟨fd_covering, F_covering⟩ := c.def_ 43 (d := d_covering) rfl
  obtain ⟨fd_paper_of, F_paper_of⟩ := c.def_ 44 (d := d_paper_of) rfl
  obtain ⟨fd_want_going, F_want_going⟩ := c.def_ 45 (d := d_want_going) rfl
  obtain ⟨fd_going_paper, F_going_paper⟩ := c.def_ 46 (d := d_going_paper) rfl
  obtain ⟨fd_can_go, F_can_go⟩ := c.def_ 47 (d := d_can_go) rfl
  obtain ⟨fd_least_helped, F_least_helped⟩ := c.def_ 48 (d := d_least_helped) rfl
  obtain ⟨fd__law_pot, F__law_pot⟩ := c.def_ 49 (d := d__law_pot) rfl
  obtain ⟨fd__law_draw, F__law_draw⟩ := c.def_ 50 (d := d__law_draw) rfl
  obtain ⟨fd__law_mixed, F__law_mixed⟩ := c.def_ 51 (d := d__law_mixed) rfl
  obtain ⟨fd__law_names, F__law_names⟩ := c.def_ 52 (d := d__law_names) rfl
  obtain ⟨fd__law_star_right, F__law_star_right⟩ := c.def_ 53 (d := d__law_star_right) rfl
  obtain ⟨fd__law_row_right, F__law_row_right⟩ := c.def_ 54 (d := d__law_row_right) rfl
  obtain ⟨fd__law_ring_right, F__law_ring_right⟩ := c.def_ 55 (d := d__law_ring_right) rfl
  obtain ⟨fd_law, F_law⟩ := c.def_ 56 (d := d_law) rfl
  have e := hfa.symm.trans g_law
  cases e
  have b := FunD.bindsA (ps := ["script"]) F_law fun _ _ _ _ _ _ us hl => match us, hl with | [_], _ => rfl
  refine ⟨fd_law, fun s v => b s [v] rfl, fun base _ _ => ?_⟩
  have C_is_integer : Cal P w K mg base 1 "is_integer" ["value"] (sp_is_integer K) := ok_is_integer (len := len_is_integer)  (P := P) (w := w) (K := K) (mg := mg) (base := base) (F := F_is_integer) (gF := g_is_integer) (m_bool := m_bool) (m_int := m_int) (m_isinstance := m_isinstance) (pure := pure_is_integer)
  have C_is_row : Cal P w K mg base 1 "is_row" ["value", "many"] (sp_is_row K) := ok_is_row (len := len_is_row)  (P := P) (w := w) (K := K) (mg := mg) (base := base) (F := F_is_row) (gF := g_is_row) (m_isinstance := m_isinstance) (m_len := m_len) (m_tuple := m_tuple) (pure := pure_is_row)
  have C_is_name : Cal P w K mg base 1 "is_name" ["value"] (sp_is_name K) := ok_is_name (len := len_is_name)  (P := P) (w := w) (K := K) (mg := mg) (base := base) (F := F_is_name) (gF := g_is_name) (m_all := m_all) (m_isinstance := m_isinstance) (m_len := m_len) (m_str := m_str) (c_MOST_NAME := c_MOST_NAME) (c_SMALL := c_SMALL) (pure := pure_is_name)
  have C_is_word : Cal P w K mg base 1 "is_word" ["value"] (sp_is_word K) := ok_is_word (len := len_is_word)  (P := P) (w := w) (K := K) (mg := mg) (base := base) (F := F_is_word) (gF := g_is_word) (m_all := m_all) (m_isinstance := m_isinstance) (m_len := m_len) (m_str := m_str) (c_CAPITALS := c_CAPITALS) (c_MOST_WORD := c_MOST_WORD) (c_SMALL := c_SMALL) (pure := pure_is_word)
  have C_is_term : Cal P w K mg base 2 "is_term" ["value"] (sp_is_term K) := ok_is_term (len := len_is_term) (C_is_name := C_is_name) (P := P) (w := w) (K := K) (mg := mg) (base := base) (F := F_is_term) (gF := g_is_term) (pure := pure_is_term)
  have C_unlike_ones : Cal P w K mg base 1 "unlike_ones" ["items"] (sp_unlike_ones K) := ok_unlike_ones (len := len_unlike_ones)  (P := P) (w := w) (K := K) (mg := mg) (base := base) (F := F_unlike_ones) (gF := g_unlike_ones) (m_list := m_list) (pure := pure_unlike_ones)
  have C_is_terms : Cal P w K mg base 3 "is_terms" ["value", "least", "most"] (sp_is_terms K) := ok_is_terms (len := len_is_terms) (C_is_term := C_is_term) (P := P) (w := w) (K := K) (mg := mg) (base := base) (F := F_is_terms) (gF := g_is_terms) (m_all := m_all) (m_isinstance := m_isinstance) (m_len := m_len) (m_tuple := m_tuple) (pure := pure_is_terms)
  have C_is_atom : Cal P w K mg base 4 "is_atom" ["value"] (sp_is_atom K) := ok_is_atom (len := len_is_atom) (C_is_row := C_is_row) (C_is_terms := C_is_terms) (C_is_word := C_is_word) (P := P) (w := w) (K := K) (mg := mg) (base := base) (F := F_is_atom) (gF := g_is_atom) (c_MOST_TERMS := c_MOST_TERMS) (pure := pure_is_atom)
  have C_unlike_table : Cal P w K mg base 1 "unlike_table" ["atoms"] (sp_unlike_table K) := ok_unlike_table (len := len_unlike_table)  (P := P) (w := w) (K := K) (mg := mg) (base := base) (F := F_unlike_table) (gF := g_unlike_table) (m_len := m_len) (pure := pure_unlike_table)
  have C_names_in : Cal P w K mg base 2 "names_in" ["atoms"] (sp_names_in K) := ok_names_in (len := len_names_in) (C_is_name := C_is_name) (P := P) (w := w) (K := K) (mg := mg) (base := base) (F := F_names_in) (gF := g_names_in) (m_set := m_set) (m_sorted := m_sorted) (pure := pure_names_in)
  have C_is_question_of : Cal P w K mg base 5 "is_question_of" ["value"] (sp_is_question_of K) := ok_is_question_of (len := len_is_question_of) (C_is_atom := C_is_atom) (C_is_name := C_is_name) (C_is_row := C_is_row) (C_is_terms := C_is_terms) (C_names_in := C_names_in) (C_unlike_table := C_unlike_table) (P := P) (w := w) (K := K) (mg := mg) (base := base) (F := F_is_question_of) (gF := g_is_question_of) (m_all := m_all) (m_isinstance := m_isinstance) (m_len := m_len) (m_tuple := m_tuple) (c_ASK := c_ASK) (c_MOST_ATOMS := c_MOST_ATOMS) (c_MOST_HEAD := c_MOST_HEAD) (pure := pure_is_question_of)
  have C_is_union_of : Cal P w K mg base 2 "is_union_of" ["value"] (sp_is_union_of K) := ok_is_union_of (len := len_is_union_of) (C_is_row := C_is_row) (P := P) (w := w) (K := K) (mg := mg) (base := base) (F := F_is_union_of) (gF := g_is_union_of) (m_isinstance := m_isinstance) (m_tuple := m_tuple) (c_ANY := c_ANY) (pure := pure_is_union_of)
  have C_atoms_in : Cal P w K mg base 1 "atoms_in" ["members"] (sp_atoms_in K) := ok_atoms_in (len := len_atoms_in)  (P := P) (w := w) (K := K) (mg := mg) (base := base) (F := F_atoms_in) (gF := g_atoms_in) (m_list := m_list) (pure := pure_atoms_in)
  have C_members_of : Cal P w K mg base 1 "members_of" ["union"] (sp_members_of K) := ok_members_of (len := len_members_of)  (P := P) (w := w) (K := K) (mg := mg) (base := base) (F := F_members_of) (gF := g_members_of) (c_ANY := c_ANY) (pure := pure_members_of)
  have C_head_length : Cal P w K mg base 2 "head_length" ["union"] (sp_head_length K) := ok_head_length (len := len_head_length) (C_members_of := C_members_of) (P := P) (w := w) (K := K) (mg := mg) (base := base) (F := F_head_length) (gF := g_head_length) (m_len := m_len) (pure := pure_head_length)
  have C_led_terms : Cal P w K mg base 2 "led_terms" ["terms", "led"] (sp_led_terms K) := ok_led_terms (len := len_led_terms) (C_is_name := C_is_name) (P := P) (w := w) (K := K) (mg := mg) (base := base) (F := F_led_terms) (gF := g_led_terms) (m_tuple := m_tuple) (pure := pure_led_terms)
  have C_led_atoms : Cal P w K mg base 3 "led_atoms" ["question", "led"] (sp_led_atoms K) := ok_led_atoms (len := len_led_atoms) (C_led_terms := C_led_terms) (P := P) (w := w) (K := K) (mg := mg) (base := base) (F := F_led_atoms) (gF := g_led_atoms) (pure := pure_led_atoms)
  have C_want_question : Cal P w K mg base 6 "want_question" ["value"] (sp_want_question K) := ok_want_question (len := len_want_question) (C_is_question_of := C_is_question_of) (P := P) (w := w) (K := K) (mg := mg) (base := base) (F := F_want_question) (gF := g_want_question) (pure := pure_want_question)
  have C_want_union : Cal P w K mg base 6 "want_union" ["value"] (sp_want_union K) := ok_want_union (len := len_want_union) (C_is_question_of := C_is_question_of) (C_is_union_of := C_is_union_of) (P := P) (w := w) (K := K) (mg := mg) (base := base) (F := F_want_union) (gF := g_want_union) (pure := pure_want_union)
  have C_want_alike : Cal P w K mg base 3 "want_alike" ["union", "other"] (sp_want_alike K) := ok_want_alike (len := len_want_alike) (C_atoms_in := C_atoms_in) (C_head_length := C_head_length) (C_members_of := C_members_of) (C_unlike_table := C_unlike_table) (P := P) (w := w) (K := K) (mg := mg) (base := base) (F := F_want_alike) (gF := g_want_alike) (pure := pure_want_alike)
  have C_want_two : Cal P w K mg base 7 "want_two" ["union", "other"] (sp_want_two K) := ok_want_two (len := len_want_two) (C_want_alike := C_want_alike) (C_want_union := C_want_union) (P := P) (w := w) (K := K) (mg := mg) (base := base) (F := F_want_two) (gF := g_want_two) (pure := pure_want_two)
  have C_agreed : Cal P w K mg base 2 "agreed" ["terms", "goal", "led"] (sp_agreed K) := ok_agreed (len := len_agreed) (C_is_name := C_is_name) (P := P) (w := w) (K := K) (mg := mg) (base := base) (F := F_agreed) (gF := g_agreed) (m_dict := m_dict) (m_zip := m_zip) (pure := pure_agreed)
  have C_led_into0 : Cal P w K mg base 2 "led_into" ["atoms", "goals", "led"] (sp_led_into K 0) := cal_vac g_led_into F_led_into.kp (F_led_into.bindsN fun _ _ _ _ _ _ us hl => match us, hl with | [_, _, _], _ => rfl) vac_led_into
  have C_led_into1 : Cal P w K mg base 3 "led_into" ["atoms", "goals", "led"] (sp_led_into K 1) := ok_led_into (n := 2) (len := len_led_into 1) (C_agreed := (C_agreed.mono (by decide))) (C_led_into := C_led_into0) (P := P) (w := w) (K := K) (mg := mg) (base := base) (F := F_led_into) (gF := g_led_into) (pure := pure_led_into 0)
  have C_led_into2 : Cal P w K mg base 4 "led_into" ["atoms", "goals", "led"] (sp_led_into K 2) := ok_led_into (n := 3) (len := len_led_into 2) (C_agreed := (C_agreed.mono (by decide))) (C_led_into := C_led_into1) (P := P) (w := w) (K := K) (mg := mg) (base := base) (F := F_led_into) (gF := g_led_into) (pure := pure_led_into 1)
  have C_led_into3 : Cal P w K mg base 5 "led_into" ["atoms", "goals", "led"] (sp_led_into K 3) := ok_led_into (n := 4) (len := len_led_into 3) (C_agreed := (C_agreed.mono (by decide))) (C_led_into := C_led_into2) (P := P) (w := w) (K := K) (mg := mg) (base := base) (F := F_led_into) (gF := g_led_into) (pure := pure_led_into 2)
  have C_led_into4 : Cal P w K mg base 6 "led_into" ["atoms", "goals", "led"] (sp_led_into K 4) := ok_led_into (n := 5) (len := len_led_into 4) (C_agreed := (C_agreed.mono (by decide))) (C_led_into := C_led_into3) (P := P) (w := w) (K := K) (mg := mg) (base := base) (F := F_led_into) (gF := g_led_into) (pure := pure_led_into 3)
  have C_led_into5 : Cal P w K mg base 7 "led_into" ["atoms", "goals", "led"] (sp_led_into K 5) := ok_led_into (n := 6) (len := len_led_into 5) (C_agreed := (C_agreed.mono (by decide))) (C_led_into := C_led_into4) (P := P) (w := w) (K := K) (mg := mg) (base := base) (F := F_led_into) (gF := g_led_into) (pure := pure_led_into 4)
  have C_led_into6 : Cal P w K mg base 8 "led_into" ["atoms", "goals", "led"] (sp_led_into K 6) := ok_led_into (n := 7) (len := len_led_into 6) (C_agreed := (C_agreed.mono (by decide))) (C_led_into := C_led_into5) (P := P) (w := w) (K := K) (mg := mg) (base := base) (F := F_led_into) (gF := g_led_into) (pure := pure_led_into 5)
  have C_led_into7 : Cal P w K mg base 9 "led_into" ["atoms", "goals", "led"] (sp_led_into K 7) := ok_led_into (n := 8) (len := len_led_into 7) (C_agreed := (C_agreed.mono (by decide))) (C_led_into := C_led_into6) (P := P) (w := w) (K := K) (mg := mg) (base := base) (F := F_led_into) (gF := g_led_into) (pure := pure_led_into 6)
  have C_led_into : Cal P w K mg base 10 "led_into" ["atoms", "goals", "led"] (sp_led_into K 7) := C_led_into7.mono (by decide)
  have C_map_into : Cal P w K mg base 11 "map_into" ["question", "goals", "head"] (sp_map_into K) := ok_map_into (len := len_map_into) (C_agreed := C_agreed) (C_led_into := C_led_into) (P := P) (w := w) (K := K) (mg := mg) (base := base) (F := F_map_into) (gF := g_map_into) (m_list := m_list) (pure := pure_map_into)
  have C_map_using : Cal P w K mg base 11 "map_using" ["question", "goals", "head", "goal"] (sp_map_using K) := ok_map_using (len := len_map_using) (C_agreed := C_agreed) (C_led_into := C_led_into) (P := P) (w := w) (K := K) (mg := mg) (base := base) (F := F_map_using) (gF := g_map_using) (m_enumerate := m_enumerate) (pure := pure_map_using)
  have C_told_map : Cal P w K mg base 1 "told_map" ["led"] (sp_told_map K) := ok_told_map (len := len_told_map)  (P := P) (w := w) (K := K) (mg := mg) (base := base) (F := F_told_map) (gF := g_told_map) (m_sorted := m_sorted) (m_tuple := m_tuple) (pure := pure_told_map)
  have C_part_of : Cal P w K mg base 6 "part_of" ["question", "left"] (sp_part_of K) := ok_part_of (len := len_part_of) (C_is_question_of := C_is_question_of) (P := P) (w := w) (K := K) (mg := mg) (base := base) (F := F_part_of) (gF := g_part_of) (m_tuple := m_tuple) (pure := pure_part_of)
  have C_fold_of : Cal P w K mg base 12 "fold_of" ["question"] (sp_fold_of K) := ok_fold_of (len := len_fold_of) (C_map_into := C_map_into) (C_unlike_ones := C_unlike_ones) (P := P) (w := w) (K := K) (mg := mg) (base := base) (F := F_fold_of) (gF := g_fold_of) (pure := pure_fold_of)
  have C_core_of : Cal P w K mg base 13 "core_of" ["question"] (sp_core_of K) := ok_core_of (len := len_core_of) (C_fold_of := C_fold_of) (C_led_atoms := C_led_atoms) (C_part_of := C_part_of) (C_unlike_ones := C_unlike_ones) (P := P) (w := w) (K := K) (mg := mg) (base := base) (F := F_core_of) (gF := g_core_of) (m_enumerate := m_enumerate) (m_tuple := m_tuple) (pure := pure_core_of)
  have C_is_core : Cal P w K mg base 13 "is_core" ["question"] (sp_is_core K) := ok_is_core (len := len_is_core) (C_fold_of := C_fold_of) (C_unlike_ones := C_unlike_ones) (C_want_question := C_want_question) (P := P) (w := w) (K := K) (mg := mg) (base := base) (F := F_is_core) (gF := g_is_core) (m_len := m_len) (pure := pure_is_core)
  have C_core : Cal P w K mg base 14 "core" ["question"] (sp_core K) := ok_core (len := len_core) (C_core_of := C_core_of) (C_want_question := C_want_question) (P := P) (w := w) (K := K) (mg := mg) (base := base) (F := F_core) (gF := g_core) (pure := pure_core)
  have C_term_key : Cal P w K mg base 2 "term_key" ["term"] (sp_term_key K) := ok_term_key (len := len_term_key) (C_is_name := C_is_name) (P := P) (w := w) (K := K) (mg := mg) (base := base) (F := F_term_key) (gF := g_term_key) (pure := pure_term_key)
  have C_atom_key : Cal P w K mg base 3 "atom_key" ["atom"] (sp_atom_key K) := ok_atom_key (len := len_atom_key) (C_term_key := C_term_key) (P := P) (w := w) (K := K) (mg := mg) (base := base) (F := F_atom_key) (gF := g_atom_key) (pure := pure_atom_key)
  have C_question_key : Cal P w K mg base 4 "question_key" ["question"] (sp_question_key K) := ok_question_key (len := len_question_key) (C_atom_key := C_atom_key) (C_term_key := C_term_key) (P := P) (w := w) (K := K) (mg := mg) (base := base) (F := F_question_key) (gF := g_question_key) (pure := pure_question_key)
  have C_with_terms : Cal P w K mg base 2 "with_terms" ["led", "terms"] (sp_with_terms K) := ok_with_terms (len := len_with_terms) (C_is_name := C_is_name) (P := P) (w := w) (K := K) (mg := mg) (base := base) (F := F_with_terms) (gF := g_with_terms) (m_dict := m_dict) (m_len := m_len) (c_LETTERS := c_LETTERS) (pure := pure_with_terms)
  have C_least_from0 : Cal P w K mg base 3 "least_from" ["told", "left", "led"] (sp_least_from K 0) := cal_vac g_least_from F_least_from.kp (F_least_from.bindsN fun _ _ _ _ _ _ us hl => match us, hl with | [_, _, _], _ => rfl) vac_least_from
  have C_least_from1 : Cal P w K mg base 4 "least_from" ["told", "left", "led"] (sp_least_from K 1) := ok_least_from (n := 3) (len := len_least_from 1) (C_atom_key := (C_atom_key.mono (by decide))) (C_least_from := C_least_from0) (C_led_terms := (C_led_terms.mono (by decide))) (C_with_terms := (C_with_terms.mono (by decide))) (P := P) (w := w) (K := K) (mg := mg) (base := base) (F := F_least_from) (gF := g_least_from) (m_list := m_list) (m_min := m_min) (pure := pure_least_from 0)
  have C_least_from2 : Cal P w K mg base 5 "least_from" ["told", "left", "led"] (sp_least_from K 2) := ok_least_from (n := 4) (len := len_least_from 2) (C_atom_key := (C_atom_key.mono (by decide))) (C_least_from := C_least_from1) (C_led_terms := (C_led_terms.mono (by decide))) (C_with_terms := (C_with_terms.mono (by decide))) (P := P) (w := w) (K := K) (mg := mg) (base := base) (F := F_least_from) (gF := g_least_from) (m_list := m_list) (m_min := m_min) (pure := pure_least_from 1)
  have C_least_from3 : Cal P w K mg base 6 "least_from" ["told", "left", "led"] (sp_least_from K 3) := ok_least_from (n := 5) (len := len_least_from 3) (C_atom_key := (C_atom_key.mono (by decide))) (C_least_from := C_least_from2) (C_led_terms := (C_led_terms.mono (by decide))) (C_with_terms := (C_with_terms.mono (by decide))) (P := P) (w := w) (K := K) (mg := mg) (base := base) (F := F_least_from) (gF := g_least_from) (m_list := m_list) (m_min := m_min) (pure := pure_least_from 2)
  have C_least_from4 : Cal P w K mg base 7 "least_from" ["told", "left", "led"] (sp_least_from K 4) := ok_least_from (n := 6) (len := len_least_from 4) (C_atom_key := (C_atom_key.mono (by decide))) (C_least_from := C_least_from3) (C_led_terms := (C_led_terms.mono (by decide))) (C_with_terms := (C_with_terms.mono (by decide))) (P := P) (w := w) (K := K) (mg := mg) (base := base) (F := F_least_from) (gF := g_least_from) (m_list := m_list) (m_min := m_min) (pure := pure_least_from 3)
  have C_least_from5 : Cal P w K mg base 8 "least_from" ["told", "left", "led"] (sp_least_from K 5) := ok_least_from (n := 7) (len := len_least_from 5) (C_atom_key := (C_atom_key.mono (by decide))) (C_least_from := C_least_from4) (C_led_terms := (C_led_terms.mono (by decide))) (C_with_terms := (C_with_terms.mono (by decide))) (P := P) (w := w) (K := K) (mg := mg) (base := base) (F := F_least_from) (gF := g_least_from) (m_list := m_list) (m_min := m_min) (pure := pure_least_from 4)
  have C_least_from6 : Cal P w K mg base 9 "least_from" ["told", "left", "led"] (sp_least_from K 6) := ok_least_from (n := 8) (len := len_least_from 6) (C_atom_key := (C_atom_key.mono (by decide))) (C_least_from := C_least_from5) (C_led_terms := (C_led_terms.mono (by decide))) (C_with_terms := (C_with_terms.mono (by decide))) (P := P) (w := w) (K := K) (mg := mg) (base := base) (F := F_least_from) (gF := g_least_from) (m_list := m_list) (m_min := m_min) (pure := pure_least_from 5)
  have C_least_from7 : Cal P w K mg base 10 "least_from" ["told", "left", "led"] (sp_least_from K 7) := ok_least_from (n := 9) (len := len_least_from 7) (C_atom_key := (C_atom_key.mono (by decide))) (C_least_from := C_least_from6) (C_led_terms := (C_led_terms.mono (by decide))) (C_with_terms := (C_with_terms.mono (by decide))) (P := P) (w := w) (K := K) (mg := mg) (base := base) (F := F_least_from) (gF := g_least_from) (m_list := m_list) (m_min := m_min) (pure := pure_least_from 6)
  have C_least_from : Cal P w K mg base 12 "least_from" ["told", "left", "led"] (sp_least_from K 7) := C_least_from7.mono (by decide)
  have C_form_in : Cal P w K mg base 13 "form_in" ["question"] (sp_form_in K) := ok_form_in (len := len_form_in) (C_least_from := C_least_from) (C_led_terms := C_led_terms) (C_with_terms := C_with_terms) (P := P) (w := w) (K := K) (mg := mg) (base := base) (F := F_form_in) (gF := g_form_in) (m_list := m_list) (m_tuple := m_tuple) (c_ASK := c_ASK) (pure := pure_form_in)
  have C_least_of : Cal P w K mg base 14 "least_of" ["union"] (sp_least_of K) := ok_least_of (len := len_least_of) (C_core_of := C_core_of) (C_form_in := C_form_in) (C_members_of := C_members_of) (C_question_key := C_question_key) (P := P) (w := w) (K := K) (mg := mg) (base := base) (F := F_least_of) (gF := g_least_of) (m_any := m_any) (m_sorted := m_sorted) (m_tuple := m_tuple) (c_ANY := c_ANY) (pure := pure_least_of)
  have C_form_of : Cal P w K mg base 14 "form_of" ["question"] (sp_form_ofC K) := ok_form_of (len := len_form_of) (C_form_in := C_form_in) (C_want_question := C_want_question) (P := P) (w := w) (K := K) (mg := mg) (base := base) (F := F_form_of) (gF := g_form_of) (pure := pure_form_of)
  have C_least_union : Cal P w K mg base 15 "least_union" ["union"] (sp_least_union K) := ok_least_union (len := len_least_union) (C_least_of := C_least_of) (C_want_union := C_want_union) (P := P) (w := w) (K := K) (mg := mg) (base := base) (F := F_least_union) (gF := g_least_union) (pure := pure_least_union)
  have C_are_held_alike : Cal P w K mg base 15 "are_held_alike" ["union", "other_union"] (sp_are_held_alike K) := ok_are_held_alike (len := len_are_held_alike) (C_least_of := C_least_of) (C_want_two := C_want_two) (P := P) (w := w) (K := K) (mg := mg) (base := base) (F := F_are_held_alike) (gF := g_are_held_alike) (pure := pure_are_held_alike)
  have C_is_kind : Cal P w K mg base 1 "is_kind" ["value"] (sp_is_kind K) := ok_is_kind (len := len_is_kind)  (P := P) (w := w) (K := K) (mg := mg) (base := base) (F := F_is_kind) (gF := g_is_kind) (m_isinstance := m_isinstance) (m_str := m_str) (c_KINDS := g_KINDS) (pure := pure_is_kind cK)
  have C_want_kind : Cal P w K mg base 2 "want_kind" ["value"] (sp_want_kind K) := ok_want_kind (len := len_want_kind) (C_is_kind := C_is_kind) (P := P) (w := w) (K := K) (mg := mg) (base := base) (F := F_want_kind) (gF := g_want_kind) (pure := pure_want_kind)
  have C_covering : Cal P w K mg base 12 "covering" ["question", "other"] (sp_covering K) := ok_covering (len := len_covering) (C_map_using := C_map_using) (C_told_map := C_told_map) (C_unlike_ones := C_unlike_ones) (P := P) (w := w) (K := K) (mg := mg) (base := base) (F := F_covering) (gF := g_covering) (m_tuple := m_tuple) (pure := pure_covering)
  have C_paper_of : Cal P w K mg base 13 "paper_of" ["kind", "question", "position"] (sp_paper_of K) := ok_paper_of (len := len_paper_of) (C_covering := C_covering) (C_map_into := C_map_into) (C_part_of := C_part_of) (C_told_map := C_told_map) (P := P) (w := w) (K := K) (mg := mg) (base := base) (F := F_paper_of) (gF := g_paper_of) (m_len := m_len) (m_list := m_list) (m_range := m_range) (c_HELPED := c_HELPED) (c_LATTICES := g_LATTICES) (pure := pure_paper_of cL)
  have C_want_going : Cal P w K mg base 7 "want_going" ["kind", "question", "position"] (sp_want_going K) := ok_want_going (len := len_want_going) (C_is_integer := C_is_integer) (C_part_of := C_part_of) (C_want_kind := C_want_kind) (C_want_question := C_want_question) (P := P) (w := w) (K := K) (mg := mg) (base := base) (F := F_want_going) (gF := g_want_going) (m_len := m_len) (m_range := m_range) (pure := pure_want_going)
  have C_going_paper : Cal P w K mg base 14 "going_paper" ["kind", "question", "position"] (sp_going_paper K) := ok_going_paper (len := len_going_paper) (C_paper_of := C_paper_of) (C_want_going := C_want_going) (P := P) (w := w) (K := K) (mg := mg) (base := base) (F := F_going_paper) (gF := g_going_paper) (pure := pure_going_paper)
  have C_can_go : Cal P w K mg base 15 "can_go" ["kind", "question", "position"] (sp_can_go K) := ok_can_go (len := len_can_go) (C_going_paper := C_going_paper) (P := P) (w := w) (K := K) (mg := mg) (base := base) (F := F_can_go) (gF := g_can_go) (pure := pure_can_go)
  have C_least_helped : Cal P w K mg base 14 "least_helped" ["question"] (sp_least_helped K) := ok_least_helped (len := len_least_helped) (C_paper_of := C_paper_of) (C_part_of := C_part_of) (C_want_question := C_want_question) (P := P) (w := w) (K := K) (mg := mg) (base := base) (F := F_least_helped) (gF := g_least_helped) (m_len := m_len) (m_range := m_range) (c_HELPED := c_HELPED) (pure := pure_least_helped)
  have C__law_potR : Cal P w K mg base 1 "_law_pot" ["script", "k"] (spL_pot K) := ok__law_pot (len := len__law_pot)  (P := P) (w := w) (K := K) (mg := mg) (base := base) (F := F__law_pot) (gF := g__law_pot) (m_abs := m_abs) (m_int := m_int) (m_len := m_len) (m_max := m_max) (pure := pure__law_pot)
  have C__law_pot : Cal P w K mg base 1 "_law_pot" ["script", "k"] (newPotS P w (spL_pot K)) := C__law_potR.newPot
  have C__law_drawR : Cal P w K mg base 1 "_law_draw" ["pot", "size"] (spL_draw K) := ok__law_draw (len := len__law_draw)  (P := P) (w := w) (K := K) (mg := mg) (base := base) (F := F__law_draw) (gF := g__law_draw) (m_divmod := m_divmod) (m_int := m_int) (pure := pure__law_draw)
  have C__law_draw : Cal P w K mg base 1 "_law_draw" ["pot", "size"] (sp__law_draw P w) := C__law_drawR.pot.imp draw_imp
  have C__law_mixed : Cal P w K mg base 2 "_law_mixed" ["pot", "head", "atoms"] (sp__law_mixed P w K) := ok__law_mixed (len := len__law_mixed) (C__law_draw := C__law_draw) (P := P) (w := w) (K := K) (mg := mg) (base := base) (F := F__law_mixed) (gF := g__law_mixed) (m_len := m_len) (m_list := m_list) (m_range := m_range) (m_tuple := m_tuple) (pure := pure__law_mixed)
  have C__law_names : Cal P w K mg base 2 "_law_names" ["pot", "many"] (sp__law_names P w K) := ok__law_names (len := len__law_names) (C__law_draw := C__law_draw) (P := P) (w := w) (K := K) (mg := mg) (base := base) (F := F__law_names) (gF := g__law_names) (m_len := m_len) (m_range := m_range) (pure := pure__law_names)
  have C__law_star_right : Cal P w K mg base 16 "_law_star_right" ["pot"] (sp__law_star_right P w K) := ok__law_star_right (len := len__law_star_right) (C__law_draw := C__law_draw) (C__law_mixed := C__law_mixed) (C__law_names := C__law_names) (C_are_held_alike := C_are_held_alike) (C_can_go := C_can_go) (C_core := C_core) (C_form_of := C_form_of) (C_is_core := C_is_core) (C_least_helped := C_least_helped) (C_least_union := C_least_union) (P := P) (w := w) (K := K) (mg := mg) (base := base) (F := F__law_star_right) (gF := g__law_star_right) (m_len := m_len) (m_range := m_range) (m_tuple := m_tuple) (pure := pure__law_star_right)
  have C__law_row_right : Cal P w K mg base 16 "_law_row_right" ["pot"] (sp__law_row_right P w K) := ok__law_row_right (len := len__law_row_right) (C__law_draw := C__law_draw) (C__law_mixed := C__law_mixed) (C__law_names := C__law_names) (C_are_held_alike := C_are_held_alike) (C_core := C_core) (C_form_of := C_form_of) (C_is_core := C_is_core) (P := P) (w := w) (K := K) (mg := mg) (base := base) (F := F__law_row_right) (gF := g__law_row_right) (m_len := m_len) (m_range := m_range) (m_tuple := m_tuple) (pure := pure__law_row_right)
  have C__law_ring_right : Cal P w K mg base 16 "_law_ring_right" ["pot"] (sp__law_ring_right P w K) := ok__law_ring_right (len := len__law_ring_right) (C__law_draw := C__law_draw) (C__law_mixed := C__law_mixed) (C__law_names := C__law_names) (C_are_held_alike := C_are_held_alike) (C_can_go := C_can_go) (C_core := C_core) (C_form_of := C_form_of) (C_is_core := C_is_core) (P := P) (w := w) (K := K) (mg := mg) (base := base) (F := F__law_ring_right) (gF := g__law_ring_right) (m_len := m_len) (m_range := m_range) (pure := pure__law_ring_right)
  exact fn_law (P := P) (w := w) (K := K) (mg := mg) (base := base) (len := len_law) (F := F_law) (C__law_pot := C__law_pot) (C__law_ring_right := C__law_ring_right) (C__law_row_right := C__law_row_right) (C__law_star_right := C__law_star_right) (pure := pure_law)
end K68
open PySem PySem.W PySem.Calls PyProof.Rows
theorem PySem.Challenge.cw_markedrows_k68_whole_stars_and_rows_by_f_holds : PySem.Challenge.rw_markedrows_k68_whole_stars_and_rows_by_f.Holds := by
  w_on; o_law
  refine HandSHeadRun.head_any (r := OpenLaw.row PySem.Challenge.rw_markedrows_k68_whole_stars_and_rows_by_f) (q := view (OpenLaw.row PySem.Challenge.rw_markedrows_k68_whole_stars_and_rows_by_f).prog [92]) (H := K68.hk) (ob := K68.ob) (M := 20000) (loose := K68.names) (d := HandSHeadRun.topDef (OpenLaw.row PySem.Challenge.rw_markedrows_k68_whole_stars_and_rows_by_f).prog 92) (kwd := []) K68.ob_eq
    (by kernel_rfl) (fun s => by kernel_rfl) K68.run (by kernel_rfl) (by kernel_rfl) (by kernel_rfl) (by rfl) (by first | assumption | decide +kernel) (by decide +kernel) ⟨rfl, rfl, rfl, rfl, rfl, by decide +kernel⟩ ?hw ?hc
  case hw => w_witness2
  case hc =>
    refine L2.walk_ofE (l := PySem.Challenge.rw_markedrows_k68_whole_stars_and_rows_by_f) (n := 63) (k := 17) (x := "script") (CX := L2.CX0) rfl (by decide) (by kernel_rfl) ⟨rfl, by decide, by decide⟩ ?F (fun _ _ _ _ z => z)
    intro w mg fa h Y G hmg0
    obtain ⟨K, KX, c⟩ := Y
    have hmg : mg ("law" : PySem.Str) = some (.ref fa) := by
      have e : (HandSHeadRun.topDef (OpenLaw.row PySem.Challenge.rw_markedrows_k68_whole_stars_and_rows_by_f).prog 92).name = ("law" : PySem.Str) := by kernel_rfl
      rw [← e]
      exact hmg0
    obtain ⟨fd, hb, hF⟩ := K68.facts (P := (PySem.Challenge.rw_markedrows_k68_whole_stars_and_rows_by_f).prog) (w := w) KX G hmg c.t.d c.more
    exact ⟨K, fd, K68.sp_law K, KX, hb, fun H a ns hl _ hS => K68.law_in hS, hF⟩



