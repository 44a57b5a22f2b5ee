import PyProof.Rows.All
import Wide.All
import OpenK.AllK
import Wide.FinOn
import HandS.ForMost
import HandS.Wide
import KE.KExcInit
import KE.KExcSuper
import KE.DataEq
import KE.DataCmp
import KE.SortData
import KE.DataIsa
import KE.DataAny
import HandS.TupAny
import HandS.TupMul
import HandS.IsInst
import HandS.Style
import HandS.Conv
import HandS.ExcInit
import KE.KExcIs
import HandS.ExcField
import PyProof.ExcStrAll.ValueError
import PySem.Challenge.RW_creasedflat_k23_errors_each_its_own
set_option Elab.async false
set_option linter.all false
set_option maxRecDepth 100000
namespace CF
open PySem L2

/-! ## pure data -/
inductive Dv where
  | non | bl (b : Bool) | int (i : Int) | str (s : Str)
  | tup (xs : List Dv) | lst (xs : List Dv) | dct (ks vs : List Dv)
  | scr (ns : List Int)
  | exc (c : Str) (v : Dv)

/-- what the world gives: the written part, the addresses of the own exception classes -/
structure Wd where
  K : PySem.W.Frag
  cl : Str → Option Addr

/-- an exception object at a: its class, its args, its dict -/
def ExH (a C t dx : Addr) : HO := .ext fun h => ∃ c2 : Value, h.get? a = some (PySem.W.excObj C t (some dx) c2)

mutual
inductive Rep (W : Wd) (H : Hp) : V → Dv → Prop
  | non : Rep W H .non .non
  | bl (b) : Rep W H (.bl b) (.bl b)
  | int (i) : Rep W H (.int i) (.int i)
  | str (s) : Rep W H (.str s) (.str s)
  | tup {a vs ds} : SqT W.K H a vs → Reps W H vs ds → Rep W H (.ref a) (.tup ds)
  | lst {a vs ds} : H a = some (.lst vs) → Reps W H vs ds → Rep W H (.ref a) (.lst ds)
  | dct {a kvs ks ds} : H a = some (.dK kvs) → Reps W H (kvs.map fun p => kV p.1) ks → Reps W H (kvs.map fun p => p.2) ds → Rep W H (.ref a) (.dct ks ds)
  | scr {a ns} : SqL W.K H a (ns.map V.int) → Rep W H (.ref a) (.scr ns)
  | exc {a c C t dx v d} : W.cl c = some C → H a = some (ExH a C t dx) → H t = some (.tup [v]) → H dx = some (.xd [("value", v)]) → Rep W H v d → Rep W H (.ref a) (.exc c d)
inductive Reps (W : Wd) (H : Hp) : List V → List Dv → Prop
  | nil : Reps W H [] []
  | cons {v vs d ds} : Rep W H v d → Reps W H vs ds → Reps W H (v :: vs) (d :: ds)
end

theorem Same.sqT {K : PySem.W.Frag} {H H' : Hp} {a : Addr} {xs : List V} (e : Same H H') (h : SqT K H a xs) : SqT K H' a xs := by
  rcases h with (h | ⟨o, h⟩) | h
  · exact .inl (.inl (e _ _ h))
  · exact .inl (.inr ⟨o, e _ _ h⟩)
  · exact .inr h
mutual
theorem Rep.mono {W : Wd} {H H' : Hp} (s : Same H H') : ∀ {v : V} {d : Dv}, Rep W H v d → Rep W H' v d
  | _, _, .non => .non
  | _, _, .bl b => .bl b
  | _, _, .int i => .int i
  | _, _, .str x => .str x
  | _, _, .tup h r => .tup (Same.sqT s h) (Reps.mono s r)
  | _, _, .lst h r => .lst (s _ _ h) (Reps.mono s r)
  | _, _, .dct h r q => .dct (s _ _ h) (Reps.mono s r) (Reps.mono s q)
  | _, _, .scr h => .scr (s.seq h)
  | _, _, .exc h1 h2 h3 h4 r => .exc h1 (s _ _ h2) (s _ _ h3) (s _ _ h4) (Rep.mono s r)
theorem Reps.mono {W : Wd} {H H' : Hp} (s : Same H H') : ∀ {vs : List V} {ds : List Dv}, Reps W H vs ds → Reps W H' vs ds
  | _, _, .nil => .nil
  | _, _, .cons h r => .cons (Rep.mono s h) (Reps.mono s r)
end
section
variable {W : Wd} {H : Hp}
theorem Reps.length : ∀ {vs : List V} {ds : List Dv}, Reps W H vs ds → vs.length = ds.length
  | _, _, .nil => rfl
  | _, _, .cons _ r => congrArg (· + 1) r.length
theorem Reps.get : ∀ {vs : List V} {ds : List Dv}, Reps W H vs ds → ∀ {i : Nat} {d : Dv}, ds[i]? = some d → ∃ v, vs[i]? = some v ∧ Rep W H v d
  | _, _, .nil, i, d, e => by simp at e
  | _, _, .cons h r, 0, d, e => by
    simp at e
    subst e
    exact ⟨_, rfl, h⟩
  | _, _, .cons h r, i + 1, d, e => by
    obtain ⟨v, e1, e2⟩ := r.get (i := i) (d := d) (by simpa using e)
    exact ⟨v, by simpa using e1, e2⟩
theorem Reps.get' : ∀ {vs : List V} {ds : List Dv}, Reps W H vs ds → ∀ {i : Nat} {v : V}, vs[i]? = some v → ∃ d, ds[i]? = some d ∧ Rep W H v d
  | _, _, .nil, i, d, e => by simp at e
  | _, _, .cons h r, 0, d, e => by
    simp at e
    subst e
    exact ⟨_, rfl, h⟩
  | _, _, .cons h r, i + 1, d, e => by
    obtain ⟨v, e1, e2⟩ := r.get' (i := i) (v := d) (by simpa using e)
    exact ⟨v, by simpa using e1, e2⟩
theorem Reps.append : ∀ {vs ws : List V} {ds es : List Dv}, Reps W H vs ds → Reps W H ws es → Reps W H (vs ++ ws) (ds ++ es)
  | _, _, _, _, .nil, s => s
  | _, _, _, _, .cons h r, s => .cons h (r.append s)
theorem Reps.take : ∀ {vs : List V} {ds : List Dv}, Reps W H vs ds → ∀ n : Nat, Reps W H (vs.take n) (ds.take n)
  | _, _, _, 0 => .nil
  | _, _, .nil, _ + 1 => .nil
  | _, _, .cons h r, n + 1 => .cons h (r.take n)
theorem Reps.drop : ∀ {vs : List V} {ds : List Dv}, Reps W H vs ds → ∀ n : Nat, Reps W H (vs.drop n) (ds.drop n)
  | _, _, r, 0 => r
  | _, _, .nil, _ + 1 => .nil
  | _, _, .cons h r, n + 1 => r.drop n
theorem Reps.set : ∀ {vs : List V} {ds : List Dv} {v : V} {d : Dv}, Reps W H vs ds → Rep W H v d → ∀ i : Nat, Reps W H (vs.set i v) (ds.set i d)
  | _, _, _, _, .nil, _, _ => .nil
  | _, _, _, _, .cons _ r, h, 0 => .cons h r
  | _, _, _, _, .cons h0 r, h, i + 1 => .cons h0 (r.set h i)
theorem Reps.reverse : ∀ {vs : List V} {ds : List Dv}, Reps W H vs ds → Reps W H vs.reverse ds.reverse
  | _, _, .nil => .nil
  | _, _, .cons h r => by
    rw [List.reverse_cons, List.reverse_cons]
    exact r.reverse.append (.cons h .nil)
theorem Reps.snoc {vs : List V} {ds : List Dv} {v : V} {d : Dv} (r : Reps W H vs ds) (h : Rep W H v d) : Reps W H (vs ++ [v]) (ds ++ [d]) := r.append (.cons h .nil)
theorem Reps.eraseIdx : ∀ {vs : List V} {ds : List Dv}, Reps W H vs ds → ∀ i : Nat, Reps W H (vs.eraseIdx i) (ds.eraseIdx i)
  | _, _, .nil, _ => .nil
  | _, _, .cons _ r, 0 => r
  | _, _, .cons h r, i + 1 => .cons h (r.eraseIdx i)
theorem Reps.rep {vs : List V} {ds : List Dv} (r : Reps W H vs ds) : ∀ n : Nat, Reps W H (List.replicate n vs).flatten (List.replicate n ds).flatten
  | 0 => .nil
  | n + 1 => by
    rw [List.replicate_succ, List.replicate_succ, List.flatten_cons, List.flatten_cons]
    exact r.append (r.rep n)
theorem Reps.ints : ∀ {vs : List V} {ns : List Int}, Reps W H vs (ns.map Dv.int) → vs = ns.map V.int
  | [], [], _ => rfl
  | v :: vs, n :: ns, .cons h r => by
    cases h
    rw [List.map_cons, r.ints]
theorem Reps.of_ints : ∀ ns : List Int, Reps W H (ns.map V.int) (ns.map Dv.int)
  | [] => .nil
  | n :: ns => .cons (.int n) (Reps.of_ints ns)
end

/-! ## a def's slots -/
inductive SV where
  | no
  | dat (d : Dv)
  | lst (br : Bool) (xs : List Dv)
abbrev Env := List SV

/-- what a run of a def begins with: the frozen part and the heap at the entry; the places of the lists that are lent -/
structure Fx where
  W : Wd
  HF0 : Hp
  H0 : Hp
  M0 : Nat → Option Addr

def SlotOk (F : Fx) (HF H : Hp) (i : Nat) : SV → Option V → Prop
  | .no, _ => True
  | .dat d, ov => ∃ v, ov = some v ∧ Rep F.W HF v d
  | .lst br xs, ov => ∃ p vs, ov = some (.ref p) ∧ H p = some (.lst vs) ∧ Reps F.W HF vs xs ∧ HF p = none ∧ (if br = true then F.M0 i = some p else F.H0 p = none)
def OwnAt (η : Env) (σ : St) (i : Nat) (a : Addr) : Prop := ∃ br xs, η[i]? = some (.lst br xs) ∧ σ[i]? = some (some (.ref a))

structure SR (F : Fx) (HF : Hp) (σ : St) (H : Hp) (η : Env) : Prop where
  sub : Same HF H
  grow : Same F.HF0 HF
  keep : ∀ a o, F.H0 a = some o → (∀ i, F.M0 i ≠ some a) → H a = some o
  ent : ∀ i p, F.M0 i = some p → ∃ vs, F.H0 p = some (.lst vs)
  mt : ∀ i p, F.M0 i = some p → HF p = none ∧ ∃ vs, H p = some (.lst vs)
  newF : ∀ a o, HF a = some o → F.HF0 a = some o ∨ F.H0 a = none
  len : η.length = σ.length
  slot : ∀ i sv, η[i]? = some sv → SlotOk F HF H i sv (σ[i]?.join)
  apart : ∀ i j a, OwnAt η σ i a → OwnAt η σ j a → i = j

section
variable {F : Fx} {HF HF' : Hp} {σ : St} {H H' : Hp} {η : Env}
theorem Same.upd_new {H : Hp} {p : Addr} {o : HO} (h : H p = none) : Same H (upd H p o) := fun b u e => by
  rw [upd_ne (ne_of_none e h)]
  exact e
theorem Same.upd_both {HF H : Hp} {p : Addr} {o : HO} (s : Same HF H) (h : HF p = none) : Same HF (upd H p o) := fun b u e => by
  rw [upd_ne (ne_of_none e h)]
  exact s _ _ e
theorem Same.upd2 {HF H : Hp} {p : Addr} {o : HO} (s : Same HF H) : Same (upd HF p o) (upd H p o) := fun b u e => by
  by_cases hb : b = p
  · subst hb
    rw [upd_same] at e ⊢
    exact e
  · rw [upd_ne hb] at e ⊢
    exact s _ _ e
theorem SlotOk.mono {i : Nat} {sv : SV} {ov : Option V} (h : SlotOk F HF H i sv ov) (sF : Same HF HF') (own : ∀ p vs, H p = some (.lst vs) → HF p = none → HF' p = none ∧ H' p = some (.lst vs)) : SlotOk F HF' H' i sv ov := by
  cases sv with
  | no => trivial
  | dat d =>
    obtain ⟨v, e, r⟩ := h
    exact ⟨v, e, r.mono sF⟩
  | lst br xs =>
    obtain ⟨p, vs, e, h1, h2, h3, h4⟩ := h
    obtain ⟨k1, k2⟩ := own p vs h1 h3
    exact ⟨p, vs, e, k2, h2.mono sF, k1, h4⟩
/-- what was there at the entry is there -/
theorem SR.dom (S : SR F HF σ H η) {a : Addr} (h : H a = none) : F.H0 a = none := by
  cases e : F.H0 a with
  | none => rfl
  | some o =>
    by_cases hm : ∃ i, F.M0 i = some a
    · obtain ⟨i, hi⟩ := hm
      obtain ⟨_, vs, q⟩ := S.mt i a hi
      rw [h] at q
      cases q
    · have q := S.keep a o e fun i z => hm ⟨i, z⟩
      rw [h] at q
      cases q
/-- the heap grows, what is frozen too -/
theorem SR.ext (S : SR F HF σ H η) (sF : Same HF HF') (sH : Same H H') (sub : Same HF' H') (new : ∀ a o, HF' a = some o → HF a = some o ∨ H a = none) : SR F HF' σ H' η where
  sub := sub
  grow := S.grow.trans sF
  keep := fun a o e m => sH _ _ (S.keep a o e m)
  ent := S.ent
  mt := fun i p e => by
    obtain ⟨h1, vs, h2⟩ := S.mt i p e
    refine ⟨?_, vs, sH _ _ h2⟩
    cases q : HF' p with
    | none => rfl
    | some o =>
      rcases new p o q with z | z
      · rw [h1] at z
        cases z
      · rw [h2] at z
        cases z
  newF := fun a o e => by
    rcases new a o e with z | z
    · exact S.newF a o z
    · exact .inr (S.dom z)
  len := S.len
  slot := fun i sv e => (S.slot i sv e).mono sF fun p vs h1 h2 => by
    refine ⟨?_, sH _ _ h1⟩
    cases q : HF' p with
    | none => rfl
    | some o =>
      rcases new p o q with z | z
      · rw [h2] at z
        cases z
      · rw [h1] at z
        cases z
  apart := S.apart
/-- a new object, frozen at once -/
theorem SR.alloc (S : SR F HF σ H η) {p : Addr} {o : HO} (h : H p = none) : SR F (upd HF p o) σ (upd H p o) η ∧ Same HF (upd HF p o) := by
  have hF : HF p = none := S.sub.free h
  refine ⟨S.ext (Same.upd_new hF) (Same.upd_new h) (Same.upd2 S.sub) fun a u e => ?_, Same.upd_new hF⟩
  by_cases ha : a = p
  · subst ha
    exact .inr h
  · rw [upd_ne ha] at e
    exact .inl e
/-- a new object, not frozen -/
theorem SR.allocOwn (S : SR F HF σ H η) {p : Addr} {o : HO} (h : H p = none) : SR F HF σ (upd H p o) η :=
  S.ext (fun _ _ e => e) (Same.upd_new h) (fun b u e => by rw [upd_ne (ne_of_none (S.sub _ _ e) h)]; exact S.sub _ _ e) fun _ _ e => .inl e
theorem SR.slotV (S : SR F HF σ H η) {i : Nat} {d : Dv} (e : η[i]? = some (.dat d)) : ∃ v, σ[i]? = some (some v) ∧ Rep F.W HF v d := by
  obtain ⟨v, e1, r⟩ := S.slot i _ e
  refine ⟨v, ?_, r⟩
  cases q : σ[i]? with
  | none =>
    rw [q] at e1
    cases e1
  | some ov =>
    rw [q] at e1
    exact congrArg some e1
theorem SR.slotL (S : SR F HF σ H η) {i : Nat} {br : Bool} {xs : List Dv} (e : η[i]? = some (.lst br xs)) : ∃ p vs, σ[i]? = some (some (.ref p)) ∧ H p = some (.lst vs) ∧ Reps F.W HF vs xs ∧ HF p = none ∧ (if br = true then F.M0 i = some p else F.H0 p = none) := by
  obtain ⟨p, vs, e1, r⟩ := S.slot i _ e
  refine ⟨p, vs, ?_, r⟩
  cases q : σ[i]? with
  | none =>
    rw [q] at e1
    cases e1
  | some ov =>
    rw [q] at e1
    exact congrArg some e1
/-- a frozen value in a slot -/
theorem SR.setDat (S : SR F HF σ H η) {i : Nat} {v : V} {d : Dv} (r : Rep F.W HF v d) (hi : i < σ.length) : SR F HF (σ.set i (some v)) H (η.set i (.dat d)) where
  sub := S.sub
  grow := S.grow
  keep := S.keep
  ent := S.ent
  mt := S.mt
  newF := S.newF
  len := by rw [List.length_set, List.length_set, S.len]
  slot := fun j sv e => by
    by_cases h : j = i
    · subst h
      rw [List.getElem?_set_self (by rw [S.len]; exact hi)] at e
      cases e
      rw [List.getElem?_set_self hi]
      exact ⟨v, rfl, r⟩
    · rw [List.getElem?_set_ne (Ne.symm h)] at e ⊢
      exact S.slot j sv e
  apart := fun j k a ⟨b1, x1, e1, q1⟩ ⟨b2, x2, e2, q2⟩ => by
    by_cases hj : j = i
    · subst hj
      rw [List.getElem?_set_self (by rw [S.len]; exact hi)] at e1
      cases e1
    · by_cases hk : k = i
      · subst hk
        rw [List.getElem?_set_self (by rw [S.len]; exact hi)] at e2
        cases e2
      · rw [List.getElem?_set_ne (Ne.symm hj)] at e1 q1
        rw [List.getElem?_set_ne (Ne.symm hk)] at e2 q2
        exact S.apart j k a ⟨b1, x1, e1, q1⟩ ⟨b2, x2, e2, q2⟩
/-- a list of its own in a slot -/
theorem SR.setOwn (S : SR F HF σ H η) {i : Nat} {p : Addr} {vs : List V} {xs : List Dv} (h : H p = some (.lst vs)) (r : Reps F.W HF vs xs) (hF : HF p = none) (h0 : F.H0 p = none) (hno : ∀ j, ¬ OwnAt η σ j p) (hi : i < σ.length) : SR F HF (σ.set i (some (.ref p))) H (η.set i (.lst false xs)) where
  sub := S.sub
  grow := S.grow
  keep := S.keep
  ent := S.ent
  mt := S.mt
  newF := S.newF
  len := by rw [List.length_set, List.length_set, S.len]
  slot := fun j sv e => by
    by_cases h : j = i
    · subst h
      rw [List.getElem?_set_self (by rw [S.len]; exact hi)] at e
      cases e
      rw [List.getElem?_set_self hi]
      exact ⟨p, vs, rfl, h, r, hF, by rw [if_neg Bool.false_ne_true]; exact h0⟩
    · rw [List.getElem?_set_ne (Ne.symm h)] at e ⊢
      exact S.slot j sv e
  apart := fun j k a ⟨b1, x1, e1, q1⟩ ⟨b2, x2, e2, q2⟩ => by
    by_cases hj : j = i
    · subst hj
      by_cases hk : k = j
      · exact hk.symm
      · rw [List.getElem?_set_self hi] at q1
        cases q1
        rw [List.getElem?_set_ne (Ne.symm hk)] at e2 q2
        exact absurd ⟨b2, x2, e2, q2⟩ (hno k)
    · by_cases hk : k = i
      · subst hk
        rw [List.getElem?_set_self hi] at q2
        cases q2
        rw [List.getElem?_set_ne (Ne.symm hj)] at e1 q1
        exact absurd ⟨b1, x1, e1, q1⟩ (hno j)
      · rw [List.getElem?_set_ne (Ne.symm hj)] at e1 q1
        rw [List.getElem?_set_ne (Ne.symm hk)] at e2 q2
        exact S.apart j k a ⟨b1, x1, e1, q1⟩ ⟨b2, x2, e2, q2⟩
/-- a slot's own list is changed -/
theorem SR.updOwn (S : SR F HF σ H η) {i : Nat} {br : Bool} {xs ys : List Dv} {p : Addr} {ws : List V} (e : η[i]? = some (.lst br xs)) (q : σ[i]? = some (some (.ref p))) (r : Reps F.W HF ws ys) :
    SR F HF σ (upd H p (.lst ws)) (η.set i (.lst br ys)) := by
  obtain ⟨p', vs, q', hp, _, hF, hb⟩ := S.slotL e
  rw [q] at q'
  cases q'
  have hi : i < η.length := (List.getElem?_eq_some_iff.mp e).1
  refine ⟨fun b u z => ?_, S.grow, fun a o z m => ?_, S.ent, fun j p' z => ?_, S.newF, by rw [List.length_set, S.len], fun j sv z => ?_, fun j k a ⟨b1, x1, e1, q1⟩ ⟨b2, x2, e2, q2⟩ => ?_⟩
  · rw [upd_ne (ne_of_none z hF)]
    exact S.sub _ _ z
  · have : a ≠ p := by
      rintro rfl
      cases br with
      | true => exact m i hb
      | false =>
        have hb' : F.H0 a = none := hb
        rw [z] at hb'
        cases hb'
    rw [upd_ne this]
    exact S.keep a o z m
  · obtain ⟨h1, us, h2⟩ := S.mt j p' z
    refine ⟨h1, ?_⟩
    by_cases hpp : p' = p
    · subst hpp
      exact ⟨ws, upd_same⟩
    · exact ⟨us, by rw [upd_ne hpp]; exact h2⟩
  · by_cases hj : j = i
    · subst hj
      rw [List.getElem?_set_self hi] at z
      cases z
      rw [q]
      exact ⟨p, ws, rfl, upd_same, r, hF, hb⟩
    · rw [List.getElem?_set_ne (Ne.symm hj)] at z
      have s := S.slot j sv z
      cases sv with
      | no => trivial
      | dat d => exact s
      | lst b2 x2 =>
        obtain ⟨p2, v2, s1, s2, s3, s4, s5⟩ := s
        have q2 : σ[j]? = some (some (.ref p2)) := by
          cases w : σ[j]? with
          | none =>
            rw [w] at s1
            cases s1
          | some ov =>
            rw [w] at s1
            exact congrArg some s1
        have : p2 ≠ p := fun w => hj (S.apart j i p2 ⟨_, _, z, q2⟩ ⟨_, _, e, by rw [w]; exact q⟩)
        exact ⟨p2, v2, s1, by rw [upd_ne this]; exact s2, s3, s4, s5⟩
  · have pick : ∀ (l : Nat) (b : Bool) (x : List Dv), (η.set i (.lst br ys))[l]? = some (.lst b x) → ∃ b' x', η[l]? = some (.lst b' x') := fun l b x z => by
      by_cases hl : l = i
      · subst hl
        exact ⟨_, _, e⟩
      · rw [List.getElem?_set_ne (Ne.symm hl)] at z
        exact ⟨_, _, z⟩
    obtain ⟨b1', x1', z1⟩ := pick j _ _ e1
    obtain ⟨b2', x2', z2⟩ := pick k _ _ e2
    exact S.apart j k a ⟨_, _, z1, q1⟩ ⟨_, _, z2, q2⟩
/-- a slot's own list is frozen -/
theorem SR.freeze (S : SR F HF σ H η) {i : Nat} {xs : List Dv} {p : Addr} {vs : List V} (e : η[i]? = some (.lst false xs)) (q : σ[i]? = some (some (.ref p))) (hp : H p = some (.lst vs)) :
    SR F (upd HF p (.lst vs)) σ H (η.set i (.dat (.lst xs))) ∧ Same HF (upd HF p (.lst vs)) ∧ Rep F.W (upd HF p (.lst vs)) (.ref p) (.lst xs) := by
  obtain ⟨p', vs', q', hp', r, hF, hb⟩ := S.slotL e
  rw [q] at q'
  cases q'
  rw [hp] at hp'
  cases hp'
  have h0 : F.H0 p = none := hb
  have hi : i < η.length := (List.getElem?_eq_some_iff.mp e).1
  have sF : Same HF (upd HF p (.lst vs)) := Same.upd_new hF
  have rp : Rep F.W (upd HF p (.lst vs)) (.ref p) (.lst xs) := .lst upd_same (r.mono sF)
  refine ⟨⟨fun b u z => ?_, S.grow.trans sF, S.keep, S.ent, fun j p' z => ?_, fun a o z => ?_, by rw [List.length_set, S.len], fun j sv z => ?_, fun j k a ⟨b1, x1, e1, q1⟩ ⟨b2, x2, e2, q2⟩ => ?_⟩, sF, rp⟩
  · by_cases hb : b = p
    · subst hb
      rw [upd_same] at z
      cases z
      exact hp
    · rw [upd_ne hb] at z
      exact S.sub _ _ z
  · obtain ⟨h1, us, h2⟩ := S.mt j p' z
    refine ⟨?_, us, h2⟩
    have : p' ≠ p := by
      rintro rfl
      obtain ⟨ws, w⟩ := S.ent j p' z
      rw [h0] at w
      cases w
    rw [upd_ne this]
    exact h1
  · by_cases ha : a = p
    · subst ha
      exact .inr h0
    · rw [upd_ne ha] at z
      exact S.newF a o z
  · by_cases hj : j = i
    · subst hj
      rw [List.getElem?_set_self hi] at z
      cases z
      rw [q]
      exact ⟨_, rfl, rp⟩
    · rw [List.getElem?_set_ne (Ne.symm hj)] at z
      have s := S.slot j sv z
      cases sv with
      | no => trivial
      | dat d =>
        obtain ⟨v, s1, s2⟩ := s
        exact ⟨v, s1, s2.mono sF⟩
      | lst b2 x2 =>
        obtain ⟨p2, v2, s1, s2, s3, s4, s5⟩ := s
        have q2 : σ[j]? = some (some (.ref p2)) := by
          cases w : σ[j]? with
          | none =>
            rw [w] at s1
            cases s1
          | some ov =>
            rw [w] at s1
            exact congrArg some s1
        have : p2 ≠ p := fun w => hj (S.apart j i p2 ⟨_, _, z, q2⟩ ⟨_, _, e, by rw [w]; exact q⟩)
        exact ⟨p2, v2, s1, s2, s3.mono sF, by rw [upd_ne this]; exact s4, s5⟩
  · have pick : ∀ (l : Nat) (b : Bool) (x : List Dv), (η.set i (.dat (.lst xs)))[l]? = some (.lst b x) → η[l]? = some (.lst b x) := fun l b x z => by
      by_cases hl : l = i
      · subst hl
        rw [List.getElem?_set_self hi] at z
        cases z
      · rw [List.getElem?_set_ne (Ne.symm hl)] at z
        exact z
    exact S.apart j k a ⟨_, _, pick j _ _ e1, q1⟩ ⟨_, _, pick k _ _ e2, q2⟩
end
end CF

set_option Elab.async false
set_option linter.all false
set_option maxRecDepth 100000
namespace CF
open PySem PySem.Spec PyProof.Rows L2

/-! ## calls, where no text is being shown (guards) -/
structure RoomG (k : Nat) (A : Around) : Prop where
  r : Room k A
  g : A.guards = some []
theorem RoomG.mono {j k : Nat} {A : Around} (h : RoomG k A) (l : j ≤ k) : RoomG j A := ⟨h.r.mono l, h.g⟩
theorem RoomG.deeper {k : Nat} {A : Around} (h : RoomG (k + 1) A) (env : PySem.Env) : RoomG k (A.deeper env) := ⟨h.r.deeper env, h.g⟩

/-- the def at f keeps the promise sp, called where RoomG says -/
structure FnG (P : Program) (w : World) (K : PySem.W.Frag) (mg : Str → Option Value) (base : Heap) (CX : CXT) (k : Nat) (f : Addr) (fd : FuncData) (ps : List Str) (sp : Sp) : Prop where
  len : ∀ vs H Q E, sp vs H Q E → vs.length = ps.length
  run : ∀ (A : Around) (outer : List PySem.Env) (s : Shared) (H : Hp) (args : Args) (us : List Value) (vs : List V) (Q : VK) (E : XK), RoomG k A → Env0 P w K mg base A outer s H →
    BindsTo s fd args (ps.zip us) → Vals vs us → sp vs H Q E → codeAny (model P w) A (.call (.ref f) args) (CR CX outer P w H s Q E) s

section
variable {X : Cx} {CX : CXT} {k : Nat} {f : Addr} {fd : FuncData} {ps : List Str} {sp : Sp} {dvs : List V} {ds : List Value} {E : XK} {x : Str} {p pos : Pos} {e : Expr} {es : List Expr} {kws : List Keyword} {t tk : TA}
theorem callback {pins : List (Addr × Obj)} {σ : L2.St} {H : Hp} {s : Shared} {Q : VK} {c : Code} (I : Inv X pins σ H s) (hx : Passes CX X E)
    (h : codeAny (model X.prog X.w) X.A c (CR CX X.stack X.prog X.w H s Q E) s) : codeAny (model X.prog X.w) X.A c (fun r s' => match r with
      | .ok (.ret u) => EP X pins σ Q u s'
      | .ok _ => False
      | .error e => X.xe e s') s := codeAny_mono h fun r s' q => by
  cases r with
  | error e => exact hx pins σ H s e s' I q
  | ok fl =>
    cases fl with
    | ret u => exact I.after q
    | next => exact (q : False).elim
    | brk => exact (q : False).elim
    | cont => exact (q : False).elim
theorem runG {pins : List (Addr × Obj)} {σ : L2.St} {H : Hp} {s : Shared} {Q : VK} {us : List Value} {vs : List V} (F : FnG X.prog X.w X.K X.mg X.base CX k f fd ps sp) (hr : RoomG k X.A) (hb : Binds X.K fd ps ds) (hd : Vals dvs ds) (hx : Passes CX X E)
    (I : Inv X pins σ H s) (r : Vals vs us) (h : sp (vs ++ dvs) H Q E) : wpAny (model X.prog X.w) X.A (call (.ref f) us) (EP X pins σ Q) X.xe s := by
  have r2 : Vals (vs ++ dvs) (us ++ ds) := r.append hd
  have n : (us ++ ds).length = ps.length := r2.length.symm.trans (F.len _ _ _ _ h)
  refine wpAny_call (codeAny_mono (callback I hx (F.run X.A X.stack s H ⟨us, []⟩ (us ++ ds) (vs ++ dvs) Q E hr I.env0 (hb s us I.kIn n) r2 h)) fun r s' q => ?_)
  cases r with
  | error e => exact q
  | ok fl => cases fl <;> first | exact q | exact (q : False).elim
theorem runGK {pins : List (Addr × Obj)} {σ : L2.St} {H : Hp} {s : Shared} {Q : VK} {us ws : List Value} {vs zs : List V} {ks : List Str} {g : List Value → List Value → List Value} {gV : List V → List V → List V}
    (F : FnG X.prog X.w X.K X.mg X.base CX k f fd ps sp) (hr : RoomG k X.A) (hb : KBinds X.K fd ps ks g gV) (hx : Passes CX X E)
    (I : Inv X pins σ H s) (r : Vals vs us) (rz : Vals zs ws) (h : sp (gV vs zs) H Q E) : wpAny (model X.prog X.w) X.A (call (.ref f) us (ks.zip ws)) (EP X pins σ Q) X.xe s := by
  have r2 := hb.rel r rz
  have n : (g us ws).length = ps.length := r2.length.symm.trans (F.len _ _ _ _ h)
  refine wpAny_call (codeAny_mono (callback I hx (F.run X.A X.stack s H ⟨us, ks.zip ws⟩ (g us ws) (gV vs zs) Q E hr I.env0 (hb.to s us ws I.kIn n) r2 h)) fun r s' q => ?_)
  cases r with
  | error e => exact q
  | ok fl => cases fl <;> first | exact q | exact (q : False).elim
theorem pe_callG (F : FnG X.prog X.w X.K X.mg X.base CX k f fd ps sp) (hr : RoomG k X.A) (hg : Gl X x) (hm : X.mg x = some (.ref f)) (hk : PySem.W.keepIn X.K (.ref f) = true) (hb : Binds X.K fd ps ds) (hd : Vals dvs ds) (hx : Passes CX X E)
    (ha : PA X (e :: es) t) (hdb : (x == ("__debug__" : Str)) = false) (he : starEach (e :: es) X.env = (false, eval e X.env) :: starEach es X.env) (hpl : (backTo pos (starEach es X.env)).any (·.1) = false) :
    PE X (.Call (.Name x p) (e :: es) [] pos) (tCall sp dvs E t) where
  run := fun pins s σ H Q I h => by
    refine wpAny_Call_Name_kw (ld_glob I hg hm ?_ hdb)
    exact PySem.W.callWith_K (h₀ := X.base) I.ok.mod.kin hk (thn (ha.run pos pins s σ H _ I h) fun us s1 ⟨vs, H1, I1, r, q⟩ => ⟨I1.kIn, runG F hr hb hd hx I1 r q⟩) he hpl
theorem pe_callG0 (F : FnG X.prog X.w X.K X.mg X.base CX k f fd ps sp) (hr : RoomG k X.A) (hg : Gl X x) (hm : X.mg x = some (.ref f)) (hk : PySem.W.keepIn X.K (.ref f) = true) (hb : Binds X.K fd ps ds) (hd : Vals dvs ds) (hx : Passes CX X E)
    (hdb : (x == ("__debug__" : Str)) = false) : PE X (.Call (.Name x p) [] [] pos) (tCall sp dvs E tNil) where
  run := fun pins s σ H Q I h => wpAny_Call_Name_kw (ld_glob I hg hm (PySem.W.callWith_K0 I.kIn hk (runG (us := []) F hr hb hd hx I .nil h)) hdb)
theorem pe_callGK {ks : List Str} {g : List Value → List Value → List Value} {gV : List V → List V → List V} (F : FnG X.prog X.w X.K X.mg X.base CX k f fd ps sp) (hr : RoomG k X.A) (hg : Gl X x) (hm : X.mg x = some (.ref f)) (hk : PySem.W.keepIn X.K (.ref f) = true) (hb : KBinds X.K fd ps ks g gV) (hx : Passes CX X E)
    (ha : PA X (e :: es) t) (hkw : PK X kws tk) (hall : (backToKw pos (keywordEach kws X.env)).all (·.1.isSome) = true) (hks : (backToKw pos (keywordEach kws X.env)).filterMap (·.1) = ks)
    (hdb : (x == ("__debug__" : Str)) = false) (he : starEach (e :: es) X.env = (false, eval e X.env) :: starEach es X.env)
    (hpl : ((backTo pos (starEach (e :: es) X.env)).any (·.1) || (backToKw pos (keywordEach kws X.env)).any (·.1.isNone)) = false) :
    PE X (.Call (.Name x p) (e :: es) kws pos) (tCallK sp gV E t tk) where
  run := fun pins s σ H Q I h => by
    refine wpAny_Call_Name_kw (ld_glob I hg hm ?_ hdb)
    refine PySem.W.callWith_KW (h₀ := X.base) I.ok.mod.kin hk hall (thn (ha.run pos pins s σ H _ I h) fun us s1 ⟨vs, H1, I1, r, q⟩ => ?_) hpl he
    refine thn (hkw.run pos pins s1 σ H1 _ I1 q) fun ws s2 ⟨zs, H2, I2, rz, q2⟩ => ⟨I2.kIn, ?_⟩
    rw [hks]
    exact runGK F hr hb hx I2 r rz q2
end

/-- a def by its body -/
theorem fnG_of {CX : CXT} {P : Program} {w : World} {K : PySem.W.Frag} {mg : Str → Option Value} {base : Heap} {k : Nat} {f : Addr} {x qual : Str} {st : Stmt} {fd : FuncData} {N ps : List Str} {sp : Sp} (F : Fun K x qual st f fd) (S : FnScope N ps (defScope st))
    (len : ∀ vs H Q E, sp vs H Q E → vs.length = ps.length)
    (hbody : ∀ (cdv : Value) (A : Around) (outer : List PySem.Env) (s : Shared) (H : Hp) (vs : List V) (Q : VK) (E : XK), RoomG k (A.deeper (envOfC qual (defScope st) s.heap.objs.size f cdv)) → sp vs H Q E →
      ∃ t, PSs (cxOf CX P w K mg base N qual (defScope st) f cdv A outer s H E) (defBody st) t ∧ t { nx := fun _ H' => Q .non H', rt := Q } (start N vs) H) :
    FnG P w K mg base CX (k + 1) f fd ps sp where
  len := len
  run := fun A outer s H args us vs Q E hr e0 hb r hsp => by
    obtain ⟨oc, od, kV, doc, pm, an, cdv, ct, osl, rfl, lk, hcd⟩ := F.ex
    have keep0 := fun b o e => (e0.bs b o e).1
    have names : ∀ y ∈ ps.zip us, (defScope st).names.lookup y.1 = some .local ∨ ((defScope st).names.lookup y.1 = some .cell ∧ ((cellsFrom (s.heap.objs.size + 1) (defScope st).names []).lookup y.1).isSome = true) := by
      rintro ⟨n, v⟩ hy
      exact (S.par n (List.of_mem_zip hy).1).imp id fun q => ⟨q, PySem.W.cellsFrom_some _ _ _ (.inl q)⟩
    have KX : K.In s.heap := e0.mod.kin.keeps keep0
    refine codeAny_call_function hr.r.depth (KX _ _ lk) rfl S.co S.gen rfl (PySem.W.codeRec_of KX hcd) (hb _ _ _ _ (wpAny_newFunctionEnv_cells S.kind names fun env he s1 x => ?_))
    subst he
    obtain ⟨t, ht, hq⟩ := hbody cdv A outer s H vs Q E (hr.deeper _) hsp
    have I : Inv (cxOf CX P w K mg base N qual (defScope st) f cdv A outer s H E) [] (start N vs) H s1 := inv_start S hr.r.hd e0 (len _ _ _ _ hsp) r x
    refine ⟨(e0.mod.nolimit.keeps keep0).keeps x.toInCall.keep, codeAny_func (wpAny_mono (ht.run [] s1 (start N vs) H _ I hq) (fun fl s' hs => ?_) fun e s' hs => hs)⟩
    cases fl with
    | ret u =>
      obtain ⟨v, σ', H', J, rv, q⟩ := hs
      exact ⟨v, H', J.os, J.bare, J.base, J.hok, rv, q⟩
    | next =>
      obtain ⟨σ', H', J, q⟩ := hs
      exact ⟨V.non, H', J.os, J.bare, J.base, J.hok, rfl, q⟩
    | brk => exact hs.elim fun _ z => z.elim fun _ z => z.2.elim
    | cont => exact hs.elim fun _ z => z.elim fun _ z => z.2.elim

/-- the law called at the heap behind the top -/
theorem lawG {P : Program} {w : World} {K : PySem.W.Frag} {mg mb : Str → Option Value} {k : Nat} {fa a : Addr} {fd : FuncData} {x : Str} {sp : Sp} {s₁ : Shared} {vs : List Value} {ns : List Int}
    (KX : K.In s₁.heap) (hns : s₁.heap.Ns mainGlobals mg) (hb : s₁.heap.Ns builtinsNs mb) (hbb : ∀ x : Str, x ≠ "__name__" → mb x = bootBuiltins x) (hlim : s₁.heap.NoLimit) (hg : s₁.gens = #[])
    (ha : s₁.heap.get? a = some { cls := .type "list", data := .seq vs.toArray }) (hi : IntsAre vs ns) (hl : ns.length ≤ sizeLine) (hr : RoomG k callerA)
    (F : ∀ base : Heap, K.In base → base.Ns mainGlobals mg → FnG P w K mg base CX0 k fa fd [x] sp) (hbind : ∀ (s : Shared) (u : Value), BindsTo s fd ⟨[u], []⟩ [(x, u)])
    (hsp : ∀ H : Hp, Only H → SqL K H a (ns.map V.int) → sp [.ref a] H (fun v _ => v = .bl true) fun _ _ _ => False) :
    codeAny (model P w) callerA (.call (.ref fa) ⟨[.ref a], []⟩) (fun r s' => r = .ok (.ret (.bool true)) ∧ OldK s₁.heap s'.heap ∧ s'.os = s₁.os ∧ AllBare s'.gens) s₁ := by
  have rv := vals_ints hi
  have lv : vs.length = ns.length := hi.length
  have core : ∀ H : Hp, Only H → SqL K H a (ns.map V.int) → HOk P w H s₁.heap → (∀ b, H b ≠ none → b = a ∧ K.lookup a = none) →
      codeAny (model P w) callerA (.call (.ref fa) ⟨[.ref a], []⟩) (fun r s' => r = .ok (.ret (.bool true)) ∧ OldK s₁.heap s'.heap ∧ s'.os = s₁.os ∧ AllBare s'.gens) s₁ := by
    intro H hO hS ok hA
    have free : ∀ {b : Addr}, (b = a → K.lookup a = none → False) → H b = none := fun {b} h => by
      cases q : H b with
      | none => rfl
      | some u =>
        obtain ⟨e1, e2⟩ := hA b (by rw [q]; exact fun z => nomatch z)
        exact (h e1 e2).elim
    have ns2 : ∀ {b : Addr} {m : Str → Option Value}, s₁.heap.Ns b m → (hidT s₁.heap H).Ns b m := fun {b m} ⟨o, es, ep, e, d, r⟩ => by
      refine ⟨o, es, ep, hidT_get e (free fun z _ => ?_), d, r⟩
      subst z
      rw [ha] at e
      cases e
      cases d
    have inK : K.In (hidT s₁.heap H) := fun b o e => hidT_get (KX b o e) (free fun z q => by
      subst z
      rw [q] at e
      cases e)
    have hM : Mod K mg (hidT s₁.heap H) := ⟨inK, ns2 hns, ⟨mb, ns2 hb, hbb⟩, hlim.elim fun mc z => ⟨mc, ns2 z.1, z.2⟩⟩
    have e0 : Env0 P w K mg (hidT s₁.heap H) callerA [] s₁ H := ⟨rfl, hM, fun b o e => of_hidT e, Nat.le_of_eq (hidT_size _ _), trivial, fun b z => (List.not_mem_nil (show b ∈ ([] : List Addr) from z)).elim, ok, .of_eq hg⟩
    refine codeAny_mono ((F _ inK (ns2 hns)).run callerA [] s₁ H ⟨[.ref a], []⟩ [.ref a] [.ref a] _ _ hr e0 (hbind s₁ (.ref a)) (.cons rfl .nil) (hsp H hO hS)) fun r s' h => ?_
    cases r with
    | error e => exact (h : False).elim
    | ok fl =>
      cases fl with
      | next => exact (h : False).elim
      | brk => exact (h : False).elim
      | cont => exact (h : False).elim
      | ret u =>
        obtain ⟨v, H', os, bare, un, ok', r', q⟩ := h
        cases (q : v = .bl true)
        cases (r' : u = Value.bool true)
        refine ⟨rfl, OldK.of_keep fun b o e => ?_, os, bare⟩
        rcases hO b with z | ⟨ob, xs, z⟩
        · exact un.keep b o e z (fun z => (List.not_mem_nil (show b ∈ ([] : List Addr) from z)).elim) fun z => (List.not_mem_nil z).elim
        · obtain ⟨e1, _⟩ := ok b _ z
          obtain ⟨e2, _⟩ := ok' b _ (un.frzs b ob _ z)
          rw [e] at e1
          cases e1
          exact e2
  cases hk : K.lookup a with
  | some o =>
    have e := KX a o hk
    rw [ha] at e
    cases e
    exact core (fun _ => none) (fun _ => .inl rfl) (.inr ⟨_, vs.toArray, _, hk, rfl, rfl, rfl, by rw [List.size_toArray, lv]; exact hl, by simpa using rv⟩) (fun b u z => nomatch (show (none : Option HO) = some u from z)) fun b z => absurd rfl z
  | none =>
    let Hs : Hp := fun b => if b = a then some (.frz { cls := .type "list", data := .seq vs.toArray } (.lst (ns.map V.int))) else none
    have yes : Hs a = some (.frz { cls := .type "list", data := .seq vs.toArray } (.lst (ns.map V.int))) := if_pos rfl
    have no : ∀ {b : Addr}, b ≠ a → Hs b = none := fun {b} h => if_neg h
    refine core Hs (fun b => ?_) (.inl (.inr ⟨_, yes⟩)) (fun b u z => ?_) fun b z => ⟨?_, hk⟩
    · by_cases hb : b = a
      · rw [hb, yes]
        exact .inr ⟨_, _, rfl⟩
      · exact .inl (no hb)
    · by_cases hb : b = a
      · rw [hb, yes] at z
        cases z
        rw [hb]
        exact ⟨ha, by rw [List.length_map]; exact hl, vs, _, rv, ha⟩
      · rw [no hb] at z
        cases z
    · by_cases hb : b = a
      · exact hb
      · exact absurd (no hb) z

/-- what the head leaves, by the law's promise -/
theorem walkG {l : PySem.W.OpenLaw} {n k : Nat} {q : Program} {loose : List Str} {XP : (Str → Option Value) → Heap → Prop} {YP : World → Heap → Prop} {d : DefRec} {K : Params → PySem.W.Frag} {sp : World → Sp} {x : Str}
    (hn : l.most = some n) (hn2 : n ≤ sizeLine) (hdf : d.params.defaults = []) (hr : RoomG k callerA)
    (hY : ∀ (w : World) (h : Heap), YP w h → (K w.params).In h)
    (F : ∀ (w : World) (mg : Str → Option Value) (fa : Addr) (h : Heap), (K w.params).In h → h.Ns mainGlobals mg → mg d.name = some (.ref fa) →
      ∃ fd : FuncData, (∀ (s : Shared) (u : Value), BindsTo s fd ⟨[u], []⟩ [(x, u)]) ∧
        ∀ base : Heap, (K w.params).In base → base.Ns mainGlobals mg → FnG l.prog w (K w.params) mg base CX0 k fa fd [x] (sp w))
    (hsp : ∀ (w : World) (H : Hp) (a : Addr) (ns : List Int), ns.length ≤ n → Only H → SqL (K w.params) H a (ns.map V.int) → sp w [.ref a] H (fun v _ => v = .bl true) fun _ _ _ => False) :
    PySem.W.WalkO q loose XP YP l.row.toRowW d [] (fun f vs => PySem.call f vs) := by
  refine Att.attach_call hn hdf fun w s₀ s₁ mg mb fa o pm cd doc a vs ns G Y _ _ _ hmg hobj hints hlen hg => ?_
  obtain ⟨fd, hb, hF⟩ := F w mg fa _ (hY w _ Y) G.T.g hmg
  exact lawG (hY w _ Y) G.T.g G.T.b G.T.builtins G.T.nolimit hg hobj hints (Nat.le_trans hlen hn2) hr hF hb fun H hO hS => hsp w H a ns hlen hO hS
end CF

set_option Elab.async false
set_option linter.all false
set_option maxRecDepth 100000
namespace CF
open PySem

/-! ## data: looks, equality, order, texts -/
namespace Dv
mutual
def toP : Dv → PyData
  | .non => .none
  | .bl b => .bool b
  | .int i => .int i
  | .str s => .str s
  | .tup xs => .tuple (toPs xs)
  | .lst xs => .list (toPs xs)
  | .dct ks vs => .dict ((toPs ks).zip (toPs vs))
  | .scr ns => .list (ns.map PyData.int)
  | .exc _ _ => .none
def toPs : List Dv → List PyData
  | [] => []
  | x :: xs => toP x :: toPs xs
end
mutual
/-- no dict, no error lies within -/
def plain : Dv → Bool
  | .non => true
  | .bl _ => true
  | .int _ => true
  | .str _ => true
  | .tup xs => plains xs
  | .lst xs => plains xs
  | .dct _ _ => false
  | .scr _ => false
  | .exc _ _ => false
def plains : List Dv → Bool
  | [] => true
  | x :: xs => plain x && plains xs
end
mutual
def depth : Dv → Nat
  | .non => 0
  | .bl _ => 0
  | .int _ => 0
  | .str _ => 0
  | .tup xs => depths xs + 1
  | .lst xs => depths xs + 1
  | .dct _ _ => 0
  | .scr _ => 0
  | .exc _ _ => 0
def depths : List Dv → Nat
  | [] => 0
  | x :: xs => max (depth x) (depths xs)
end
mutual
def beq : Dv → Dv → Bool
  | .non, .non => true
  | .bl a, .bl b => a == b
  | .bl a, .int j => (if a then 1 else 0) == j
  | .int i, .bl b => i == (if b then 1 else 0)
  | .int i, .int j => i == j
  | .str x, .str y => x == y
  | .lst xs, .lst ys => beqs xs ys
  | .tup xs, .tup ys => beqs xs ys
  | _, _ => false
def beqs : List Dv → List Dv → Bool
  | [], [] => true
  | x :: xs, y :: ys => beq x y && beqs xs ys
  | _, _ => false
end
mutual
theorem toP_plain : ∀ d : Dv, d.plain = true → d.toP.plain = true
  | .non, _ => rfl
  | .bl _, _ => rfl
  | .int _, _ => rfl
  | .str _, _ => rfl
  | .tup xs, h => by
    simp only [plain] at h
    simp only [toP, PyData.plain]
    exact toPs_plain xs h
  | .lst xs, h => by
    simp only [plain] at h
    simp only [toP, PyData.plain]
    exact toPs_plain xs h
  | .dct _ _, h => nomatch h
  | .scr _, h => nomatch h
  | .exc _ _, h => nomatch h
theorem toPs_plain : ∀ xs : List Dv, plains xs = true → PyData.plainAll (toPs xs) = true
  | [], _ => rfl
  | x :: xs, h => by
    simp only [plains, Bool.and_eq_true] at h
    simp only [toPs, PyData.plainAll, toP_plain x h.1, toPs_plain xs h.2, Bool.and_self]
end
mutual
theorem toP_depth : ∀ d : Dv, d.plain = true → d.toP.depth = d.depth
  | .non, _ => rfl
  | .bl _, _ => rfl
  | .int _, _ => rfl
  | .str _, _ => rfl
  | .tup xs, h => by
    simp only [plain] at h
    simp only [toP, PyData.depth, depth]
    exact congrArg (· + 1) (toPs_depth xs h)
  | .lst xs, h => by
    simp only [plain] at h
    simp only [toP, PyData.depth, depth]
    exact congrArg (· + 1) (toPs_depth xs h)
  | .dct _ _, h => nomatch h
  | .scr _, h => nomatch h
  | .exc _ _, h => nomatch h
theorem toPs_depth : ∀ xs : List Dv, plains xs = true → PyData.depthAll (toPs xs) = depths xs
  | [], _ => rfl
  | x :: xs, h => by
    simp only [plains, Bool.and_eq_true] at h
    simp only [toPs, PyData.depthAll, depths, toP_depth x h.1, toPs_depth xs h.2]
end
mutual
theorem eqv_beq : ∀ x y : Dv, x.plain = true → y.plain = true → PyData.eqv x.toP y.toP = beq x y
  | .non, y, _, h => by cases y <;> first | rfl | cases h
  | .bl _, y, _, h => by cases y <;> first | rfl | cases h
  | .int _, y, _, h => by cases y <;> first | rfl | cases h
  | .str _, y, _, h => by cases y <;> first | rfl | cases h
  | .tup xs, y, hx, h => by
    cases y with
    | tup ys =>
      simp only [plain] at hx h
      simp only [toP, PyData.eqv, beq]
      exact eqvs_beqs xs ys hx h
    | _ => first | rfl | cases h
  | .lst xs, y, hx, h => by
    cases y with
    | lst ys =>
      simp only [plain] at hx h
      simp only [toP, PyData.eqv, beq]
      exact eqvs_beqs xs ys hx h
    | _ => first | rfl | cases h
  | .dct _ _, _, h, _ => nomatch h
  | .scr _, _, h, _ => nomatch h
  | .exc _ _, _, h, _ => nomatch h
theorem eqvs_beqs : ∀ xs ys : List Dv, plains xs = true → plains ys = true → PyData.eqvAll (toPs xs) (toPs ys) = beqs xs ys
  | [], [], _, _ => rfl
  | [], _ :: _, _, _ => rfl
  | _ :: _, [], _, _ => rfl
  | x :: xs, y :: ys, hx, hy => by
    simp only [plains, Bool.and_eq_true] at hx hy
    simp only [toPs, PyData.eqvAll, beqs, eqv_beq x y hx.1 hy.1, eqvs_beqs xs ys hx.2 hy.2]
end
theorem toPs_map : ∀ xs : List Dv, toPs xs = xs.map toP
  | [] => rfl
  | x :: xs => by rw [toPs, toPs_map xs, List.map_cons]
theorem any_beq (xs : List Dv) (d : Dv) (hx : plains xs = true) (hd : d.plain = true) : (toPs xs).any (fun y => PyData.eqv y d.toP) = xs.any fun y => beq y d := by
  induction xs with
  | nil => rfl
  | cons x xs ih =>
    simp only [plains, Bool.and_eq_true] at hx
    simp only [toPs, List.any_cons, eqv_beq x d hx.1 hd, ih hx.2]

mutual
/-- no list, no dict, no error within -/
def bare : Dv → Bool
  | .non => true
  | .bl _ => true
  | .int _ => true
  | .str _ => true
  | .tup xs => bares xs
  | .lst _ => false
  | .dct _ _ => false
  | .scr _ => false
  | .exc _ _ => false
def bares : List Dv → Bool
  | [] => true
  | x :: xs => bare x && bares xs
end
def shows (d : PyData) : Bool := d.showable && decide (d.shown.length ≤ 16777216) && decide (d.depth ≤ 100)
/-- what repr shows, but of an error -/
def lookP (d : Dv) : Option PyData := match d with
  | .dct ks vs => if bares ks && bares vs && decide (ks.length = vs.length) then some (toP (.dct ks vs)) else none
  | d => if d.plain then some d.toP else none
/-- repr -/
def reprD (d : Dv) : Option Str := match d with
  | .exc c v => (lookP v).bind fun p => if shows p && decide (c.length ≤ 1000) && decide (p.shown.length ≤ 1000000) then some (c ++ ("(" : Str) ++ p.shown ++ (")" : Str)) else none
  | d => (lookP d).bind fun p => if shows p then some p.shown else none
end Dv

/-! ## the small language -/
inductive Ty where | int | bool | str | tuple | list | dict deriving DecidableEq
inductive Pr where
  | bin (o : Operator) | cmp (o : CmpOp)
  | neg | isN (neg : Bool)
  | tup | lst
  | ix | sl (lo hi : Bool) | rev
  | len | int | str | repr | abs | sum | all | any | sorted
  | list | tuple | rngL1 | rngL2
  | min2 | max2 | min1 | max1
  | isi (t : Ty) | isc (c : Str) | isv (n : String)
  | mk (c : Str) | attr
  | join | upper | index | count
  | dct0 | dct1 (k : Str)
  deriving DecidableEq

inductive Tg where
  | n (i : Nat)
  | two (a b : Tg)
  | three (a b c : Tg)
  | four (a b c d : Tg)

mutual
inductive Ex where
  | var (i : Nat)
  | cst (c : Const)
  | glb (x : Str) (k : Const)
  | pr (p : Pr) (as : Ops)
  | and (a b : Ex)
  | or (a b : Ex)
  | not (a : Ex)
  | ite (c a b : Ex)
  | chain (o1 o2 : CmpOp) (a b c : Op)
  | call (g : Nat) (as : Ops)
  | callK (g : Nat) (as ks : Ops) (names : List Str)
  | callF (g : Nat) (as : Ops)
  | callT (g : Nat) (a : Ex)
  | comp (elt : Ex) (tg : Tg) (it : It) (ifs : List Ex) (own : List Nat)
inductive Op where
  | o (i : Nat)
  | e (x : Ex)
inductive Ops where
  | nil
  | cons (a : Op) (as : Ops)
inductive It where
  | seq (a : Op)
  | rng1 (a : Ex)
  | rng2 (a b : Ex)
  | zip (a b : Op)
  | enum (a : Op)
end
mutual
inductive Sm where
  | set (tg : Tg) (e : Ex)
  | own (i : Nat) (e : Ex)
  | par (ts : List (Nat × Bool)) (es : List Ex)
  | aug (i : Nat) (o : Operator) (e : Ex)
  | put (i : Nat) (k e : Ex)
  | app (i : Nat) (e : Ex)
  | ext (i : Nat) (a : Op)
  | ex (e : Ex)
  | ret (e : Ex)
  | retN
  | ite (c : Ex) (a b : Sms)
  | for_ (tg : Tg) (it : It) (b : Sms)
  | while_ (c : Ex) (b : Sms)
  | brk | cont | pass
  | never
inductive Sms where
  | nil
  | cons (s : Sm) (ss : Sms)
end

/-! ## what an operation on data gives -/
def mulOk (i j : Int) : Bool := decide (i.natAbs.log2 + j.natAbs.log2 < 1000000)
def short (n : Nat) : Bool := decide (n ≤ 16777216)
def cutD {α : Type} (xs : List α) (lo hi : Option Int) : List α := (xs.drop (HT.sIx xs.length 0 lo)).take (HT.sIx xs.length xs.length hi - HT.sIx xs.length 0 lo)
def strCut (s : Str) (lo hi : Option Int) : Str := L2.cutS s lo hi

def binD : Operator → Dv → Dv → Option Dv
  | .Add, .int i, .int j => some (.int (i + j))
  | .Add, .str x, .str y => if short (x.length + y.length) then some (.str (x ++ y)) else none
  | .Add, .lst xs, .lst ys => if short (xs.length + ys.length) then some (.lst (xs ++ ys)) else none
  | .Add, .tup xs, .tup ys => if short (xs.length + ys.length) then some (.tup (xs ++ ys)) else none
  | .Sub, .int i, .int j => some (.int (i - j))
  | .Mult, .int i, .int j => if mulOk i j then some (.int (i * j)) else none
  | .Mult, .lst xs, .int k => if decide (0 ≤ k) && decide (k ≤ 16777216) && short (xs.length * k.toNat) then some (.lst (List.replicate k.toNat xs).flatten) else none
  | .Mult, .tup xs, .int k => if decide (2 ≤ k) && decide (k ≤ 1000) && decide (xs.length ≤ 1000) && decide (0 < xs.length) then some (.tup (List.replicate k.toNat xs).flatten) else none
  | .Mod, .int i, .int j => if 0 < j then some (.int (i % j)) else none
  | .FloorDiv, .int i, .int j => if 0 < j ∧ j.natAbs.log2 < 9000 then some (.int (i / j)) else none
  | .Pow, .int i, .int j => if 0 ≤ j ∧ (i.natAbs.log2 + 1) * j.toNat ≤ 2 ^ 27 then some (.int (i ^ j.toNat)) else none
  | _, _, _ => none

def eqD (x y : Dv) : Option Bool := if x.plain && y.plain && decide (min x.depth y.depth ≤ 100) then some (Dv.beq x y) else none
def inD (x : Dv) (xs : List Dv) : Option Bool := if x.plain && Dv.plains xs && decide (min (Dv.depths xs) x.depth ≤ 100) then some (xs.any fun y => Dv.beq y x) else none
def ltD (x y : Dv) : Option Bool := if x.plain && y.plain && PySem.W.alike x.toP y.toP && decide (min x.depth y.depth ≤ 100) && (match x with | .non => false | _ => true) then some (PySem.W.dataLt x.toP y.toP) else none
def orD (f : Int → Int → Bool) (g : Option Bool) : Dv → Dv → Option Bool
  | .int i, .int j => some (f i j)
  | _, _ => g
def inQ (x y : Dv) : Option Bool := match y with
  | .lst xs => inD x xs
  | .tup xs => inD x xs
  | _ => none
def cmpD (o : CmpOp) (x y : Dv) : Option Bool := match o with
  | .Eq => eqD x y
  | .NotEq => (eqD x y).map (!·)
  | .Lt => orD (fun i j => decide (i < j)) (ltD x y) x y
  | .LtE => orD (fun i j => decide (i ≤ j)) ((ltD y x).map (!·)) x y
  | .Gt => orD (fun i j => decide (j < i)) (ltD y x) x y
  | .GtE => orD (fun i j => decide (j ≤ i)) ((ltD x y).map (!·)) x y
  | .In => inQ x y
  | .NotIn => (inQ x y).map (!·)
  | .Is => none
  | .IsNot => none
def ixD : Dv → Dv → Option Dv
  | .lst xs, .int i => L2.atI xs i
  | .tup xs, .int i => L2.atI xs i
  | .scr ns, .int i => (L2.atI ns i).map .int
  | .str s, .int i => if short s.length then (L2.atI s.cps.toList i).map fun c => .str ⟨#[c]⟩ else none
  | _, _ => none
def slD : Dv → Option Int → Option Int → Option Dv
  | .lst xs, lo, hi => some (.lst (cutD xs lo hi))
  | .tup xs, lo, hi => some (.tup (cutD xs lo hi))
  | .scr ns, lo, hi => some (.lst ((cutD ns lo hi).map .int))
  | .str s, lo, hi => if short s.length then some (.str (strCut s lo hi)) else none
  | _, _, _ => none
def isTy : Ty → Dv → Bool
  | .int, .int _ => true
  | .int, .bl _ => true
  | .bool, .bl _ => true
  | .str, .str _ => true
  | .tuple, .tup _ => true
  | .list, .lst _ => true
  | .list, .scr _ => true
  | .dict, .dct _ _ => true
  | _, _ => false
def intsOf : List Dv → Option (List Int)
  | [] => some []
  | .int i :: r => (intsOf r).map (i :: ·)
  | _ => none
def blsOf : List Dv → Option (List Bool)
  | [] => some []
  | .bl i :: r => (blsOf r).map (i :: ·)
  | _ => none
def strsOf : List Dv → Option (List Str)
  | [] => some []
  | .str i :: r => (strsOf r).map (i :: ·)
  | _ => none
def seqOf : Dv → Option (List Dv)
  | .lst xs => some xs
  | .tup xs => some xs
  | _ => none
def rngD (a b : Int) : Option (List Dv) := if decide (-(2 ^ 62) ≤ a) && decide (a < 2 ^ 62) && decide (-(2 ^ 62) ≤ b) && decide (b < 2 ^ 62) then some ((List.range (b - a).toNat).map fun (k : Nat) => .int (a + (k : Int))) else none

def augD (o : Operator) (x y : Dv) : Option Dv := match o, x, y with
  | .Add, .int i, .int j => some (.int (i + j))
  | .Add, .str x, .str y => if short (x.length + y.length) then some (.str (x ++ y)) else none
  | .Sub, .int i, .int j => some (.int (i - j))
  | .Mult, .int i, .int j => if mulOk i j then some (.int (i * j)) else none
  | _, _, _ => none
def negD : Dv → Option Dv
  | .int i => some (.int (-i))
  | _ => none
def isNon : Dv → Bool
  | .non => true
  | _ => false
def revD : Dv → Option Dv
  | .lst xs => some (.lst xs.reverse)
  | .tup xs => some (.tup xs.reverse)
  | _ => none
def lenD : Dv → Option Dv
  | .lst xs => some (.int xs.length)
  | .tup xs => some (.int xs.length)
  | .scr xs => some (.int xs.length)
  | .str s => if short s.length then some (.int s.length) else none
  | _ => none
def intD : Dv → Option Dv
  | .int i => some (.int i)
  | .bl b => some (.int (if b then 1 else 0))
  | _ => none
def absD : Dv → Option Dv
  | .int i => some (.int i.natAbs)
  | _ => none
def lstOf : Dv → Option (List Dv)
  | .lst xs => some xs
  | _ => none
def sumD (x : Dv) : Option Dv := (lstOf x).bind fun xs => (intsOf xs).map fun ns => .int ns.sum
def allD (x : Dv) : Option Dv := (lstOf x).bind fun xs => (blsOf xs).map fun ns => .bl (ns.all id)
def anyD (x : Dv) : Option Dv := (lstOf x).bind fun xs => (blsOf xs).map fun ns => .bl (ns.any id)
def rngL (a b : Int) : Option Dv := (rngD a b).bind fun xs => if short xs.length then some (.lst xs) else none
def rng1D : Dv → Option Dv
  | .int b => rngL 0 b
  | _ => none
def rng2D : Dv → Dv → Option Dv
  | .int a, .int b => rngL a b
  | _, _ => none
def minD : Dv → Dv → Option Dv
  | .int a, .int b => some (.int (min a b))
  | _, _ => none
def maxD : Dv → Dv → Option Dv
  | .int a, .int b => some (.int (max a b))
  | _, _ => none
def isiD (t : Ty) (x : Dv) : Option Dv := match x with
  | .exc _ _ => none
  | x => some (.bl (isTy t x))
def iscD (c : Str) : Dv → Option Dv
  | .exc k _ => some (.bl (decide (k = c) || decide (c = ("CreaseError" : Str))))
  | _ => none
def isvD : Dv → Option Dv
  | .exc _ _ => some (.bl true)
  | _ => none
def attrD : Dv → Option Dv
  | .exc _ x => some x
  | _ => none
def asInt : Dv → Option Int
  | .int i => some i
  | _ => none
def pr1 (p : Pr) (x : Dv) : Option Dv := match p with
  | .neg => negD x
  | .isN n => some (.bl (if n then !isNon x else isNon x))
  | .sl false false => slD x none none
  | .rev => revD x
  | .len => lenD x
  | .int => intD x
  | .repr => x.reprD.map .str
  | .abs => absD x
  | .sum => sumD x
  | .all => allD x
  | .any => anyD x
  | .list => (seqOf x).map .lst
  | .tuple => (seqOf x).map .tup
  | .rngL1 => rng1D x
  | .isi t => isiD t x
  | .isc c => iscD c x
  | .isv _ => isvD x
  | .mk c => some (.exc c x)
  | .attr => attrD x
  | _ => none
def pr2 (p : Pr) (x y : Dv) : Option Dv := match p with
  | .bin o => binD o x y
  | .cmp o => (cmpD o x y).map .bl
  | .ix => ixD x y
  | .sl true false => (asInt y).bind fun i => slD x (some i) none
  | .sl false true => (asInt y).bind fun i => slD x none (some i)
  | .rngL2 => rng2D x y
  | .min2 => minD x y
  | .max2 => maxD x y
  | _ => none
def pr3 (p : Pr) (x y z : Dv) : Option Dv := match p with
  | .sl true true => (asInt y).bind fun i => (asInt z).bind fun j => slD x (some i) (some j)
  | _ => none
def prS (p : Pr) (ds : List Dv) : Option Dv := match ds with
  | [x] => pr1 p x
  | [x, y] => pr2 p x y
  | [x, y, z] => pr3 p x y z
  | _ => none
def prD (p : Pr) (ds : List Dv) : Option Dv := match p with
  | .tup => if short ds.length then some (.tup ds) else none
  | .lst => if short ds.length then some (.lst ds) else none
  | .dct0 => (match ds with | [] => some (.dct [] []) | _ => none)
  | .dct1 k => (match ds with | [x] => some (.dct [.str k] [x]) | _ => none)
  | p => prS p ds

/-! ## running -/
abbrev Tab := Nat → List Dv → Option (Dv × List (List Dv))
def ownL (η : Env) (i : Nat) : Option (List Dv) := match η[i]? with
  | some (.lst _ xs) => some xs
  | _ => none
def finO : Op → Dv → Env → Option Dv
  | .o i, _, η => (ownL η i).map .lst
  | .e _, d, _ => some d
def finOs : Ops → List Dv → Env → Option (List Dv)
  | .nil, [], _ => some []
  | .cons a as, d :: ds, η => match finO a d η, finOs as ds η with
    | some x, some xs => some (x :: xs)
    | _, _ => none
  | _, _, _ => none
/-- what a slot gives that is read for good: a list of its own is frozen -/
def rdVar (η : Env) (i : Nat) : Option (Dv × Env) := match η[i]? with
  | some (.dat d) => some (d, η)
  | some (.lst false xs) => some (.lst xs, η.set i (.dat (.lst xs)))
  | _ => none
def cstD : Const → Option Dv
  | .none => some .non
  | .bool b => some (.bl b)
  | .int i => some (.int i)
  | .str s => some (.str s)
  | _ => none
/-- a slot may be stored to: not a lent list -/
def free (η : Env) (i : Nat) : Bool := match η[i]? with
  | some (.lst true _) => false
  | some _ => true
  | none => false
def setTg : Tg → Dv → Env → Option Env
  | .n i, d, η => if free η i then some (η.set i (.dat d)) else none
  | .two a b, .tup [x, y], η => (setTg a x η).bind (setTg b y)
  | .three a b c, .tup [x, y, z], η => ((setTg a x η).bind (setTg b y)).bind (setTg c z)
  | .four a b c d, .tup [x, y, z, w], η => (((setTg a x η).bind (setTg b y)).bind (setTg c z)).bind (setTg d w)
  | _, _, _ => none
/-- lent lists come back -/
def backOs : Ops → List (List Dv) → Env → Option Env
  | .nil, [], η => some η
  | .cons (.o i) as, ys :: r, η => match η[i]? with
    | some (.lst br _) => backOs as r (η.set i (.lst br ys))
    | _ => none
  | .cons (.e _) as, r, η => backOs as r η
  | _, _, _ => none
def wipeE (η : Env) : List Nat → Env
  | [] => η
  | v :: vs => (wipeE η vs).set v .no
/-- the comprehension's own slots as they were -/
def unwipe (η0 η : Env) : List Nat → Env
  | [] => η
  | v :: vs => match η0[v]? with
    | some sv => (unwipe η0 η vs).set v sv
    | none => unwipe η0 η vs
def noOwn (η : Env) (vs : List Nat) : Bool := vs.all fun v => match η[v]? with
  | some (.lst _ _) => false
  | _ => true
def compL (test : Env → Option (Bool × Env)) (elt : Env → Option (Dv × Env)) (tg : Tg) (own : List Nat) : List Dv → List Dv → Env → Option (List Dv × Env)
  | [], acc, η => some (acc, η)
  | d :: ds, acc, η => match setTg tg d η with
    | none => none
    | some η1 => match test η1 with
      | none => none
      | some (false, η2) => if noOwn η2 own then compL test elt tg own ds acc (wipeE η2 own) else none
      | some (true, η2) => match elt η2 with
        | none => none
        | some (x, η3) => if decide (acc.length < 16777216) && noOwn η3 own then compL test elt tg own ds (acc ++ [x]) (wipeE η3 own) else none
def testL (t : List (Env → Option (Dv × Env))) (η : Env) : Option (Bool × Env) := match t with
  | [] => some (true, η)
  | f :: r => match f η with
    | some (.bl true, η1) => testL r η1
    | some (.bl false, η1) => some (false, η1)
    | _ => none
mutual
def evE (Γ : Tab) : Ex → Env → Option (Dv × Env)
  | .var i, η => rdVar η i
  | .cst c, η => (cstD c).map (·, η)
  | .glb _ k, η => (cstD k).map (·, η)
  | .pr p as, η => match evOs Γ as η with
    | none => none
    | some (ds, η1) => match finOs as ds η1 with
      | none => none
      | some ds' => (prD p ds').map (·, η1)
  | .and a b, η => match evE Γ a η with
    | some (.bl true, η1) => evE Γ b η1
    | some (.bl false, η1) => some (.bl false, η1)
    | _ => none
  | .or a b, η => match evE Γ a η with
    | some (.bl true, η1) => some (.bl true, η1)
    | some (.bl false, η1) => evE Γ b η1
    | _ => none
  | .not a, η => match evE Γ a η with
    | some (.bl b, η1) => some (.bl (!b), η1)
    | _ => none
  | .ite c a b, η => match evE Γ c η with
    | some (.bl true, η1) => evE Γ a η1
    | some (.bl false, η1) => evE Γ b η1
    | _ => none
  | .chain o1 o2 a b c, η => match evO Γ a η with
    | none => none
    | some (x, η1) => match evO Γ b η1 with
      | none => none
      | some (y, η2) => match finO a x η2, finO b y η2 with
        | some x', some y' => match cmpD o1 x' y' with
          | some false => some (.bl false, η2)
          | some true => match evO Γ c η2 with
            | none => none
            | some (z, η3) => match finO b y η3, finO c z η3 with
              | some y2, some z2 => (cmpD o2 y2 z2).map fun r => (.bl r, η3)
              | _, _ => none
          | none => none
        | _, _ => none
  | .call g as, η => match evOs Γ as η with
    | none => none
    | some (ds, η1) => match finOs as ds η1 with
      | none => none
      | some ds' => match Γ g ds' with
        | none => none
        | some (d, outs) => (backOs as outs η1).map (d, ·)
  | .callK g as ks _, η => match evOs Γ as η with
    | none => none
    | some (ds, η1) => match evOs Γ ks η1 with
      | none => none
      | some (es, η2) => match finOs as ds η2, finOs ks es η2 with
        | some ds', some es' => match Γ g (ds' ++ es') with
          | none => none
          | some (d, outs) => (backOs as outs η2).map (d, ·)
        | _, _ => none
  | .callF g as, η => match evOs Γ as η with
    | none => none
    | some (ds, η1) => match finOs as ds η1 with
      | none => none
      | some ds' => match Γ g ds' with
        | some (.lst xs, outs) => (backOs as outs η1).map (.lst xs, ·)
        | _ => none
  | .callT g a, η => match evE Γ a η with
    | some (.lst xs, η1) => match Γ g [.lst xs] with
      | some (d, _) => some (d, η1)
      | none => none
    | _ => none
  | .comp elt tg it ifs own, η => match evI Γ it η with
    | none => none
    | some (ds, η1) => if noOwn η1 own then match compL (testL (evTs Γ ifs)) (evE Γ elt) tg own ds [] (wipeE η1 own) with
        | none => none
        | some (xs, η2) => some (.lst xs, unwipe η1 η2 own)
      else none
def evTs (Γ : Tab) : List Ex → List (Env → Option (Dv × Env))
  | [] => []
  | e :: es => evE Γ e :: evTs Γ es
def evO (Γ : Tab) : Op → Env → Option (Dv × Env)
  | .o i, η => (ownL η i).map fun xs => (.lst xs, η)
  | .e x, η => evE Γ x η
def evOs (Γ : Tab) : Ops → Env → Option (List Dv × Env)
  | .nil, η => some ([], η)
  | .cons a as, η => match evO Γ a η with
    | none => none
    | some (x, η1) => match evOs Γ as η1 with
      | none => none
      | some (xs, η2) => some (x :: xs, η2)
def evI (Γ : Tab) : It → Env → Option (List Dv × Env)
  | .seq a, η => match evO Γ a η with
    | some (d, η1) => (seqOf d).map (·, η1)
    | none => none
  | .rng1 a, η => match evE Γ a η with
    | some (.int b, η1) => (rngD 0 b).map (·, η1)
    | _ => none
  | .rng2 a b, η => match evE Γ a η with
    | some (.int i, η1) => match evE Γ b η1 with
      | some (.int j, η2) => (rngD i j).map (·, η2)
      | _ => none
    | _ => none
  | .zip _ _, _ => none
  | .enum _, _ => none
end

inductive Fl where
  | nx | ret (d : Dv) | bk | ct
def runL : List (Env → Option (Dv × Env)) → Env → Option (List Dv × Env)
  | [], η => some ([], η)
  | f :: r, η => match f η with
    | none => none
    | some (x, η1) => match runL r η1 with
      | none => none
      | some (xs, η2) => some (x :: xs, η2)
def setPar : List (Nat × Bool) → List Dv → Env → Option Env
  | [], [], η => some η
  | (i, true) :: r, .lst xs :: ds, η => if free η i then setPar r ds (η.set i (.lst false xs)) else none
  | (i, false) :: r, d :: ds, η => if free η i then setPar r ds (η.set i (.dat d)) else none
  | _, _, _ => none
def forL (tg : Tg) (body : Env → Option (Fl × Env)) : List Dv → Env → Option (Fl × Env)
  | [], η => some (.nx, η)
  | d :: ds, η => match setTg tg d η with
    | none => none
    | some η1 => match body η1 with
      | some (.nx, η2) => forL tg body ds η2
      | some (.ct, η2) => forL tg body ds η2
      | some (.bk, η2) => some (.nx, η2)
      | some (.ret x, η2) => some (.ret x, η2)
      | none => none
def whileL (test : Env → Option (Dv × Env)) (body : Env → Option (Fl × Env)) : Nat → Env → Option (Fl × Env)
  | 0, _ => none
  | n + 1, η => match test η with
    | some (.bl true, η1) => match body η1 with
      | some (.nx, η2) => whileL test body n η2
      | some (.ct, η2) => whileL test body n η2
      | some (.bk, η2) => some (.nx, η2)
      | some (.ret x, η2) => some (.ret x, η2)
      | none => none
    | some (.bl false, η1) => some (.nx, η1)
    | _ => none
mutual
def evS (Γ : Tab) (fu : Nat) : Sm → Env → Option (Fl × Env)
  | .set tg e, η => match evE Γ e η with
    | none => none
    | some (d, η1) => (setTg tg d η1).map (.nx, ·)
  | .own i e, η => match evE Γ e η with
    | some (.lst xs, η1) => if free η1 i then some (.nx, η1.set i (.lst false xs)) else none
    | _ => none
  | .par ts es, η => match runL (evTs Γ es) η with
    | none => none
    | some (ds, η1) => (setPar ts ds η1).map (.nx, ·)
  | .aug i o e, η => match η[i]? with
    | some (.dat d) => match evE Γ e η with
      | none => none
      | some (x, η1) => (augD o d x).map fun r => (.nx, η1.set i (.dat r))
    | _ => none
  | .put i k e, η => match evE Γ e η with
    | none => none
    | some (x, η1) => match η1[i]? with
      | some (.lst _ _) => match evE Γ k η1 with
        | some (.int j, η2) => match η2[i]? with
          | some (.lst br xs) => (L2.ixN xs.length j).map fun n => (.nx, η2.set i (.lst br (xs.set n x)))
          | _ => none
        | _ => none
      | _ => none
  | .app i e, η => match η[i]? with
    | some (.lst _ _) => match evE Γ e η with
      | none => none
      | some (x, η1) => match η1[i]? with
        | some (.lst br xs) => if decide (xs.length < 16777216) then some (.nx, η1.set i (.lst br (xs ++ [x]))) else none
        | _ => none
    | _ => none
  | .ext i a, η => match evO Γ a η with
    | none => none
    | some (x, η1) => match finO a x η1, η1[i]? with
      | some (.lst ys), some (.lst br xs) => if short (xs.length + ys.length) then some (.nx, η1.set i (.lst br (xs ++ ys))) else none
      | _, _ => none
  | .ex e, η => (evE Γ e η).map fun r => (.nx, r.2)
  | .ret e, η => (evE Γ e η).map fun r => (.ret r.1, r.2)
  | .retN, η => some (.ret .non, η)
  | .ite c a b, η => match evE Γ c η with
    | some (.bl true, η1) => evSs Γ fu a η1
    | some (.bl false, η1) => evSs Γ fu b η1
    | _ => none
  | .for_ tg it b, η => match evI Γ it η with
    | none => none
    | some (ds, η1) => forL tg (evSs Γ fu b) ds η1
  | .while_ c b, η => whileL (evE Γ c) (evSs Γ fu b) fu η
  | .brk, η => some (.bk, η)
  | .cont, η => some (.ct, η)
  | .pass, η => some (.nx, η)
  | .never, _ => none
def evSs (Γ : Tab) (fu : Nat) : Sms → Env → Option (Fl × Env)
  | .nil, η => some (.nx, η)
  | .cons s ss, η => match evS Γ fu s η with
    | some (.nx, η1) => evSs Γ fu ss η1
    | r => r
end
/-! ## a def called -/
def initE : List Bool → List Dv → Option Env
  | [], [] => some []
  | true :: r, .lst xs :: ds => (initE r ds).map (.lst true xs :: ·)
  | false :: r, d :: ds => (initE r ds).map (.dat d :: ·)
  | _, _ => none
def outsE : List Bool → Env → Option (List (List Dv))
  | [], _ => some []
  | true :: r, .lst true xs :: η => (outsE r η).map (xs :: ·)
  | false :: r, _ :: η => outsE r η
  | _, _ => none
/-- the lent lists come first among the outs: those of the lent parameters, in their order -/
def runFn (Γ : Tab) (fu n : Nat) (br : List Bool) (body : Sms) (args : List Dv) : Option (Dv × List (List Dv)) := match initE br args with
  | none => none
  | some η => match evSs Γ fu body (η ++ List.replicate (n - η.length) .no) with
    | some (.ret d, η') => (outsE br η').map (d, ·)
    | some (.nx, η') => (outsE br η').map (.non, ·)
    | _ => none
end CF

set_option Elab.async false
set_option linter.all false
set_option maxRecDepth 100000
namespace CF
open PySem PySem.Spec PyProof.Rows L2

/-! ## readings -/
theorem PE.weaken {X : Cx} {e : Expr} {t t' : TE} (h : PE X e t) (k : ∀ σ H Q, t' σ H Q → t σ H Q) : PE X e t' := ⟨fun pins s σ H Q I q => h.run pins s σ H Q I (k σ H Q q)⟩
theorem PT.weaken {X : Cx} {e : Expr} {t t' : TT} (h : PT X e t) (k : ∀ σ H Q, t' σ H Q → t σ H Q) : PT X e t' := ⟨fun pins s σ H Q I q => h.run pins s σ H Q I (k σ H Q q)⟩
theorem PA.weaken {X : Cx} {e : List Expr} {t t' : TA} (h : PA X e t) (k : ∀ σ H Q, t' σ H Q → t σ H Q) : PA X e t' := ⟨fun pos pins s σ H Q I q => h.run pos pins s σ H Q I (k σ H Q q)⟩
theorem PS.weaken {X : Cx} {e : Stmt} {t t' : TS} (h : PS X e t) (k : ∀ D σ H, t' D σ H → t D σ H) : PS X e t' := ⟨fun pins s σ H D I q => h.run pins s σ H D I (k D σ H q)⟩
theorem PSs.weaken {X : Cx} {e : List Stmt} {t t' : TS} (h : PSs X e t) (k : ∀ D σ H, t' D σ H → t D σ H) : PSs X e t' := ⟨fun pins s σ H D I q => h.run pins s σ H D I (k D σ H q)⟩

/-- a value at hand: firm, or a list of the def's own -/
def RepL (W : Wd) (HF H : Hp) (v : V) (d : Dv) : Prop := Rep W HF v d ∨ ∃ p vs xs, v = .ref p ∧ d = .lst xs ∧ H p = some (.lst vs) ∧ Reps W HF vs xs
def RepLs (W : Wd) (HF H : Hp) : List V → List Dv → Prop
  | [], [] => True
  | v :: vs, d :: ds => RepL W HF H v d ∧ RepLs W HF H vs ds
  | _, _ => False
/-- the ways in which a value may come -/
def Out (W : Wd) (HF H : Hp) (d : Dv) (Q : VK) : Prop :=
  (∀ v, Rep W HF v d → Q v H) ∧ (∀ q vs xs, d = .tup xs → H q = none → Reps W HF vs xs → Q (.ref q) (upd H q (.tup vs))) ∧
    ∀ q vs xs, d = .lst xs → H q = none → Reps W HF vs xs → Q (.ref q) (upd H q (.lst vs))
def rV (W : Wd) (p : Pr) (xs : List V) (H : Hp) (Q : VK) : Prop := ∃ HF ds d, Same HF H ∧ RepLs W HF H xs ds ∧ prD p ds = some d ∧ Out W HF H d Q
/-- a new list that stands alone -/
def rN (W : Wd) (p : Pr) (xs : List V) (H : Hp) (Q : VK) : Prop := ∃ HF ds ys, Same HF H ∧ RepLs W HF H xs ds ∧ prD p ds = some (.lst ys) ∧ ∀ q vs, H q = none → Reps W HF vs ys → Q (.ref q) (upd H q (.lst vs))

def Own (η : CF.Env) (σ : L2.St) (a : Addr) : Prop := ∃ j, OwnAt η σ j a
/-- what an expression may do to the heap -/
structure Stp (σ : L2.St) (HF H : Hp) (η : CF.Env) (HF' H' : Hp) (η' : CF.Env) : Prop where
  f : Same HF HF'
  k : ∀ a o, H a = some o → ¬ Own η σ a → H' a = some o
  n : ∀ a o, HF' a = some o → HF a = some o ∨ H a = none ∨ Own η σ a
  w : ∀ a, Own η' σ a → Own η σ a
  g : ∀ a o, H a = some o → ∃ o', H' a = some o'
theorem Stp.refl {σ : L2.St} {HF H : Hp} {η : CF.Env} : Stp σ HF H η HF H η := ⟨fun _ _ e => e, fun _ _ e _ => e, fun _ _ e => .inl e, fun _ e => e, fun _ o e => ⟨o, e⟩⟩
theorem Stp.trans {σ : L2.St} {HF H HF1 H1 HF2 H2 : Hp} {η η1 η2 : CF.Env} (a : Stp σ HF H η HF1 H1 η1) (b : Stp σ HF1 H1 η1 HF2 H2 η2) : Stp σ HF H η HF2 H2 η2 where
  f := a.f.trans b.f
  k := fun x o e h => b.k x o (a.k x o e h) fun z => h (a.w x z)
  n := fun x o e => by
    rcases b.n x o e with z | z | z
    · exact a.n x o z
    · by_cases h : Own η σ x
      · exact .inr (.inr h)
      · refine .inr (.inl ?_)
        cases q : H x with
        | none => rfl
        | some u =>
          rw [a.k x u q h] at z
          cases z
    · exact .inr (.inr (a.w x z))
  w := fun x z => a.w x (b.w x z)
  g := fun x o e => let ⟨o1, e1⟩ := a.g x o e; b.g x o1 e1
theorem Stp.alloc {σ : L2.St} {HF H : Hp} {η : CF.Env} {p : Addr} {o : HO} (h : H p = none) (hF : HF p = none) : Stp σ HF H η (upd HF p o) (upd H p o) η where
  f := Same.upd_new hF
  k := fun a u e _ => Same.upd_new h _ _ e
  n := fun a u e => by
    by_cases ha : a = p
    · subst ha
      exact .inr (.inl h)
    · rw [upd_ne ha] at e
      exact .inl e
  w := fun _ z => z
  g := fun a u e => ⟨u, Same.upd_new h _ _ e⟩
theorem Stp.allocOwn {σ : L2.St} {HF H : Hp} {η : CF.Env} {p : Addr} {o : HO} (h : H p = none) : Stp σ HF H η HF (upd H p o) η where
  f := fun _ _ e => e
  k := fun a u e _ => Same.upd_new h _ _ e
  n := fun a u e => .inl e
  w := fun _ z => z
  g := fun a u e => ⟨u, Same.upd_new h _ _ e⟩
theorem Stp.non {σ : L2.St} {HF H HF' H' : Hp} {η η' : CF.Env} (s : Stp σ HF H η HF' H' η') {q : Addr} (h : H' q = none) : H q = none := by
  cases e : H q with
  | none => rfl
  | some o =>
    obtain ⟨o', z⟩ := s.g q o e
    rw [h] at z
    cases z

def tE (F : Fx) (Γ : Tab) (ir : Ex) : TE := fun σ H Q => ∃ HF η d η', SR F HF σ H η ∧ evE Γ ir η = some (d, η') ∧ ∀ v H' HF', SR F HF' σ H' η' → Stp σ HF H η HF' H' η' → Rep F.W HF' v d → Q v H'
def tT (F : Fx) (Γ : Tab) (ir : Ex) : TT := fun σ H Q => ∃ HF η b η', SR F HF σ H η ∧ evE Γ ir η = some (.bl b, η') ∧ ∀ H' HF', SR F HF' σ H' η' → Stp σ HF H η HF' H' η' → Q b H'
/-- a fresh list -/
def tF (F : Fx) (Γ : Tab) (ir : Ex) : TE := fun σ H Q => ∃ HF η xs η', SR F HF σ H η ∧ evE Γ ir η = some (.lst xs, η') ∧ ∀ q vs H' HF', SR F HF' σ H' η' → Stp σ HF H η HF' H' η' → H q = none → H' q = some (.lst vs) → Reps F.W HF' vs xs → HF' q = none → F.H0 q = none → ¬ Own η' σ q → Q (.ref q) H'
def OOk (F : Fx) (HF : Hp) (σ : L2.St) : Op → V → Dv → Prop
  | .o i, v, _ => σ[i]? = some (some v)
  | .e _, v, d => Rep F.W HF v d
def OOks (F : Fx) (HF : Hp) (σ : L2.St) : Ops → List V → List Dv → Prop
  | .nil, [], [] => True
  | .cons a as, v :: vs, d :: ds => OOk F HF σ a v d ∧ OOks F HF σ as vs ds
  | _, _, _ => False
def tO (F : Fx) (Γ : Tab) (a : Op) : TE := fun σ H Q => ∃ HF η d η', SR F HF σ H η ∧ evO Γ a η = some (d, η') ∧ ∀ v H' HF', SR F HF' σ H' η' → Stp σ HF H η HF' H' η' → OOk F HF' σ a v d → Q v H'
def tOs (F : Fx) (Γ : Tab) (as : Ops) : TA := fun σ H Q => ∃ HF η ds η', SR F HF σ H η ∧ evOs Γ as η = some (ds, η') ∧ ∀ vs H' HF', SR F HF' σ H' η' → Stp σ HF H η HF' H' η' → OOks F HF' σ as vs ds → Q vs H'

section
variable {F : Fx} {Γ : Tab} {HF HF' : Hp} {σ : L2.St} {H H' : Hp} {η : CF.Env}
theorem RepL.rep {W : Wd} {v : V} {d : Dv} (h : RepL W HF H v d) (s : Same HF H) : Rep W H v d := by
  rcases h with h | ⟨p, vs, xs, rfl, rfl, h, r⟩
  · exact h.mono s
  · exact .lst h (r.mono s)
theorem OOk.mono {a : Op} {v : V} {d : Dv} (h : OOk F HF σ a v d) (s : Same HF HF') : OOk F HF' σ a v d := by
  cases a with
  | o i => exact h
  | e x => exact Rep.mono s h
theorem OOks.mono (s : Same HF HF') : ∀ {as : Ops} {vs : List V} {ds : List Dv}, OOks F HF σ as vs ds → OOks F HF' σ as vs ds
  | .nil, [], [], _ => trivial
  | .cons _ _, _ :: _, _ :: _, ⟨h, r⟩ => ⟨h.mono s, OOks.mono s r⟩
  | .nil, _ :: _, _, h => h.elim
  | .nil, [], _ :: _, h => h.elim
  | .cons _ _, [], _, h => h.elim
  | .cons _ _, _ :: _, [], h => h.elim
theorem ownL_some {i : Nat} {xs : List Dv} (h : ownL η i = some xs) : ∃ br, η[i]? = some (.lst br xs) := by
  unfold ownL at h
  split at h
  · rename_i br ys e
    cases h
    exact ⟨br, e⟩
  · cases h
theorem OOk.fin (S : SR F HF σ H η) {a : Op} {v : V} {d d' : Dv} (h : OOk F HF σ a v d) (e : finO a d η = some d') : RepL F.W HF H v d' := by
  cases a with
  | o i =>
    obtain ⟨xs, e1, rfl⟩ := Option.map_eq_some_iff.mp e
    obtain ⟨br, e2⟩ := ownL_some e1
    obtain ⟨p, vs, q, hp, r, _⟩ := S.slotL e2
    have h' : σ[i]? = some (some v) := h
    rw [q] at h'
    cases h'
    exact .inr ⟨p, vs, xs, rfl, rfl, hp, r⟩
  | e x =>
    cases e
    exact .inl h
theorem OOks.fin (S : SR F HF σ H η) : ∀ {as : Ops} {vs : List V} {ds ds' : List Dv}, OOks F HF σ as vs ds → finOs as ds η = some ds' → RepLs F.W HF H vs ds'
  | .nil, [], [], ds', _, e => by
    cases e
    trivial
  | .cons a as, v :: vs, d :: ds, ds', ⟨h, r⟩, e => by
    unfold finOs at e
    split at e
    · rename_i x xs e1 e2
      cases e
      exact ⟨h.fin S e1, OOks.fin S r e2⟩
    · cases e
  | .nil, _ :: _, _, _, h, _ => h.elim
  | .nil, [], _ :: _, _, h, _ => h.elim
  | .cons _ _, [], _, _, h, _ => h.elim
  | .cons _ _, _ :: _, [], _, h, _ => h.elim
/-- the end of an operation, from what is wanted behind the expression -/
theorem out_of (S : SR F HF σ H η) {d : Dv} {Q : VK} (k : ∀ v H' HF', SR F HF' σ H' η → Stp σ HF H η HF' H' η → Rep F.W HF' v d → Q v H') : Out F.W HF H d Q := by
  refine ⟨fun v r => k v H HF S .refl r, fun q vs xs e hq r => ?_, fun q vs xs e hq r => ?_⟩
  · subst e
    obtain ⟨S', s⟩ := S.alloc (o := .tup vs) hq
    exact k _ _ _ S' (.alloc hq (S.sub.free hq)) (.tup (SqT.of upd_same) (r.mono s))
  · subst e
    obtain ⟨S', s⟩ := S.alloc (o := .lst vs) hq
    exact k _ _ _ S' (.alloc hq (S.sub.free hq)) (.lst upd_same (r.mono s))
theorem own_tracked (S : SR F HF σ H η) {q : Addr} (hq : H q = none) : ¬ Own η σ q := fun ⟨j, br, xs, e, z⟩ => by
  obtain ⟨p, vs, z', hp, _⟩ := S.slotL e
  rw [z] at z'
  cases z'
  rw [hq] at hp
  cases hp
theorem fresh_of (S : SR F HF σ H η) {xs : List Dv} {Q : VK} (k : ∀ q vs H' HF', SR F HF' σ H' η → Stp σ HF H η HF' H' η → H q = none → H' q = some (.lst vs) → Reps F.W HF' vs xs → HF' q = none → F.H0 q = none → ¬ Own η σ q → Q (.ref q) H') :
    ∀ q vs, H q = none → Reps F.W HF vs xs → Q (.ref q) (upd H q (.lst vs)) := fun q vs hq r =>
  k q vs _ HF (S.allocOwn hq) (.allocOwn hq) hq upd_same r (S.sub.free hq) (S.dom hq) (own_tracked S hq)
theorem tE_many {p : Pr} {as : Ops} {Q : VK} (h : tE F Γ (.pr p as) σ H Q) : tOs F Γ as σ H fun xs H1 => rV F.W p xs H1 Q := by
  obtain ⟨HF, η, d, η', S, e, k⟩ := h
  rw [evE] at e
  split at e
  · cases e
  · rename_i ds η1 e1
    split at e
    · cases e
    · rename_i ds' e2
      obtain ⟨d', e3, e4⟩ := Option.map_eq_some_iff.mp e
      cases e4
      exact ⟨HF, η, ds, _, S, e1, fun vs H' HF' S' s h => ⟨HF', ds', _, S'.sub, h.fin S' e2, e3, out_of S' fun v H2 HF2 S2 s2 r => k v H2 HF2 S2 (s.trans s2) r⟩⟩
theorem tF_many {p : Pr} {as : Ops} {Q : VK} (h : tF F Γ (.pr p as) σ H Q) : tOs F Γ as σ H fun xs H1 => rN F.W p xs H1 Q := by
  obtain ⟨HF, η, d, η', S, e, k⟩ := h
  rw [evE] at e
  split at e
  · cases e
  · rename_i ds η1 e1
    split at e
    · cases e
    · rename_i ds' e2
      obtain ⟨d', e3, e4⟩ := Option.map_eq_some_iff.mp e
      cases e4
      exact ⟨HF, η, ds, _, S, e1, fun vs H' HF' S' s h => ⟨HF', ds', _, S'.sub, h.fin S' e2, e3, fresh_of S' fun q vs H2 HF2 S2 s2 z => k q vs H2 HF2 S2 (s.trans s2) (s.non z)⟩⟩
theorem tOs_nil {Q : List V → Hp → Prop} (h : tOs F Γ .nil σ H Q) : Q [] H := by
  obtain ⟨HF, η, ds, η', S, e, k⟩ := h
  rw [evOs] at e
  cases e
  exact k [] H HF S .refl trivial
theorem tOs_cons {a : Op} {as : Ops} {Q : List V → Hp → Prop} (h : tOs F Γ (.cons a as) σ H Q) : tO F Γ a σ H fun x H1 => tOs F Γ as σ H1 fun xs H2 => Q (x :: xs) H2 := by
  obtain ⟨HF, η, ds, η', S, e, k⟩ := h
  rw [evOs] at e
  split at e
  · cases e
  · rename_i x η1 e1
    split at e
    · cases e
    · rename_i xs η2 e2
      cases e
      exact ⟨HF, η, x, η1, S, e1, fun v H1 HF1 S1 s1 h1 => ⟨HF1, η1, xs, _, S1, e2, fun vs H2 HF2 S2 s2 h2 => k (v :: vs) H2 HF2 S2 (s1.trans s2) ⟨h1.mono s2.f, h2⟩⟩⟩
theorem tO_e {x : Ex} {Q : VK} (h : tO F Γ (.e x) σ H Q) : tE F Γ x σ H Q := by
  obtain ⟨HF, η, d, η', S, e, k⟩ := h
  rw [evO] at e
  exact ⟨HF, η, d, η', S, e, fun v H' HF' S' s r => k v H' HF' S' s r⟩
theorem tO_mono {a : Op} {Q Q' : VK} (h : tO F Γ a σ H Q) (k : ∀ v H', Q v H' → Q' v H') : tO F Γ a σ H Q' := by
  obtain ⟨HF, η, d, η', S, e, f⟩ := h
  exact ⟨HF, η, d, η', S, e, fun v H' HF' S' s r => k _ _ (f v H' HF' S' s r)⟩
theorem tOs_mono {a : Ops} {Q Q' : List V → Hp → Prop} (h : tOs F Γ a σ H Q) (k : ∀ v H', Q v H' → Q' v H') : tOs F Γ a σ H Q' := by
  obtain ⟨HF, η, d, η', S, e, f⟩ := h
  exact ⟨HF, η, d, η', S, e, fun v H' HF' S' s r => k _ _ (f v H' HF' S' s r)⟩
theorem tE_one {p : Pr} {a : Op} {Q : VK} (h : tE F Γ (.pr p (.cons a .nil)) σ H Q) : tO F Γ a σ H fun x H1 => rV F.W p [x] H1 Q :=
  tO_mono (tOs_cons (tE_many h)) fun _ _ z => tOs_nil z
theorem tE_two {p : Pr} {a b : Op} {Q : VK} (h : tE F Γ (.pr p (.cons a (.cons b .nil))) σ H Q) : tO F Γ a σ H fun x H1 => tO F Γ b σ H1 fun y H2 => rV F.W p [x, y] H2 Q :=
  tO_mono (tOs_cons (tE_many h)) fun _ _ z => tO_mono (tOs_cons z) fun _ _ z => tOs_nil z
theorem tF_one {p : Pr} {a : Op} {Q : VK} (h : tF F Γ (.pr p (.cons a .nil)) σ H Q) : tO F Γ a σ H fun x H1 => rN F.W p [x] H1 Q :=
  tO_mono (tOs_cons (tF_many h)) fun _ _ z => tOs_nil z
theorem tF_two {p : Pr} {a b : Op} {Q : VK} (h : tF F Γ (.pr p (.cons a (.cons b .nil))) σ H Q) : tO F Γ a σ H fun x H1 => tO F Γ b σ H1 fun y H2 => rN F.W p [x, y] H2 Q :=
  tO_mono (tOs_cons (tF_many h)) fun _ _ z => tO_mono (tOs_cons z) fun _ _ z => tOs_nil z
end

/-! ## what stands in the heap reads as the data -/
section
variable {X : Cx} {pins : List (Addr × Obj)} {σ : L2.St} {H : Hp} {s : Shared} {W : Wd}
mutual
theorem Rep.reads (hK : W.K = X.K) (I : Inv X pins σ H s) : ∀ {d : Dv} {x : V} {u : Value}, Rep W H x d → d.plain = true → RelV x u → ∃ as, Reads s.heap u d.toP as
  | _, _, _, .non, _, r => by
    cases r
    exact ⟨_, .none⟩
  | _, _, _, .bl b, _, r => by
    cases r
    exact ⟨_, .bool b⟩
  | _, _, _, .int i, _, r => by
    obtain ⟨t, rfl⟩ := r
    exact ⟨_, .int i t⟩
  | _, _, _, .str i, _, r => by
    obtain ⟨t, rfl⟩ := r
    exact ⟨_, .str i t⟩
  | _, _, _, .tup h rs, hp, r => by
    cases r
    rw [hK] at h
    obtain ⟨its, rv, ⟨o, ho, hc, n, hd⟩, _⟩ := I.tuple h
    obtain ⟨as, q⟩ := Reps.reads hK I rs (by simpa only [Dv.plain] using hp) rv
    exact ⟨_, .tuple ho hc hd q⟩
  | _, _, _, .lst h rs, hp, r => by
    cases r
    obtain ⟨_, its, n, rv, _, e⟩ := I.lstM h
    obtain ⟨as, q⟩ := Reps.reads hK I rs (by simpa only [Dv.plain] using hp) rv
    exact ⟨_, .list e rfl rfl q⟩
  | _, _, _, .dct _ _ _, hp, _ => nomatch hp
  | _, _, _, .scr _, hp, _ => nomatch hp
  | _, _, _, .exc _ _ _ _ _, hp, _ => nomatch hp
theorem Reps.reads (hK : W.K = X.K) (I : Inv X pins σ H s) : ∀ {ds : List Dv} {xs : List V} {us : List Value}, Reps W H xs ds → Dv.plains ds = true → Vals xs us → ∃ as, ReadsAll s.heap us (Dv.toPs ds) as
  | _, _, _, .nil, _, .nil => ⟨_, .nil⟩
  | _, _, _, .cons h r, hp, .cons a b => by
    simp only [Dv.plains, Bool.and_eq_true] at hp
    obtain ⟨as, q⟩ := Rep.reads hK I h hp.1 a
    obtain ⟨bs, q2⟩ := Reps.reads hK I r hp.2 b
    exact ⟨_, .cons q q2⟩
end
end
end CF

set_option Elab.async false
set_option linter.all false
set_option maxRecDepth 100000
namespace CF
open PySem PySem.Spec PyProof.Rows L2

section
variable {W : Wd} {HF H : Hp} {v w : V} {d e : Dv}
theorem RepL.int_of {i : Int} (h : RepL W HF H v (.int i)) : v = .int i := by
  rcases h with h | ⟨_, _, _, _, e, _⟩
  · cases h
    rfl
  · cases e
theorem RepL.str_of {i : Str} (h : RepL W HF H v (.str i)) : v = .str i := by
  rcases h with h | ⟨_, _, _, _, e, _⟩
  · cases h
    rfl
  · cases e
theorem RepL.bl_of {i : Bool} (h : RepL W HF H v (.bl i)) : v = .bl i := by
  rcases h with h | ⟨_, _, _, _, e, _⟩
  · cases h
    rfl
  · cases e
theorem RepL.lst_of {xs : List Dv} (h : RepL W HF H v (.lst xs)) (s : Same HF H) : ∃ p vs, v = .ref p ∧ H p = some (.lst vs) ∧ Reps W HF vs xs := by
  rcases h with h | ⟨p, vs, ys, rfl, e, h, r⟩
  · cases h with
    | lst h r => exact ⟨_, _, rfl, s _ _ h, r⟩
  · cases e
    exact ⟨p, vs, rfl, h, r⟩
theorem RepL.tup_of {xs : List Dv} (h : RepL W HF H v (.tup xs)) (s : Same HF H) : ∃ p vs, v = .ref p ∧ SqT W.K H p vs ∧ Reps W HF vs xs ∧ SqT W.K HF p vs := by
  rcases h with h | ⟨_, _, _, _, e, _⟩
  · cases h with
    | tup h r => exact ⟨_, _, rfl, Same.sqT s h, r, h⟩
  · cases e
theorem RepL.scr_of {ns : List Int} (h : RepL W HF H v (.scr ns)) (s : Same HF H) : ∃ p, v = .ref p ∧ SqL W.K H p (ns.map V.int) := by
  rcases h with h | ⟨_, _, _, _, e, _⟩
  · cases h with
    | scr h => exact ⟨_, rfl, s.seq h⟩
  · cases e
theorem RepLs.one {xs : List V} {ds : List Dv} {d : Dv} (h : RepLs W HF H xs [d]) : ∃ v, xs = [v] ∧ RepL W HF H v d := by
  match xs, h with
  | [v], h => exact ⟨v, rfl, h.1⟩
theorem RepLs.len : ∀ {xs : List V} {ds : List Dv}, RepLs W HF H xs ds → xs.length = ds.length
  | [], [], _ => rfl
  | _ :: _, _ :: _, h => congrArg (· + 1) (RepLs.len h.2)
  | [], _ :: _, h => h.elim
  | _ :: _, [], h => h.elim
theorem out_v {Q : VK} (o : Out W HF H d Q) (r : Rep W HF v d) : Q v H := o.1 v r
theorem out_t {Q : VK} {xs : List Dv} {vs : List V} {q : Addr} (o : Out W HF H (.tup xs) Q) (h : H q = none) (r : Reps W HF vs xs) : Q (.ref q) (upd H q (.tup vs)) := o.2.1 q vs xs rfl h r
theorem out_l {Q : VK} {xs : List Dv} {vs : List V} {q : Addr} (o : Out W HF H (.lst xs) Q) (h : H q = none) (r : Reps W HF vs xs) : Q (.ref q) (upd H q (.lst vs)) := o.2.2 q vs xs rfl h r
end
theorem short_ok {n : Nat} (h : short n = true) : n ≤ sizeLine := by
  unfold short at h
  have := of_decide_eq_true h
  rw [sizeLine_eq]
  exact this

theorem rV_one {W : Wd} {p : Pr} {x : V} {H : Hp} {Q : VK} (h : rV W p [x] H Q) : ∃ HF a d, Same HF H ∧ RepL W HF H x a ∧ prD p [a] = some d ∧ Out W HF H d Q := by
  obtain ⟨HF, ds, d, s, r, e, o⟩ := h
  match ds, r with
  | [a], r => exact ⟨HF, a, d, s, r.1, e, o⟩
theorem rV_two {W : Wd} {p : Pr} {x y : V} {H : Hp} {Q : VK} (h : rV W p [x, y] H Q) : ∃ HF a b d, Same HF H ∧ RepL W HF H x a ∧ RepL W HF H y b ∧ prD p [a, b] = some d ∧ Out W HF H d Q := by
  obtain ⟨HF, ds, d, s, r, e, o⟩ := h
  match ds, r with
  | [a, b], r => exact ⟨HF, a, b, d, s, r.1, r.2.1, e, o⟩
theorem rN_one {W : Wd} {p : Pr} {x : V} {H : Hp} {Q : VK} (h : rN W p [x] H Q) : ∃ HF a ys, Same HF H ∧ RepL W HF H x a ∧ prD p [a] = some (.lst ys) ∧ ∀ q vs, H q = none → Reps W HF vs ys → Q (.ref q) (upd H q (.lst vs)) := by
  obtain ⟨HF, ds, d, s, r, e, o⟩ := h
  match ds, r with
  | [a], r => exact ⟨HF, a, d, s, r.1, e, o⟩
theorem rN_two {W : Wd} {p : Pr} {x y : V} {H : Hp} {Q : VK} (h : rN W p [x, y] H Q) : ∃ HF a b ys, Same HF H ∧ RepL W HF H x a ∧ RepL W HF H y b ∧ prD p [a, b] = some (.lst ys) ∧ ∀ q vs, H q = none → Reps W HF vs ys → Q (.ref q) (upd H q (.lst vs)) := by
  obtain ⟨HF, ds, d, s, r, e, o⟩ := h
  match ds, r with
  | [a, b], r => exact ⟨HF, a, b, d, s, r.1, r.2.1, e, o⟩
theorem if_some {α : Type} {c : Prop} [Decidable c] {x : α} {y : α} (h : (if c then some x else none) = some y) : c ∧ x = y := by
  by_cases k : c
  · rw [if_pos k] at h
    exact ⟨k, Option.some.inj h⟩
  · rw [if_neg k] at h
    cases h

section
variable {X : Cx} {W : Wd}
/-! ### two-place operators -/
theorem cat_fresh : OpR X (binaryOp .Add) (fun x y H Q => rN W (.bin .Add) [x, y] H Q) := by
  intro pins s σ H x y v u Q I rx ry h
  obtain ⟨HF, a, b, ys, sub, ra, rb, e, o⟩ := rN_two h
  cases a <;> cases b <;> try cases e
  · obtain ⟨e1, e2⟩ := if_some (show (if _ then some (Dv.str _) else none) = some (Dv.lst ys) from e)
    cases e2
  · obtain ⟨e1, e2⟩ := if_some (show (if _ then some (Dv.tup _) else none) = some (Dv.lst ys) from e)
    cases e2
  · rename_i as bs
    obtain ⟨e1, e2⟩ := if_some (show (if short (as.length + bs.length) = true then some (Dv.lst (as ++ bs)) else none) = some (Dv.lst ys) from e)
    cases e2
    obtain ⟨p, vs, rfl, hp, r1⟩ := ra.lst_of sub
    obtain ⟨p', vs', rfl, hp', r2⟩ := rb.lst_of sub
    exact op_cat pins s σ H _ _ v u Q I rx ry ⟨p, p', vs, vs', rfl, rfl, hp, hp', by rw [r1.length, r2.length]; exact short_ok e1, fun q hq => o q _ hq (r1.append r2)⟩
theorem bin_add (hK : W.K = X.K) : OpR X (binaryOp .Add) (fun x y H Q => rV W (.bin .Add) [x, y] H Q) := by
  intro pins s σ H x y v u Q I rx ry h
  obtain ⟨HF, a, b, d, sub, ra, rb, e, o⟩ := rV_two h
  cases a <;> cases b <;> try cases e
  · cases ra.int_of
    cases rb.int_of
    exact op_add pins s σ H _ _ v u Q I rx ry ⟨_, _, rfl, rfl, out_v o (.int _)⟩
  · rename_i as bs
    obtain ⟨e1, e2⟩ := if_some (show (if short (as.length + bs.length) = true then some (Dv.str (as ++ bs)) else none) = some d from e)
    cases e2
    cases ra.str_of
    cases rb.str_of
    exact op_add_str pins s σ H _ _ v u Q I rx ry ⟨_, _, rfl, rfl, short_ok e1, out_v o (.str _)⟩
  · rename_i as bs
    obtain ⟨e1, e2⟩ := if_some (show (if short (as.length + bs.length) = true then some (Dv.tup (as ++ bs)) else none) = some d from e)
    cases e2
    obtain ⟨p, vs, rfl, hp, r1, k1⟩ := ra.tup_of sub
    obtain ⟨p', vs', rfl, hp', r2, k2⟩ := rb.tup_of sub
    rw [hK] at hp hp'
    refine op_catA pins s σ H _ _ v u Q I rx ry ⟨p, p', vs, vs', rfl, rfl, hp, hp', by rw [r1.length, r2.length]; exact short_ok e1, fun z => ?_, fun _ z => ?_, fun _ _ q hq => out_t o hq (r1.append r2)⟩
    · subst z
      cases r1
      exact out_v o (.tup k2 r2)
    · subst z
      cases r2
      rw [List.append_nil] at o
      exact out_v o (.tup k1 r1)
  · rename_i as bs
    obtain ⟨e1, e2⟩ := if_some (show (if short (as.length + bs.length) = true then some (Dv.lst (as ++ bs)) else none) = some d from e)
    cases e2
    obtain ⟨p, vs, rfl, hp, r1⟩ := ra.lst_of sub
    obtain ⟨p', vs', rfl, hp', r2⟩ := rb.lst_of sub
    exact op_cat pins s σ H _ _ v u Q I rx ry ⟨p, p', vs, vs', rfl, rfl, hp, hp', by rw [r1.length, r2.length]; exact short_ok e1, fun q hq => out_l o hq (r1.append r2)⟩
theorem bin_sub : OpR X (binaryOp .Sub) (fun x y H Q => rV W (.bin .Sub) [x, y] H Q) := by
  intro pins s σ H x y v u Q I rx ry h
  obtain ⟨HF, a, b, d, sub, ra, rb, e, o⟩ := rV_two h
  cases a <;> cases b <;> try cases e
  cases ra.int_of
  cases rb.int_of
  exact op_sub pins s σ H _ _ v u Q I rx ry ⟨_, _, rfl, rfl, out_v o (.int _)⟩
theorem mul_fresh : OpR X (binaryOp .Mult) (fun x y H Q => rN W (.bin .Mult) [x, y] H Q) := by
  intro pins s σ H x y v u Q I rx ry h
  obtain ⟨HF, a, b, ys, sub, ra, rb, e, o⟩ := rN_two h
  cases a <;> cases b <;> try cases e
  · obtain ⟨e1, e2⟩ := if_some (show (if _ then some (Dv.int _) else none) = some (Dv.lst ys) from e)
    cases e2
  · obtain ⟨e1, e2⟩ := if_some (show (if _ then some (Dv.tup _) else none) = some (Dv.lst ys) from e)
    cases e2
  · rename_i xs k
    obtain ⟨e1, e2⟩ := if_some (show (if (decide (0 ≤ k) && decide (k ≤ 16777216) && short (xs.length * k.toNat)) = true then some (Dv.lst (List.replicate k.toNat xs).flatten) else none) = some (.lst ys) from e)
    cases e2
    simp only [Bool.and_eq_true, decide_eq_true_eq] at e1
    obtain ⟨p, vs, rfl, hp, r1⟩ := ra.lst_of sub
    cases rb.int_of
    exact op_rep pins s σ H _ _ v u Q I rx ry ⟨p, k, vs, rfl, rfl, hp, by omega, by omega, by rw [r1.length]; exact short_ok e1.2, fun q hq => o q _ hq (r1.rep _)⟩
theorem bin_mul (hK : W.K = X.K) : OpR X (binaryOp .Mult) (fun x y H Q => rV W (.bin .Mult) [x, y] H Q) := by
  intro pins s σ H x y v u Q I rx ry h
  obtain ⟨HF, a, b, d, sub, ra, rb, e, o⟩ := rV_two h
  cases a <;> cases b <;> try cases e
  · rename_i i j
    obtain ⟨e1, e2⟩ := if_some (show (if mulOk i j = true then some (Dv.int (i * j)) else none) = some d from e)
    cases e2
    cases ra.int_of
    cases rb.int_of
    exact op_mulW pins s σ H _ _ v u Q I rx ry ⟨_, _, rfl, rfl, (of_decide_eq_true (show decide (i.natAbs.log2 + j.natAbs.log2 < 1000000) = true from e1) : i.natAbs.log2 + j.natAbs.log2 < 1000000), out_v o (.int _)⟩
  · rename_i xs k
    obtain ⟨e1, e2⟩ := if_some (show (if (decide (2 ≤ k) && decide (k ≤ 1000) && decide (xs.length ≤ 1000) && decide (0 < xs.length)) = true then some (Dv.tup (List.replicate k.toNat xs).flatten) else none) = some d from e)
    cases e2
    simp only [Bool.and_eq_true, decide_eq_true_eq] at e1
    obtain ⟨p, vs, rfl, hp, r1, _⟩ := ra.tup_of sub
    cases rb.int_of
    rw [hK] at hp
    have hl := r1.length
    exact op_repT pins s σ H _ _ v u Q I rx ry ⟨p, k, vs, rfl, rfl, hp, fun z => by rw [z] at hl; simp at hl; omega, by omega, by omega, by omega, fun q hq => out_t o hq (r1.rep _)⟩
  · rename_i xs k
    obtain ⟨e1, e2⟩ := if_some (show (if (decide (0 ≤ k) && decide (k ≤ 16777216) && short (xs.length * k.toNat)) = true then some (Dv.lst (List.replicate k.toNat xs).flatten) else none) = some d from e)
    cases e2
    simp only [Bool.and_eq_true, decide_eq_true_eq] at e1
    obtain ⟨p, vs, rfl, hp, r1⟩ := ra.lst_of sub
    cases rb.int_of
    exact op_rep pins s σ H _ _ v u Q I rx ry ⟨p, k, vs, rfl, rfl, hp, by omega, by omega, by rw [r1.length]; exact short_ok e1.2, fun q hq => out_l o hq (r1.rep _)⟩
theorem bin_mod : OpR X (binaryOp .Mod) (fun x y H Q => rV W (.bin .Mod) [x, y] H Q) := by
  intro pins s σ H x y v u Q I rx ry h
  obtain ⟨HF, a, b, d, sub, ra, rb, e, o⟩ := rV_two h
  cases a <;> cases b <;> try cases e
  rename_i i j
  obtain ⟨e1, e2⟩ := if_some (show (if 0 < j then some (Dv.int (i % j)) else none) = some d from e)
  cases e2
  cases ra.int_of
  cases rb.int_of
  exact op_mod pins s σ H _ _ v u Q I rx ry ⟨_, _, rfl, rfl, e1, out_v o (.int _)⟩
theorem bin_fdiv : OpR X (binaryOp .FloorDiv) (fun x y H Q => rV W (.bin .FloorDiv) [x, y] H Q) := by
  intro pins s σ H x y v u Q I rx ry h
  obtain ⟨HF, a, b, d, sub, ra, rb, e, o⟩ := rV_two h
  cases a <;> cases b <;> try cases e
  rename_i i j
  obtain ⟨e1, e2⟩ := if_some (show (if 0 < j ∧ j.natAbs.log2 < 9000 then some (Dv.int (i / j)) else none) = some d from e)
  cases e2
  cases ra.int_of
  cases rb.int_of
  exact op_fdivW pins s σ H _ _ v u Q I rx ry ⟨_, _, rfl, rfl, e1, out_v o (.int _)⟩
theorem bin_pow : OpR X (binaryOp .Pow) (fun x y H Q => rV W (.bin .Pow) [x, y] H Q) := by
  intro pins s σ H x y v u Q I rx ry h
  obtain ⟨HF, a, b, d, sub, ra, rb, e, o⟩ := rV_two h
  cases a <;> cases b <;> try cases e
  rename_i i j
  obtain ⟨e1, e2⟩ := if_some (show (if 0 ≤ j ∧ (i.natAbs.log2 + 1) * j.toNat ≤ 2 ^ 27 then some (Dv.int (i ^ j.toNat)) else none) = some d from e)
  cases e2
  cases ra.int_of
  cases rb.int_of
  obtain ⟨t, rfl⟩ := rx
  obtain ⟨t', rfl⟩ := ry
  refine PyProof.Rows.pow_int e1.1 ?_ ⟨.int _, H, I.tok _, ⟨_, rfl⟩, out_v o (.int _)⟩
  have b : Builtin.Int.intBits i ≤ i.natAbs.log2 + 1 := by
    unfold Builtin.Int.intBits
    split <;> omega
  have e3 : ((j.toNat : Nat) : Int) = j := Int.toNat_of_nonneg e1.1
  have m : Builtin.Int.intBits i * j.toNat ≤ 2 ^ 27 := Nat.le_trans (Nat.mul_le_mul_right _ b) e1.2
  rw [← e3]
  exact_mod_cast m
theorem bin_ok (hK : W.K = X.K) : ∀ o : Operator, OpR X (binaryOp o) (fun x y H Q => rV W (.bin o) [x, y] H Q)
  | .Add => bin_add hK
  | .Sub => bin_sub
  | .Mult => bin_mul hK
  | .Mod => bin_mod
  | .FloorDiv => bin_fdiv
  | .Pow => bin_pow
  | .MatMult => fun _ _ _ _ _ _ _ _ _ _ _ _ h => by obtain ⟨_, _, _, _, _, _, _, e, _⟩ := rV_two h; cases e
  | .Div => fun _ _ _ _ _ _ _ _ _ _ _ _ h => by obtain ⟨_, _, _, _, _, _, _, e, _⟩ := rV_two h; cases e
  | .LShift => fun _ _ _ _ _ _ _ _ _ _ _ _ h => by obtain ⟨_, _, _, _, _, _, _, e, _⟩ := rV_two h; cases e
  | .RShift => fun _ _ _ _ _ _ _ _ _ _ _ _ h => by obtain ⟨_, _, _, _, _, _, _, e, _⟩ := rV_two h; cases e
  | .BitOr => fun _ _ _ _ _ _ _ _ _ _ _ _ h => by obtain ⟨_, _, _, _, _, _, _, e, _⟩ := rV_two h; cases e
  | .BitXor => fun _ _ _ _ _ _ _ _ _ _ _ _ h => by obtain ⟨_, _, _, _, _, _, _, e, _⟩ := rV_two h; cases e
  | .BitAnd => fun _ _ _ _ _ _ _ _ _ _ _ _ h => by obtain ⟨_, _, _, _, _, _, _, e, _⟩ := rV_two h; cases e

/-! ### comparisons -/
theorem orD_some {f : Int → Int → Bool} {g : Option Bool} {x y : Dv} {r : Bool} (e : orD f g x y = some r) : (∃ i j, x = .int i ∧ y = .int j ∧ f i j = r) ∨ g = some r := by
  unfold orD at e
  split at e
  · exact .inl ⟨_, _, rfl, rfl, Option.some.inj e⟩
  · exact .inr e
theorem ltD_some {x y : Dv} {r : Bool} (e : ltD x y = some r) : x.plain = true ∧ y.plain = true ∧ PySem.W.alike x.toP y.toP = true ∧ min x.depth y.depth ≤ 100 ∧ x.toP ≠ .none ∧ r = PySem.W.dataLt x.toP y.toP := by
  unfold ltD at e
  obtain ⟨h, e2⟩ := if_some e
  simp only [Bool.and_eq_true, decide_eq_true_eq] at h
  obtain ⟨⟨⟨⟨h1, h2⟩, h3⟩, h4⟩, h5⟩ := h
  refine ⟨h1, h2, h3, h4, ?_, e2.symm⟩
  cases x with
  | non => cases h5
  | exc _ _ => cases h1
  | _ => exact fun z => by simp [Dv.toP] at z
theorem eqD_some {x y : Dv} {r : Bool} (e : eqD x y = some r) : x.plain = true ∧ y.plain = true ∧ min x.depth y.depth ≤ 100 ∧ r = PyData.eqv x.toP y.toP := by
  unfold eqD at e
  obtain ⟨h, e2⟩ := if_some e
  simp only [Bool.and_eq_true, decide_eq_true_eq] at h
  obtain ⟨⟨h1, h2⟩, h3⟩ := h
  exact ⟨h1, h2, h3, by rw [Dv.eqv_beq _ _ h1 h2]; exact e2.symm⟩
theorem inD_some {x : Dv} {ys : List Dv} {r : Bool} (e : inD x ys = some r) : x.plain = true ∧ Dv.plains ys = true ∧ min (Dv.depths ys) x.depth ≤ 100 ∧ r = (Dv.toPs ys).any fun y => PyData.eqv y x.toP := by
  unfold inD at e
  obtain ⟨h, e2⟩ := if_some e
  simp only [Bool.and_eq_true, decide_eq_true_eq] at h
  obtain ⟨⟨h1, h2⟩, h3⟩ := h
  exact ⟨h1, h2, h3, by rw [Dv.any_beq _ _ h2 h1]; exact e2.symm⟩
theorem cmp_ok (hK : W.K = X.K) (hu : X.A.units + 200 < cLine) : ∀ o : CmpOp, OpR X (compareOp o) (fun x y H Q => rV W (.cmp o) [x, y] H Q) := by
  intro o pins s σ H x y v u Q I rx ry h
  obtain ⟨HF, a, b, d, sub, ra, rb, e, out⟩ := rV_two h
  obtain ⟨r, e1, e2⟩ := Option.map_eq_some_iff.mp (show (cmpD o a b).map Dv.bl = some d from e)
  subst e2
  replace e := e1
  have fin : EP X pins σ Q (.bool r) s := ⟨.bl r, H, I, rfl, out_v out (.bl r)⟩
  have pa := ra.rep sub
  have pb := rb.rep sub
  have twoI : ∀ {i j : Int}, a = .int i → b = .int j → ∃ t t', v = .int i t ∧ u = .int j t' := fun {i j} e1 e2 => by
    subst e1 e2
    cases ra.int_of
    cases rb.int_of
    obtain ⟨t, rfl⟩ := rx
    obtain ⟨t', rfl⟩ := ry
    exact ⟨t, t', rfl, rfl⟩
  cases o with
  | Eq =>
    obtain ⟨h1, h2, h3, rfl⟩ := eqD_some e
    obtain ⟨as, q1⟩ := pa.reads hK I h1 rx
    obtain ⟨bs, q2⟩ := pb.reads hK I h2 ry
    exact PySem.SeqAt.eq_plain q1 q2 (Dv.toP_plain _ h1) (Dv.toP_plain _ h2) (by rw [Dv.toP_depth _ h1, Dv.toP_depth _ h2]; omega) fin
  | NotEq =>
    obtain ⟨r', e', rfl⟩ := Option.map_eq_some_iff.mp e
    replace e := e'
    obtain ⟨h1, h2, h3, rfl⟩ := eqD_some e
    obtain ⟨as, q1⟩ := pa.reads hK I h1 rx
    obtain ⟨bs, q2⟩ := pb.reads hK I h2 ry
    exact PySem.SeqAt.ne_plain q1 q2 (Dv.toP_plain _ h1) (Dv.toP_plain _ h2) (by rw [Dv.toP_depth _ h1, Dv.toP_depth _ h2]; omega) fin
  | Lt =>
    rcases orD_some e with ⟨i, j, rfl, rfl, rfl⟩ | e
    · obtain ⟨t, t', rfl, rfl⟩ := twoI rfl rfl
      exact lt_int fin
    · obtain ⟨h1, h2, h3, h4, h5, rfl⟩ := ltD_some e
      obtain ⟨as, q1⟩ := pa.reads hK I h1 rx
      obtain ⟨bs, q2⟩ := pb.reads hK I h2 ry
      exact PySem.W.lt_data q1 q2 h3 h5 (by rw [Dv.toP_depth _ h1, Dv.toP_depth _ h2]; omega) fin
  | Gt =>
    rcases orD_some e with ⟨i, j, rfl, rfl, rfl⟩ | e
    · obtain ⟨t, t', rfl, rfl⟩ := twoI rfl rfl
      exact gt_int fin
    · obtain ⟨h1, h2, h3, h4, h5, rfl⟩ := ltD_some e
      obtain ⟨as, q1⟩ := pa.reads hK I h2 rx
      obtain ⟨bs, q2⟩ := pb.reads hK I h1 ry
      have h3' := (PySem.W.alike_comm _ _).symm.trans h3
      exact PySem.W.gt_data q1 q2 h3' (PySem.W.ne_none_both h3 h5) (by rw [Dv.toP_depth _ h1, Dv.toP_depth _ h2]; omega) fin
  | LtE =>
    rcases orD_some e with ⟨i, j, rfl, rfl, rfl⟩ | e
    · obtain ⟨t, t', rfl, rfl⟩ := twoI rfl rfl
      exact le_int fin
    · obtain ⟨r', e', rfl⟩ := Option.map_eq_some_iff.mp e
      replace e := e'
      obtain ⟨h1, h2, h3, h4, h5, rfl⟩ := ltD_some e
      obtain ⟨as, q1⟩ := pa.reads hK I h2 rx
      obtain ⟨bs, q2⟩ := pb.reads hK I h1 ry
      have h3' := (PySem.W.alike_comm _ _).symm.trans h3
      exact PySem.W.le_data q1 q2 h3' (PySem.W.ne_none_both h3 h5) (by rw [Dv.toP_depth _ h1, Dv.toP_depth _ h2]; omega) fin
  | GtE =>
    rcases orD_some e with ⟨i, j, rfl, rfl, rfl⟩ | e
    · obtain ⟨t, t', rfl, rfl⟩ := twoI rfl rfl
      exact ge_int fin
    · obtain ⟨r', e', rfl⟩ := Option.map_eq_some_iff.mp e
      replace e := e'
      obtain ⟨h1, h2, h3, h4, h5, rfl⟩ := ltD_some e
      obtain ⟨as, q1⟩ := pa.reads hK I h1 rx
      obtain ⟨bs, q2⟩ := pb.reads hK I h2 ry
      exact PySem.W.ge_data q1 q2 h3 h5 (by rw [Dv.toP_depth _ h1, Dv.toP_depth _ h2]; omega) fin
  | Is => cases e
  | IsNot => cases e
  | In => 
    have go : ∀ ys, b = .lst ys ∨ b = .tup ys → inD a ys = some r → wpAny (model X.prog X.w) X.A (compareOp .In v u) (EP X pins σ Q) X.xe s := fun ys hb e => by
      obtain ⟨h1, h2, h3, rfl⟩ := inD_some e
      obtain ⟨as, q1⟩ := pa.reads hK I h1 rx
      have hd : (Dv.toPs ys).length = (Dv.toPs ys).length := rfl
      rcases hb with rfl | rfl
      · obtain ⟨bs, q2⟩ := pb.reads hK I (show Dv.plain (.lst ys) = true from h2) ry
        exact PySem.SeqAt.in_list_data q2 q1 (Dv.toPs_plain _ h2) (Dv.toP_plain _ h1) (by rw [Dv.toPs_depth _ h2, Dv.toP_depth _ h1]; omega) fin
      · obtain ⟨bs, q2⟩ := pb.reads hK I (show Dv.plain (.tup ys) = true from h2) ry
        exact PySem.SeqAt.in_tuple_data q2 q1 (Dv.toPs_plain _ h2) (Dv.toP_plain _ h1) (by rw [Dv.toPs_depth _ h2, Dv.toP_depth _ h1]; omega) fin
    cases b with
    | lst ys => exact go ys (.inl rfl) e
    | tup ys => exact go ys (.inr rfl) e
    | _ => cases e
  | NotIn =>
    have go : ∀ ys, b = .lst ys ∨ b = .tup ys → (inD a ys).map (!·) = some r → wpAny (model X.prog X.w) X.A (compareOp .NotIn v u) (EP X pins σ Q) X.xe s := fun ys hb e => by
      obtain ⟨r', e', rfl⟩ := Option.map_eq_some_iff.mp e
      replace e := e'
      obtain ⟨h1, h2, h3, rfl⟩ := inD_some e
      obtain ⟨as, q1⟩ := pa.reads hK I h1 rx
      rcases hb with rfl | rfl
      · obtain ⟨bs, q2⟩ := pb.reads hK I (show Dv.plain (.lst ys) = true from h2) ry
        exact PySem.SeqAt.notIn_list_data q2 q1 (Dv.toPs_plain _ h2) (Dv.toP_plain _ h1) (by rw [Dv.toPs_depth _ h2, Dv.toP_depth _ h1]; omega) fin
      · obtain ⟨bs, q2⟩ := pb.reads hK I (show Dv.plain (.tup ys) = true from h2) ry
        exact PySem.SeqAt.notIn_tuple_data q2 q1 (Dv.toPs_plain _ h2) (Dv.toP_plain _ h1) (by rw [Dv.toPs_depth _ h2, Dv.toP_depth _ h1]; omega) fin
    cases b with
    | lst ys => exact go ys (.inl rfl) e
    | tup ys => exact go ys (.inr rfl) e
    | _ => cases e
end
end CF

set_option Elab.async false
set_option linter.all false
set_option maxRecDepth 100000
namespace CF
open PySem PySem.Spec PyProof.Rows L2

theorem intsOf_some : ∀ {xs : List Dv} {ns : List Int}, intsOf xs = some ns → xs = ns.map .int
  | [], ns, h => by cases h; rfl
  | .int i :: r, ns, h => by
    obtain ⟨m, e, rfl⟩ := Option.map_eq_some_iff.mp (show (intsOf r).map (i :: ·) = some ns from h)
    rw [intsOf_some e, List.map_cons]
theorem blsOf_some : ∀ {xs : List Dv} {ns : List Bool}, blsOf xs = some ns → xs = ns.map .bl
  | [], ns, h => by cases h; rfl
  | .bl i :: r, ns, h => by
    obtain ⟨m, e, rfl⟩ := Option.map_eq_some_iff.mp (show (blsOf r).map (i :: ·) = some ns from h)
    rw [blsOf_some e, List.map_cons]
theorem strsOf_some : ∀ {xs : List Dv} {ns : List Str}, strsOf xs = some ns → xs = ns.map .str
  | [], ns, h => by cases h; rfl
  | .str i :: r, ns, h => by
    obtain ⟨m, e, rfl⟩ := Option.map_eq_some_iff.mp (show (strsOf r).map (i :: ·) = some ns from h)
    rw [strsOf_some e, List.map_cons]
theorem Reps.bls {W : Wd} {H : Hp} : ∀ {vs : List V} {ns : List Bool}, Reps W H vs (ns.map Dv.bl) → vs = ns.map V.bl
  | [], [], _ => rfl
  | v :: vs, n :: ns, .cons h r => by
    cases h
    rw [List.map_cons, r.bls]
theorem Reps.strs {W : Wd} {H : Hp} : ∀ {vs : List V} {ns : List Str}, Reps W H vs (ns.map Dv.str) → vs = ns.map V.str
  | [], [], _ => rfl
  | v :: vs, n :: ns, .cons h r => by
    cases h
    rw [List.map_cons, r.strs]

section
variable {X : Cx} {W : Wd} {p : Pr} {xs : List V} {H : Hp} {Q : VK}
theorem one_of (h : rV W p xs H Q) (e : ∀ ds, prD p ds = prS p ds := by intro _; rfl) (h2 : ∀ x y, pr2 p x y = none := by intro _ _; rfl) (h3 : ∀ x y z, pr3 p x y z = none := by intro _ _ _; rfl) :
    ∃ HF x a d, xs = [x] ∧ Same HF H ∧ RepL W HF H x a ∧ pr1 p a = some d ∧ Out W HF H d Q := by
  obtain ⟨HF, ds, d, sub, rs, q, o⟩ := h
  rw [e] at q
  match ds, q with
  | [a], q =>
    obtain ⟨x, rfl, rx⟩ := rs.one (ds := [])
    exact ⟨HF, x, a, d, rfl, sub, rx, q, o⟩
  | [], q => cases q
  | [a, b], q =>
    rw [prS, h2] at q
    cases q
  | [a, b, c], q =>
    rw [prS, h3] at q
    cases q
  | _ :: _ :: _ :: _ :: _, q => cases q
theorem two_of (h : rV W p xs H Q) (e : ∀ ds, prD p ds = prS p ds := by intro _; rfl) (h2 : ∀ x, pr1 p x = none := by intro _; rfl) (h3 : ∀ x y z, pr3 p x y z = none := by intro _ _ _; rfl) :
    ∃ HF x y a b d, xs = [x, y] ∧ Same HF H ∧ RepL W HF H x a ∧ RepL W HF H y b ∧ pr2 p a b = some d ∧ Out W HF H d Q := by
  obtain ⟨HF, ds, d, sub, rs, q, o⟩ := h
  rw [e] at q
  match ds, q with
  | [a, b], q =>
    match xs, rs with
    | [x, y], rs => exact ⟨HF, x, y, a, b, d, rfl, sub, rs.1, rs.2.1, q, o⟩
  | [], q => cases q
  | [a], q =>
    rw [prS, h2] at q
    cases q
  | [a, b, c], q =>
    rw [prS, h3] at q
    cases q
  | _ :: _ :: _ :: _ :: _, q => cases q
theorem oneN_of (h : rN W p xs H Q) (e : ∀ ds, prD p ds = prS p ds := by intro _; rfl) (h2 : ∀ x y, pr2 p x y = none := by intro _ _; rfl) (h3 : ∀ x y z, pr3 p x y z = none := by intro _ _ _; rfl) :
    ∃ HF x a ys, xs = [x] ∧ Same HF H ∧ RepL W HF H x a ∧ pr1 p a = some (.lst ys) ∧ ∀ q vs, H q = none → Reps W HF vs ys → Q (.ref q) (upd H q (.lst vs)) := by
  obtain ⟨HF, ds, d, sub, rs, q, o⟩ := h
  rw [e] at q
  match ds, q with
  | [a], q =>
    obtain ⟨x, rfl, rx⟩ := rs.one (ds := [])
    exact ⟨HF, x, a, d, rfl, sub, rx, q, o⟩
  | [], q => cases q
  | [a, b], q =>
    rw [prS, h2] at q
    cases q
  | [a, b, c], q =>
    rw [prS, h3] at q
    cases q
  | _ :: _ :: _ :: _ :: _, q => cases q
end
section
variable {X : Cx} {W : Wd}
theorem neg_ok : UnR X (unaryOp .USub) (fun x H Q => rV W .neg [x] H Q) := by
  intro pins s σ H x v Q I rx h
  obtain ⟨HF, _, a, d, ex, sub, ra, e, o⟩ := one_of h
  cases ex
  cases a <;> try cases e
  cases ra.int_of
  exact un_neg pins s σ H _ v Q I rx ⟨_, rfl, out_v o (.int _)⟩
theorem len_ok (hK : W.K = X.K) : CallR X (.builtin "len") (fun xs H Q => rV W .len xs H Q) := by
  intro pins s σ H xs us Q I r h
  obtain ⟨HF, x, a, d, rfl, sub, rx, e, o⟩ := one_of h
  cases a <;> try cases e
  · rename_i z
    obtain ⟨e1, e2⟩ := if_some (show (if short z.length = true then some (Dv.int z.length) else none) = some d from e)
    cases e2
    cases rx.str_of
    exact call_len_str pins s σ H _ us Q I r ⟨z, rfl, short_ok e1, out_v o (.int _)⟩
  · obtain ⟨p, vs, rfl, hp, r1, _⟩ := rx.tup_of sub
    rw [hK] at hp
    exact call_len_seq pins s σ H _ us Q I r ⟨p, vs, rfl, .inr hp, by rw [r1.length]; exact out_v o (.int _)⟩
  · obtain ⟨p, vs, rfl, hp, r1⟩ := rx.lst_of sub
    exact call_len_seq pins s σ H _ us Q I r ⟨p, vs, rfl, .inl (SqL.of hp), by rw [r1.length]; exact out_v o (.int _)⟩
  · obtain ⟨p, rfl, hp⟩ := rx.scr_of sub
    rw [hK] at hp
    exact call_len_seq pins s σ H _ us Q I r ⟨p, _, rfl, .inl hp, by rw [List.length_map]; exact out_v o (.int _)⟩
theorem int_ok : CallR X (.type "int") (fun xs H Q => rV W .int xs H Q) := by
  intro pins s σ H xs us Q I r h
  obtain ⟨HF, x, a, d, rfl, sub, rx, e, o⟩ := one_of h
  cases a <;> try cases e
  · cases rx.bl_of
    exact call_int1 pins s σ H _ us Q I r (.inr ⟨_, rfl, out_v o (.int _)⟩)
  · cases rx.int_of
    exact call_int1 pins s σ H _ us Q I r (.inl ⟨_, rfl, out_v o (.int _)⟩)
theorem abs_ok : CallR X (.builtin "abs") (fun xs H Q => rV W .abs xs H Q) := by
  intro pins s σ H xs us Q I r h
  obtain ⟨HF, x, a, d, rfl, sub, rx, e, o⟩ := one_of h
  cases a <;> try cases e
  rename_i i
  cases rx.int_of
  have n : (if i < 0 then -i else i) = (i.natAbs : Int) := by split <;> omega
  exact call_abs pins s σ H _ us Q I r ⟨i, rfl, by rw [n]; exact out_v o (.int _)⟩
theorem max2_ok (hc : X.calm = true) : CallR X (.builtin "max") (fun xs H Q => rV W .max2 xs H Q) := by
  intro pins s σ H xs us Q I r h
  obtain ⟨HF, x, y, a, b, d, rfl, sub, rx, ry, e, o⟩ := two_of h
  cases a <;> cases b <;> try cases e
  rename_i i j
  cases rx.int_of
  cases ry.int_of
  have n : (if j > i then j else i) = max i j := by split <;> omega
  exact call_max2 hc pins s σ H _ us Q I r ⟨i, j, rfl, by rw [n]; exact out_v o (.int _)⟩
theorem min2_ok (hc : X.calm = true) : CallR X (.builtin "min") (fun xs H Q => rV W .min2 xs H Q) := by
  intro pins s σ H xs us Q I r h
  obtain ⟨HF, x, y, a, b, d, rfl, sub, rx, ry, e, o⟩ := two_of h
  cases a <;> cases b <;> try cases e
  rename_i i j
  cases rx.int_of
  cases ry.int_of
  have n : (if j < i then j else i) = min i j := by split <;> omega
  exact call_min2 hc pins s σ H _ us Q I r ⟨i, j, rfl, by rw [n]; exact out_v o (.int _)⟩
theorem lstOf_some {x : Dv} {xs : List Dv} (h : lstOf x = some xs) : x = .lst xs := by
  cases x <;> cases h
  rfl
theorem sum_ok (hc : X.calm = true) : CallR X (.builtin "sum") (fun xs H Q => rV W .sum xs H Q) := by
  intro pins s σ H xs us Q I r h
  obtain ⟨HF, x, a, d, rfl, sub, rx, e, o⟩ := one_of h
  obtain ⟨ys, e1, e2⟩ := Option.bind_eq_some_iff.mp (show (lstOf a).bind _ = some d from e)
  obtain ⟨ns, e3, rfl⟩ := Option.map_eq_some_iff.mp e2
  obtain rfl := lstOf_some e1
  obtain rfl := intsOf_some e3
  obtain ⟨p, vs, rfl, hp, r1⟩ := rx.lst_of sub
  rw [r1.ints] at hp
  exact cr_sum hc pins s σ H _ us Q I r ⟨p, ns, rfl, SqL.of hp, out_v o (.int _)⟩
theorem all_ok (hc : X.calm = true) : CallR X (.builtin "all") (fun xs H Q => rV W .all xs H Q) := by
  intro pins s σ H xs us Q I r h
  obtain ⟨HF, x, a, d, rfl, sub, rx, e, o⟩ := one_of h
  obtain ⟨ys, e1, e2⟩ := Option.bind_eq_some_iff.mp (show (lstOf a).bind _ = some d from e)
  obtain ⟨ns, e3, rfl⟩ := Option.map_eq_some_iff.mp e2
  obtain rfl := lstOf_some e1
  obtain rfl := blsOf_some e3
  obtain ⟨p, vs, rfl, hp, r1⟩ := rx.lst_of sub
  rw [r1.bls] at hp
  exact cr_all hc pins s σ H _ us Q I r ⟨p, ns, rfl, SqL.of hp, out_v o (.bl _)⟩
theorem any_ok (hc : X.calm = true) : CallR X (.builtin "any") (fun xs H Q => rV W .any xs H Q) := by
  intro pins s σ H xs us Q I r h
  obtain ⟨HF, x, a, d, rfl, sub, rx, e, o⟩ := one_of h
  obtain ⟨ys, e1, e2⟩ := Option.bind_eq_some_iff.mp (show (lstOf a).bind _ = some d from e)
  obtain ⟨ns, e3, rfl⟩ := Option.map_eq_some_iff.mp e2
  obtain rfl := lstOf_some e1
  obtain rfl := blsOf_some e3
  obtain ⟨p, vs, rfl, hp, r1⟩ := rx.lst_of sub
  rw [r1.bls] at hp
  exact cr_any hc pins s σ H _ us Q I r ⟨p, ns, rfl, SqL.of hp, out_v o (.bl _)⟩
theorem seqOf_some {x : Dv} {xs : List Dv} (h : seqOf x = some xs) : x = .lst xs ∨ x = .tup xs := by
  cases x <;> cases h
  · exact .inr rfl
  · exact .inl rfl
theorem list_fresh (hK : W.K = X.K) : CallR X (.type "list") (fun xs H Q => rN W .list xs H Q) := by
  intro pins s σ H xs us Q I r h
  obtain ⟨HF, x, a, ys, rfl, sub, rx, e, o⟩ := oneN_of h
  obtain ⟨zs, e1, e2⟩ := Option.map_eq_some_iff.mp (show (seqOf a).map Dv.lst = some _ from e)
  cases e2
  rcases seqOf_some e1 with rfl | rfl
  · obtain ⟨p, vs, rfl, hp, r1⟩ := rx.lst_of sub
    exact call_list_of pins s σ H _ us Q I r ⟨p, vs, rfl, .inl (SqL.of hp), fun q hq => o q vs hq r1⟩
  · obtain ⟨p, vs, rfl, hp, r1, _⟩ := rx.tup_of sub
    rw [hK] at hp
    exact call_list_of pins s σ H _ us Q I r ⟨p, vs, rfl, .inr hp, fun q hq => o q vs hq r1⟩
theorem rV_of_rN {p : Pr} {f : List Dv} {xs : List V} {H : Hp} {Q : VK} (h : rV W p xs H Q) (hl : ∀ ds d, prD p ds = some d → ∃ ys, d = .lst ys) : rN W p xs H Q := by
  obtain ⟨HF, ds, d, sub, rs, e, o⟩ := h
  obtain ⟨ys, rfl⟩ := hl ds d e
  exact ⟨HF, ds, ys, sub, rs, e, fun q vs hq r => out_l o hq r⟩
theorem list_ok (hK : W.K = X.K) : CallR X (.type "list") (fun xs H Q => rV W .list xs H Q) := by
  intro pins s σ H xs us Q I r h
  obtain ⟨HF, x, a, d, rfl, sub, rx, e, o⟩ := one_of h
  obtain ⟨zs, e1, e2⟩ := Option.map_eq_some_iff.mp (show (seqOf a).map Dv.lst = some _ from e)
  subst e2
  exact list_fresh hK pins s σ H _ us Q I r ⟨HF, [a], zs, sub, ⟨rx, trivial⟩, e, fun q vs hq r => out_l o hq r⟩
theorem tuple_ok (hK : W.K = X.K) : CallR X (.type "tuple") (fun xs H Q => rV W .tuple xs H Q) := by
  intro pins s σ H xs us Q I r h
  obtain ⟨HF, x, a, d, rfl, sub, rx, e, o⟩ := one_of h
  obtain ⟨zs, e1, e2⟩ := Option.map_eq_some_iff.mp (show (seqOf a).map Dv.tup = some _ from e)
  subst e2
  rcases seqOf_some e1 with rfl | rfl
  · obtain ⟨p, vs, rfl, hp, r1⟩ := rx.lst_of sub
    exact call_tuple_of pins s σ H _ us Q I r ⟨p, vs, rfl, .inl ⟨SqL.of hp, fun q hq => out_t o hq r1⟩⟩
  · obtain ⟨p, vs, rfl, hp, r1, hp'⟩ := rx.tup_of sub
    rw [hK] at hp
    exact call_tuple_of pins s σ H _ us Q I r ⟨p, vs, rfl, .inr ⟨hp, out_v o (.tup hp' r1)⟩⟩

/-! ### items -/
theorem atI_map {α β : Type} (f : α → β) (xs : List α) (i : Int) : L2.atI (xs.map f) i = (L2.atI xs i).map f := by
  unfold L2.atI
  rw [List.length_map]
  cases L2.ixN xs.length i with
  | none => rfl
  | some j => simp
theorem atI_rep {H : Hp} {vs : List V} {ds : List Dv} (r : Reps W H vs ds) {i : Int} {d : Dv} (h : L2.atI ds i = some d) : ∃ v, L2.atI vs i = some v ∧ Rep W H v d := by
  unfold L2.atI at h ⊢
  obtain ⟨j, e1, e2⟩ := Option.bind_eq_some_iff.mp h
  obtain ⟨v, e3, e4⟩ := r.get e2
  exact ⟨v, by rw [r.length, e1]; exact e3, e4⟩
theorem if_opt {α : Type} {c : Prop} [Decidable c] {o : Option α} {y : α} (h : (if c then o else none) = some y) : c ∧ o = some y := by
  by_cases k : c
  · rw [if_pos k] at h
    exact ⟨k, h⟩
  · rw [if_neg k] at h
    cases h
theorem ix_ok (hK : W.K = X.K) : IxR X (fun x y H Q => rV W .ix [x, y] H Q) := by
  intro value slice pins s σ H x y v u Q I rx ry h hs
  obtain ⟨HF, x', y', a, b, d, ex, sub, ra, rb, e, o⟩ := two_of h
  cases ex
  cases a <;> cases b <;> try cases e
  · rename_i z i
    obtain ⟨e1, e2⟩ := if_opt (show (if short z.length = true then (L2.atI z.cps.toList i).map fun c => Dv.str ⟨#[c]⟩ else none) = some d from e)
    obtain ⟨c, e3, rfl⟩ := Option.map_eq_some_iff.mp e2
    cases ra.str_of
    cases rb.int_of
    exact ix_str value slice pins s σ H _ _ v u Q I rx ry ⟨z, i, c, rfl, rfl, short_ok e1, e3, out_v o (.str _)⟩ hs
  · rename_i ds i
    obtain ⟨p, vs, rfl, hp, r1, _⟩ := ra.tup_of sub
    cases rb.int_of
    rw [hK] at hp
    obtain ⟨w, e1, e2⟩ := atI_rep r1 (show L2.atI ds i = some d from e)
    exact ix_tup value slice pins s σ H _ _ v u Q I rx ry ⟨p, vs, i, w, rfl, rfl, hp, e1, out_v o e2⟩ hs
  · rename_i ds i
    obtain ⟨p, vs, rfl, hp, r1⟩ := ra.lst_of sub
    cases rb.int_of
    obtain ⟨w, e1, e2⟩ := atI_rep r1 (show L2.atI ds i = some d from e)
    exact ix_list value slice pins s σ H _ _ v u Q I rx ry ⟨p, vs, i, w, rfl, rfl, SqL.of hp, e1, out_v o e2⟩ hs
  · rename_i ns i
    obtain ⟨p, rfl, hp⟩ := ra.scr_of sub
    cases rb.int_of
    rw [hK] at hp
    obtain ⟨n, e1, rfl⟩ := Option.map_eq_some_iff.mp (show (L2.atI ns i).map Dv.int = some d from e)
    exact ix_list value slice pins s σ H _ _ v u Q I rx ry ⟨p, _, i, .int n, rfl, rfl, hp, by rw [atI_map, e1]; rfl, out_v o (.int n)⟩ hs

/-! ### slices -/
theorem cutD_len {α : Type} (xs : List α) (lo hi : Option Int) : (cutD xs lo hi).length ≤ xs.length := by
  unfold cutD
  rw [List.length_take, List.length_drop]
  omega
theorem Reps.cut {H : Hp} {vs : List V} {ds : List Dv} (r : Reps W H vs ds) (lo hi : Option Int) : Reps W H (cutV vs lo hi) (cutD ds lo hi) := by
  unfold cutV cutD
  rw [r.length]
  exact (r.drop _).take _
theorem cutV_ints (ns : List Int) (lo hi : Option Int) : cutV (ns.map V.int) lo hi = (cutD ns lo hi).map V.int := by
  unfold cutV cutD
  rw [List.length_map, List.map_take, List.map_drop]
def rS (W : Wd) (x : V) (lo hi : Option Int) (H : Hp) (Q : VK) : Prop := ∃ HF a d, Same HF H ∧ RepL W HF H x a ∧ slD a lo hi = some d ∧ Out W HF H d Q
def rSN (W : Wd) (x : V) (lo hi : Option Int) (H : Hp) (Q : VK) : Prop := ∃ HF a ys, Same HF H ∧ RepL W HF H x a ∧ slD a lo hi = some (.lst ys) ∧ ∀ q vs, H q = none → Reps W HF vs ys → Q (.ref q) (upd H q (.lst vs))
theorem slN_ok (hK : W.K = X.K) : SlR X (rSN W) := by
  intro pins s σ H x v vl vu lo hi sl Q I rx hs pl pu h
  obtain ⟨HF, a, d, sub, ra, e, o⟩ := h
  cases a <;> try cases e
  · rename_i z
    obtain ⟨e1, e2⟩ := if_some (show (if short z.length = true then some (Dv.str _) else none) = some _ from e)
    cases e2
  · rename_i ds
    obtain ⟨p, vs, rfl, hp, r1⟩ := ra.lst_of sub
    exact sl_list pins s σ H _ v vl vu lo hi sl Q I rx hs pl pu ⟨p, vs, rfl, SqL.of hp, fun q hq => o q _ hq (r1.cut lo hi)⟩
  · rename_i ns
    obtain ⟨p, rfl, hp⟩ := ra.scr_of sub
    rw [hK] at hp
    exact sl_list pins s σ H _ v vl vu lo hi sl Q I rx hs pl pu ⟨p, _, rfl, hp, fun q hq => o q _ hq (by rw [cutV_ints]; exact Reps.of_ints _)⟩
end
end CF

set_option Elab.async false
set_option linter.all false
set_option maxRecDepth 100000
namespace CF
open PySem PySem.Spec PyProof.Rows L2

section
variable {X : Cx} {W : Wd}
theorem sl_ok (hK : W.K = X.K) : SlR X (rS W) := by
  intro pins s σ H x v vl vu lo hi sl Q I rx hs pl pu h
  obtain ⟨HF, a, d, sub, ra, e, o⟩ := h
  cases a <;> try cases e
  · rename_i z
    obtain ⟨e1, e2⟩ := if_some (show (if short z.length = true then some (Dv.str (strCut z lo hi)) else none) = some _ from e)
    cases e2
    cases ra.str_of
    exact sl_str pins s σ H _ v vl vu lo hi sl Q I rx hs pl pu ⟨z, rfl, short_ok e1, out_v o (.str _)⟩
  · rename_i ds
    obtain ⟨p, vs, rfl, hp, r1, k1⟩ := ra.tup_of sub
    rw [hK] at hp
    refine sl_tupA pins s σ H _ v vl vu lo hi sl Q I rx hs pl pu ⟨p, vs, rfl, hp, fun z => ?_, fun _ q hq => out_t o hq (r1.cut lo hi)⟩
    have e3 : cutD ds lo hi = ds := by
      unfold cutD
      rw [← r1.length, z.1, z.2, List.drop_zero, Nat.sub_zero, r1.length, List.take_length]
    rw [e3] at o
    exact out_v o (.tup k1 r1)
  · rename_i ds
    exact slN_ok hK pins s σ H _ v vl vu lo hi sl Q I rx hs pl pu ⟨HF, _, _, sub, ra, rfl, fun q vs hq r => out_l o hq r⟩
  · rename_i ns
    exact slN_ok hK pins s σ H _ v vl vu lo hi sl Q I rx hs pl pu ⟨HF, _, _, sub, ra, rfl, fun q vs hq r => out_l o hq r⟩

/-! ### isinstance by a built-in type -/
def tyName : Ty → String
  | .int => "int"
  | .bool => "bool"
  | .str => "str"
  | .tuple => "tuple"
  | .list => "list"
  | .dict => "dict"
def dvTy : Dv → Option String
  | .non => some "NoneType"
  | .bl _ => some "bool"
  | .int _ => some "int"
  | .str _ => some "str"
  | .tup _ => some "tuple"
  | .lst _ => some "list"
  | .dct _ _ => some "dict"
  | .scr _ => some "list"
  | .exc _ _ => none
theorem tyX_of (hK : W.K = X.K) {pins : List (Addr × Obj)} {s : Shared} {σ : L2.St} {H : Hp} (I : Inv X pins σ H s) {d : Dv} {x : V} (r : Rep W H x d) {n : String} (h : dvTy d = some n) : TyX X.K H x (.type n) := by
  cases r with
  | non => cases h; exact .base .non
  | bl b => cases h; exact .base (.bl b)
  | int i => cases h; exact .base (.int i)
  | str z => cases h; exact .base (.str z)
  | tup q _ =>
    cases h
    rw [hK] at q
    rcases q with (q | ⟨o, q⟩) | ⟨o, its, n, q, c, _⟩
    · exact .base (.tup q)
    · exact .fTuple q
    · exact .kTuple q c
  | lst q _ => cases h; exact .base (.lst q)
  | dct q _ _ => cases h; exact .base (.dK q)
  | scr q =>
    cases h
    rw [hK] at q
    rcases q with (q | ⟨o, q⟩) | ⟨o, its, n, q, c, _⟩
    · exact .base (.lst q)
    · exact .base (.frz q)
    · exact .kList q c
  | exc _ _ _ _ _ => cases h
theorem kitB_ok (t : Ty) (d : Dv) (n : String) (h : dvTy d = some n) : kitB n (tyName t) = some (isTy t d) := by
  cases d <;> cases h <;> cases t <;> first | rfl | decide +kernel
theorem isi_ok (hK : W.K = X.K) (t : Ty) : CallR X (.builtin "isinstance") (fun xs H Q => ∃ HF x a, xs = [x, .ty (tyName t)] ∧ Same HF H ∧ RepL W HF H x a ∧ (dvTy a).isSome = true ∧ Q (.bl (isTy t a)) H) := by
  intro pins s σ H xs us Q I r h
  obtain ⟨HF, x, a, rfl, sub, ra, e, o⟩ := h
  obtain ⟨n, hn⟩ := Option.isSome_iff_exists.mp e
  exact call_isi pins s σ H _ us Q I r ⟨x, _, _, _, _, rfl, .ty _, tyX_of hK I (ra.rep sub) hn, kit_ty (kitB_ok t a n hn), o⟩

/-! ### repr -/
mutual
theorem bare_reads : ∀ {d : Dv} {h : Heap} {u : Value} {as : List Addr}, d.bare = true → Reads h u d.toP as → as = []
  | .non, _, _, _, _, r => by cases r; rfl
  | .bl _, _, _, _, _, r => by cases r; rfl
  | .int _, _, _, _, _, r => by cases r; rfl
  | .str _, _, _, _, _, r => by cases r; rfl
  | .tup xs, _, _, _, h, r => by
    simp only [Dv.bare] at h
    simp only [Dv.toP] at r
    cases r with
    | tuple _ _ _ q => exact bares_reads h q
  | .lst _, _, _, _, h, _ => nomatch h
  | .dct _ _, _, _, _, h, _ => nomatch h
  | .scr _, _, _, _, h, _ => nomatch h
  | .exc _ _, _, _, _, h, _ => nomatch h
theorem bares_reads : ∀ {ds : List Dv} {h : Heap} {us : List Value} {as : List Addr}, Dv.bares ds = true → ReadsAll h us (Dv.toPs ds) as → as = []
  | [], _, _, _, _, r => by cases r; rfl
  | d :: ds, _, _, _, h, r => by
    simp only [Dv.bares, Bool.and_eq_true] at h
    cases r with
    | cons q1 q2 => rw [bare_reads h.1 q1, bares_reads h.2 q2, List.append_nil]
end
mutual
theorem bare_plain : ∀ {d : Dv}, d.bare = true → d.plain = true
  | .non, _ => rfl
  | .bl _, _ => rfl
  | .int _, _ => rfl
  | .str _, _ => rfl
  | .tup xs, h => by
    simp only [Dv.bare] at h
    simp only [Dv.plain]
    exact bares_plain h
  | .lst _, h => nomatch h
  | .dct _ _, h => nomatch h
  | .scr _, h => nomatch h
  | .exc _ _, h => nomatch h
theorem bares_plain : ∀ {ds : List Dv}, Dv.bares ds = true → Dv.plains ds = true
  | [], _ => rfl
  | d :: ds, h => by
    simp only [Dv.bares, Bool.and_eq_true] at h
    simp only [Dv.plains, bare_plain h.1, bares_plain h.2, Bool.and_self]
end
mutual
theorem plain_nodict : ∀ {d : Dv}, d.plain = true → d.toP.hasDict = false
  | .non, _ => rfl
  | .bl _, _ => rfl
  | .int _, _ => rfl
  | .str _, _ => rfl
  | .tup xs, h => by
    simp only [Dv.plain] at h
    simp only [Dv.toP, PyData.hasDict]
    exact plains_nodict h
  | .lst xs, h => by
    simp only [Dv.plain] at h
    simp only [Dv.toP, PyData.hasDict]
    exact plains_nodict h
  | .dct _ _, h => nomatch h
  | .scr _, h => nomatch h
  | .exc _ _, h => nomatch h
theorem plains_nodict : ∀ {ds : List Dv}, Dv.plains ds = true → PyData.hasDictAll (Dv.toPs ds) = false
  | [], _ => rfl
  | d :: ds, h => by
    simp only [Dv.plains, Bool.and_eq_true] at h
    simp only [Dv.toPs, PyData.hasDictAll, plain_nodict h.1, plains_nodict h.2, Bool.or_self]
end
theorem pairs_keys {P : Program} {w : World} : ∀ {es : List DictEntry} {kvs : List (Key × Value)}, Pairs (mixKind P w) es kvs → Vals (kvs.map fun p => kV p.1) (es.map (·.key)) ∧ es.map (·.val) = kvs.map (·.2)
  | _, _, .nil => ⟨.nil, rfl⟩
  | _, _, .cons (e := e) (kv := kv) h1 h2 t => by
    obtain ⟨r1, r2⟩ := pairs_keys t
    refine ⟨.cons ?_ r1, by rw [List.map_cons, List.map_cons, h2, r2]⟩
    rcases keyIs_shape (show keyIs kv.1 e.key = true from h1) with ⟨i, t, h3, h4⟩ | ⟨i, t, h3, h4⟩
    · show RelV (kV kv.1) e.key
      rw [h3, h4]
      exact ⟨t, rfl⟩
    · show RelV (kV kv.1) e.key
      rw [h3, h4]
      exact ⟨t, rfl⟩
theorem kv_vals : ∀ {kvs : List (Key × V)} {vs : List (Key × Value)}, KV kvs vs → Vals (kvs.map (·.2)) (vs.map (·.2)) ∧ kvs.map (fun p => kV p.1) = vs.map (fun p => kV p.1)
  | _, _, .nil => ⟨.nil, rfl⟩
  | _, _, .cons h t => by
    obtain ⟨r1, r2⟩ := kv_vals t
    exact ⟨.cons h.2 r1, by rw [List.map_cons, List.map_cons, h.1, r2]⟩
/-- a dict of plain things reads as one -/
theorem dct_reads (hK : W.K = X.K) {pins : List (Addr × Obj)} {s : Shared} {σ : L2.St} {H : Hp} (I : Inv X pins σ H s) {ks vs : List Dv} {x : V} {u : Value} (r : Rep W H x (.dct ks vs)) (h1 : Dv.bares ks = true) (h2 : Dv.bares vs = true) (hl : ks.length = vs.length) (ru : RelV x u) :
    ∃ a, u = .ref a ∧ (a == sysModules) = false ∧ Reads s.heap u (Dv.toP (.dct ks vs)) [a] := by
  cases r with
  | @dct a kvs _ _ q rk rv =>
    cases ru
    obtain ⟨_, hm, ws, kv, o, es, ep, ho, hx, hd, _, hp, _⟩ := I.hok a _ q
    obtain ⟨p1, p2⟩ := pairs_keys hp
    obtain ⟨q1, q2⟩ := kv_vals kv
    have k1 : Vals (kvs.map fun p => kV p.1) (es.toList.map (·.key)) := by rw [q2]; exact p1
    have k2 : Vals (kvs.map (·.2)) (es.toList.map (·.val)) := by rw [p2]; exact q1
    obtain ⟨as, z1⟩ := Reps.reads hK I rk (bares_plain h1) k1
    obtain ⟨bs, z2⟩ := Reps.reads hK I rv (bares_plain h2) k2
    have e1 := bares_reads h1 z1
    have e2 := bares_reads h2 z2
    subst e1 e2
    have hl' : (Dv.toPs ks).length = (Dv.toPs vs).length := by rw [Dv.toPs_map, Dv.toPs_map, List.length_map, List.length_map, hl]
    refine ⟨a, rfl, hm, ?_⟩
    simp only [Dv.toP]
    refine .dict (as := []) (bs := []) ho hx.1 hd ?_ ?_
    · rw [List.map_fst_zip (Nat.le_of_eq hl')]
      exact z1
    · rw [List.map_snd_zip (Nat.le_of_eq hl'.symm)]
      exact z2
/-- repr of what reads as data -/
theorem repr_data (hg : X.A.guards = some []) (hu : X.A.units + 200 < cLine) {pins : List (Addr × Obj)} {s : Shared} {σ : L2.St} {H : Hp} {Q : VK} (I : Inv X pins σ H s) {d : PyData} {u : Value} {as : List Addr} (r : Reads s.heap u d as)
    (hm : d.hasDict = true → sysModules ∉ as) (hs : Dv.shows d = true) (q : Q (.str d.shown) H) : wpAny (model X.prog X.w) X.A (call (.builtin "repr") [u]) (EP X pins σ Q) X.xe s := by
  unfold Dv.shows at hs
  simp only [Bool.and_eq_true, decide_eq_true_eq] at hs
  obtain ⟨⟨h1, h2⟩, h3⟩ := hs
  have hz : d.shown.length ≤ sizeLine := by rw [sizeLine_eq]; exact h2
  have fin : ∀ (h' : Heap) (t : Tok) (tk : Nat), (∀ b o, s.heap.get? b = some o → h'.get? b = some o) → EP X pins σ Q (.str d.shown t) { s with heap := h', toks := tk } := fun h' t tk k => ⟨.str _, H, I.kept k, ⟨t, rfl⟩, q⟩
  have same : ∀ (t : Tok) (tk : Nat), EP X pins σ Q (.str d.shown t) { s with toks := tk } := fun t tk => fin s.heap t tk fun _ _ e => e
  cases r with
  | none => exact PySem.P.repr_of_none (same _ _)
  | bool b => exact PySem.P.repr_of_bool (same _ _)
  | int i t =>
    simp only [PyData.showable, decide_eq_true_eq] at h1
    exact PySem.P.repr_of_int h1 (same _ _)
  | str z t => exact PySem.P.repr_of_str (same _ _) hz
  | list a1 a2 a3 a4 => exact repr_of_reads' (.list a1 a2 a3 a4) h1 hm hg (by omega) (fun _ _ e => e) (fun h' t tk k => fin h' t tk k) hz
  | tuple a1 a2 a3 a4 => exact repr_of_reads' (.tuple a1 a2 a3 a4) h1 hm hg (by omega) (fun _ _ e => e) (fun h' t tk k => fin h' t tk k) hz
  | dict a1 a2 a3 a4 a5 => exact repr_of_reads' (.dict a1 a2 a3 a4 a5) h1 hm hg (by omega) (fun _ _ e => e) (fun h' t tk k => fin h' t tk k) hz
theorem lookP_reads (hK : W.K = X.K) {pins : List (Addr × Obj)} {s : Shared} {σ : L2.St} {H : Hp} (I : Inv X pins σ H s) {d : Dv} {p : PyData} {x : V} {u : Value} (e : d.lookP = some p) (r : Rep W H x d) (ru : RelV x u) : ∃ as, Reads s.heap u p as ∧ (p.hasDict = true → sysModules ∉ as) := by
  have pl : ∀ {d : Dv} {p : PyData}, (if d.plain = true then some d.toP else none) = some p → Rep W H x d → ∃ as, Reads s.heap u p as ∧ (p.hasDict = true → sysModules ∉ as) := fun {d p} e r => by
    by_cases h : d.plain = true
    · rw [if_pos h] at e
      cases e
      obtain ⟨as, z⟩ := r.reads hK I h ru
      exact ⟨as, z, fun z => by rw [plain_nodict h] at z; cases z⟩
    · rw [if_neg h] at e
      cases e
  cases d with
  | dct ks vs =>
    have e' : (if (Dv.bares ks && Dv.bares vs && decide (ks.length = vs.length)) = true then some (Dv.toP (.dct ks vs)) else none) = some p := e
    by_cases h : (Dv.bares ks && Dv.bares vs && decide (ks.length = vs.length)) = true
    · rw [if_pos h] at e'
      cases e'
      simp only [Bool.and_eq_true, decide_eq_true_eq] at h
      obtain ⟨a, rfl, hm, z⟩ := dct_reads hK I r h.1.1 h.1.2 h.2 ru
      exact ⟨[a], z, fun _ m => by
        rw [List.mem_singleton] at m
        rw [m] at hm
        simp at hm⟩
    · rw [if_neg h] at e'
      cases e'
  | non => exact pl (d := .non) e r
  | bl b => exact pl (d := .bl b) e r
  | int i => exact pl (d := .int i) e r
  | str z => exact pl (d := .str z) e r
  | tup xs => exact pl (d := .tup xs) e r
  | lst xs => exact pl (d := .lst xs) e r
  | scr ns => exact pl (d := .scr ns) e r
  | exc c v => exact pl (d := .exc c v) e r
end
end CF

set_option Elab.async false
set_option linter.all false
set_option maxRecDepth 100000
set_option maxHeartbeats 4000000
namespace CF
open PySem PySem.Spec PyProof.Rows PySem.W PySem.Calls L2

/-! ## C(value), C an own class over ValueError whose __init__ says super().__init__(value); self.value = value -/
abbrev xBody (p0 p1 p2 p3 p4 p5 p6 p7 p8 p9 : Pos) : List Stmt := [.Expr (.Call (.Attribute (.Call (.Name "super" p0) [] [] p1) "__init__" p2) [.Name "value" p3] [] p4) p5, .Assign [.Attribute (.Name "self" p6) "value" p7] (.Name "value" p8) p9]
abbrev xCall (p0 p1 p2 p3 p4 : Pos) : PySem.Expr := .Call (.Attribute (.Call (.Name "super" p0) [] [] p1) "__init__" p2) [.Name "value" p3] [] p4
abbrev XRun (p0 p1 p2 p3 p4 : Pos) (pl : PySem.Env → Sem Bool) : Prop := ∀ env : PySem.Env, eval (xCall p0 p1 p2 p3 p4) env = (do
      let ov ← attributeBase (.Call (.Name "super" p0) [] [] p1) "__init__" env (eval (.Call (.Name "super" p0) [] [] p1) env)
      standAt p2.atName
      let (f, first) ← holding [ov] (getMethod ov "__init__" (pl env))
      callWith p4 f first (backTo p4 (starEach [.Name "value" p3] env)) [])
/-- the def __init__ -/
structure XDef (P : Program) (K : PySem.W.Frag) (fI D : Addr) : Prop where
  ex : ∃ (oc ct dV kV doc pm : Value) (an od : Option Addr) (osl : Array (Option Value)) (name qual : Str) (params : Arguments) (scope : Scope) (cda cc : Addr) (p0 p1 p2 p3 p4 p5 p6 p7 p8 p9 : Pos) (ar : Arg) (vs : Array Value) (file : Str) (tf : Tok) (ccl cl : Value) (cdd cld : Option Addr) (ccs csl : Array (Option Value)) (cdD : ClassData),
    K.lookup fI = some ⟨oc, od, .func (ksFn name qual params (xBody p0 p1 p2 p3 p4 p5 p6 p7 p8 p9) scope dV kV doc pm an (.ref cda) ct cc), osl⟩ ∧ codeIn K (.ref cda) qual = true ∧
    (params.posonlyargs ++ params.args).head? = some ar ∧ ar.arg = "self" ∧
    (∀ (s : Shared) (e u : Value), BindsTo s (ksFn name qual params (xBody p0 p1 p2 p3 p4 p5 p6 p7 p8 p9) scope dV kV doc pm an (.ref cda) ct cc) ⟨[e, u], []⟩ [("self", e), ("value", u)]) ∧
    scope.names.lookup ("super" : Str) = some .globalImplicit ∧ scope.names.lookup ("__class__" : Str) = some .free ∧ scope.names.lookup ("self" : Str) = some .local ∧ scope.names.lookup ("value" : Str) = some .local ∧ (∀ x ∈ scope.names, x.2 ≠ .cell) ∧
    scope.isCoroutine = false ∧ scope.isGenerator = false ∧ scope.kind = .function ∧
    K.lookup cda = some ⟨ccl, cdd, .fields vs, ccs⟩ ∧ vs[2]? = some (.str file tf) ∧ ((P.main.file : Str) == file) = true ∧ (P.main.scope.names.lookup ("super" : Str)).isSome = false ∧
    K.lookup cc = some ⟨cl, cld, .cell (some (.ref D)), csl⟩ ∧ clsIn K D = some cdD ∧ ∃ pl, XRun p0 p1 p2 p3 p4 pl
/-- the class C -/
structure XCls (K : PySem.W.Frag) (fI D C : Addr) : Prop where
  T : OexC K C
  iC : findIn K (.ref C) "__init__" = some (some (.ref fI))
  tI : typeIn K (.ref fI) = some (.type "function")
  sup : ks_superIn K C D "__init__" = some (some (.builtin "ValueError.__init__"))
  hB : subIn K (.ref C) (.type "ValueError") = some true
  mD : mroIn K C (.ref D) = some true
  hno : findIn K (.ref C) "value" = some none
  opq : nsIn K cStatics "thirdparty.any" = some none

section
variable {prog : Program} {w : World} {A : Around} {E : Value → Shared → Prop} {K : PySem.W.Frag} {fI D C : Addr} {h : Heap} {g : Array GenState} {d : Drawn} {t : Nat} {os : OsState} {u : Value} {mg mb : Str → Option Value} {Q : Value → Shared → Prop}
theorem boot_super : bootBuiltins "super" = some (.type "super") := by kernel_rfl
theorem exc_call (X : K.In h) (F : XDef prog K fI D) (c : XCls K fI D C) (hlim : h.NoLimit) (hg : h.Ns mainGlobals mg) (hb : h.Ns builtinsNs mb) (hmg : mg "super" = none) (hmb : mb "super" = some (.type "super")) (hroom : A.depth + 1 < recursionLimit)
    (hq : ∀ h' t' e tt dx, (∀ b o, h.get? b = some o → h'.get? b = some o) → h.objs.size ≤ e → h.objs.size ≤ tt → h.objs.size ≤ dx → e ≠ tt → e ≠ dx → tt ≠ dx → h'.get? e = some (excObj C tt (some dx) .none) → h'.get? tt = some (excTup [u]) →
      h'.Ns1 dx (fun y => if y = "value" then some u else none) → Q (.ref e) ⟨h', g, d, t', os⟩) :
    wpAny (model prog w) A (call (.ref C) [u]) Q E ⟨h, g, d, t, os⟩ := by
  obtain ⟨nm, q, N, bs, bm, sn, sub, ab, col, dd, k0, k1, k2, k3, k5, hC, hbm⟩ := c.T.cls
  obtain ⟨oc, ct, dV, kV, doc, pm, an, od, osl, name, qual, params, scope, cda, cc, p0, p1, p2, p3, p4, p5, p6, p7, p8, p9, ar, vs, file, tf, ccl, cl, cdd, cld, ccs, csl, cdD, hf, hcd, hp, har, hbind, n1, n2, n3, n4, ncell, sco, sgen, sk, hcda, hvs, hfile, htop, hcc, hD, pl, hrun⟩ := F.ex
  have one : [u].length ≤ sizeLine := by rw [sizeLine_eq, List.length_singleton]; decide
  refine wpAny_call (HandSPX.call_own PySem.F.excBase_ValueError (fun Y => HandSPX.refsVE_contains Y bm hbm) (X _ _ hC) (W.looks_findIn X c.iC) (fun self => W.bind_fn X self c.tI) one ?_)
  generalize he : h.objs.size + 1 = e
  have k1 : ∀ b o, h.get? b = some o → ((h.push (kdv_tup [u])).push (HandSPX.excO C h.objs.size)).get? b = some o := fun b o z => Heap.get?_push_of_some _ (Heap.get?_push_of_some _ z)
  have e1 : ((h.push (kdv_tup [u])).push (HandSPX.excO C h.objs.size)).get? e = some (HandSPX.excO C h.objs.size) := by rw [← he]; heap_get
  have z1 : ((h.push (kdv_tup [u])).push (HandSPX.excO C h.objs.size)).objs.size = h.objs.size + 2 := by rw [Heap.size_push, Heap.size_push]
  generalize (h.push (kdv_tup [u])).push (HandSPX.excO C h.objs.size) = h1 at k1 e1 z1 ⊢
  refine ks_codeAny_call_defAt (fd := ksFn name qual params (xBody p0 p1 p2 p3 p4 p5 p6 p7 p8 p9) scope dV kV doc pm an (.ref cda) ct cc) (body := xBody p0 p1 p2 p3 p4 p5 p6 p7 p8 p9) (binds := [("self", .ref e), ("value", u)])
    (by rw [make_depth]; omega) (k1 _ _ (X _ _ hf)) rfl (hlim.keeps k1) (codeRec_of (X.keeps k1) hcd) rfl (hbind _ _ _) ncell (fun x hx => ?_) (fun h2 ns2 k2 => ?_) sco sgen sk
  · rcases List.mem_cons.mp hx with rfl | hx
    · exact n3
    · rcases List.mem_cons.mp hx with rfl | hx
      · exact n4
      · cases hx
  let bd : List (Str × Value) := [("self", .ref e), ("value", u)]
  have ns2 : h2.Ns h1.objs.size (fun x => bd.reverse.lookup x) := ns2
  have k2' := fun b o (z : h.get? b = some o) => k2 b o (k1 b o z)
  have e2 := k2 _ _ e1
  have X2 : K.In h2 := X.keeps k2'
  have lt2 : h1.objs.size < h2.objs.size := ns2.lt
  have Le : h1.objs.size ≠ e := by omega
  show PySem.wpAt (model prog w) _ (.func _ (ksEnv qual scope h1.objs.size fI (.ref cda) cc)) (execs _ (ksEnv qual scope h1.objs.size fI (.ref cda) cc)) _ _ _
  have sz2 : h.objs.size + 2 < h2.objs.size := by omega
  generalize h1.objs.size = L at *
  generalize hEE : (fun (e : Value) (s' : Shared) => wpAny (model prog w) _ (leaving _ e) _ _ s') = EE
  clear hEE
  have hcl : PySem.W.clsIn K C = some { name := nm, bases := bs, mro := .ref C :: bm, ns := N, qualname := q, hasDict := true, slotNames := sn, subclasses := sub, abstract := ab, collection := col, hasDel := false } := by unfold PySem.W.clsIn; rw [hC] <;> rfl
  have eC : e ≠ C := fun z => by
    have y := X2 _ _ hC
    rw [← z, e2] at y
    cases y
  obtain ⟨oD, hD1, hD2⟩ : ∃ oD, h2.get? D = some oD ∧ oD.data = .cls cdD := by
    unfold clsIn at hD
    split at hD
    · rename_i c d cd' sl ho
      cases hD
      exact ⟨_, X2 _ _ ho, rfl⟩
    · cases hD
  have hi : interactive (ksEnv qual scope L fI (.ref cda) cc) = false := by
    simp [interactive, sk]
  refine ks_wpAt_execs_cons (ks_wpAt_Expr_any ?_ hi)
  refine ks_wpAt_MethodCall (pl := pl _) ?_ (hrun _)
  refine ks_wpAt_super_base (env := ksEnv qual scope L fI (.ref cda) cc) n1 n2 (by decide) rfl (X2 _ _ hf) rfl hp rfl (X2 _ _ hcda) rfl hvs hfile htop ?_
  refine ks_loadName_global sk n1 (loadGlobal_builtin (env := ksEnv qual scope L fI (.ref cda) cc) (hg.keeps k2') hmg (hb.keeps k2') hmb ⟨rfl, ?_⟩)
  refine wpAny_loadName_free sk n2 rfl ⟨_, X2 _ _ hcc, rfl⟩ ?_
  rw [har]
  refine wpAny_loadName_local sk n3 ns2 rfl ?_
  refine ks_wpAny_isType_cls hD1 hD2 ⟨rfl, ?_⟩
  refine ks_wpAny_call_super hD1 hD2 e2 rfl (fun c e => nomatch e) (looks_mroIn X2 c.mD) (fun h3 so3 k3 => ?_)
  have X3 : K.In h3 := X2.keeps k3
  have e3 := k3 _ _ e2
  have ns3 := ns2.keeps k3
  have I3 : InstAt h3 e (HandSPX.excO C h.objs.size) C none := ⟨e3, rfl, rfl, trivial⟩
  have hsup := c.sup
  unfold ks_superIn at hsup
  rw [hcl] at hsup
  refine kxs_getMethod kxs_ValueError so3 (looks_opaque X3 c.opq) (l₀ := .ref C :: bm) ((looks_clsIn X3 hcl).andThen .now) rfl X3 hsup (I3.type.andThen (looks_subIn X3 c.hB)) eC (by decide) ?_
  have k4 : ∀ b o, h3.get? b = some o → (h3.push (kxs_mw "ValueError.__init__" e)).get? b = some o := fun b o z => Heap.get?_push_of_some _ z
  have u4 : (h3.push (kxs_mw "ValueError.__init__" e)).get? h3.objs.size = some (kxs_mw "ValueError.__init__" e) := Heap.get?_push_at rfl rfl
  have z3 : h2.objs.size ≤ h3.objs.size := Nat.le_of_lt (Heap.lt_size so3)
  generalize h3.objs.size = um at *
  generalize h3.push (kxs_mw "ValueError.__init__" e) = h4 at k4 u4 ⊢
  have X4 : K.In h4 := X3.keeps k4
  have e4 := k4 _ _ e3
  have ns4 := ns3.keeps k4
  have so4 := k4 _ _ so3
  refine kxs_callWith (i := "ValueError.__init__") (x := e) rfl (evalArgs_plain (Calls.spliced_cons (wpAny_Name (wpAny_loadName_local sk n4 ns4 rfl (Calls.spliced_nil ⟨u4, ?_⟩)) (by decide))))
  refine wpAny_call (codeAny_of_tree ?_)
  show wpAny _ _ (callAny (.ref um) ⟨[u], []⟩) _ _ _
  simp only [callAny]
  refine wpAny_bind (wpAny_load u4 ?_)
  simp only [kxs_mw, show (Value.type "method-wrapper" == Value.type "method" || Value.type "method-wrapper" == Value.type "builtin_function_or_method" || Value.type "method-wrapper" == Value.type "method-wrapper") = true by decide, if_true]
  refine KFB.if_so (by decide) ?_
  refine wpAny_bind (check_bound_init PySem.F.excBase_ValueError.toExcCallFacts (X4 _ _ hC) e4 rfl ?_)
  refine wpAny_bind (wpAny_pure (wpAny_pure ?_))
  refine ⟨plainId_quiet PySem.F.excBase_ValueError.init.plain _, codeAny_builtin PySem.F.excBase_ValueError.initEntry ?_⟩
  refine exc_init_tree (cls := .ref C) (t0 := h.objs.size) (dv := none) (c2 := .none) (c3 := .none) (b4 := .bool false) e4 one fun h5 k5 e5 t5 => ?_
  have z4 : um < h4.objs.size := Heap.lt_size u4
  generalize h4.objs.size = tt' at *
  have eNat : h.objs.size < e := he ▸ Nat.lt_succ_self _
  have eL : e < L := by
    have : h.objs.size + 2 = L := z1.symm
    rw [← this, ← he]
    exact Nat.lt_succ_self _
  have Lu : L < um := Nat.lt_of_lt_of_le lt2 z3
  have et : e < tt' := Nat.lt_trans eL (Nat.lt_trans Lu z4)
  have X5 : K.In h5 := fun b o z => k5 b o (fun y => absurd (Heap.lt_size (X _ _ z)) (by rw [y]; exact Nat.not_lt.mpr (Nat.le_of_lt eNat))) (X4 _ _ z)
  have ns5 : h5.Ns L (fun x => bd.reverse.lookup x) := by
    obtain ⟨o, es, ep, q1, q2⟩ := ns4
    exact ⟨o, es, ep, k5 _ _ Le q1, q2⟩
  refine ks_wpAt_execs_cons (wpAt_of_wpAny (plainObj_wpAny_Assign_Attribute (wpAny_Name (wpAny_loadName_local sk n4 ns5 rfl (wpAny_Name (wpAny_loadName_local sk n3 ns5 rfl ?_) (by decide))) (by decide)) rfl))
  refine PySem.W.set_plain X5 (ox := excObj C tt' none .none) (od := none) ⟨e5, rfl, rfl, trivial⟩ c.T.sa ?_
  refine HandSPX.exc_osa X5 e5 hcl (show HandSPX.refsVE (.ref C :: bm) = true from hbm) rfl c.hno (fun h6 t6 dx k6 dn dne hx hn => ?_)
  have t6' := k6 _ _ (Nat.ne_of_gt et) t5
  have td : tt' < dx := Nat.lt_of_lt_of_le (Heap.lt_size t5) dn
  have st : h.objs.size ≤ tt' := Nat.le_of_lt (Nat.lt_trans eNat et)
  have fin := hq h6 t6 e tt' dx (fun b o z => ?_) (Nat.le_of_lt eNat) st (Nat.le_trans st (Nat.le_of_lt td)) (Nat.ne_of_lt et) (Ne.symm dne) (Nat.ne_of_lt td) hx t6' hn
  · show PySem.wpAt _ _ _ (execs [] _) _ _ _
    rw [execs_nil]
    exact wpAt_of_wpAny (wpAny_pure ⟨rfl, fin⟩)
  · have nb : b ≠ e := Nat.ne_of_lt (Nat.lt_trans (Heap.lt_size z) eNat)
    exact k6 b o nb (k5 b o nb (k4 b o (k3 b o (k2' b o z))))
end

theorem exH_tup {a C t dx : Addr} {xs : List V} : ExH a C t dx ≠ .tup xs := fun z => by
  have z' : HO.ext _ = HO.tup xs := z
  cases z'
/-- laid: an exception, its args, its dict -/
theorem Inv.exc {X : Cx} {pins : List (Addr × Obj)} {σ : L2.St} {H : Hp} {s : Shared} {h' : Heap} {t' : Nat} {e tt dx C : Addr} {v : V} {u : Value} (I : Inv X pins σ H s) (rv : RelV v u) (k : ∀ b o, s.heap.get? b = some o → h'.get? b = some o) (l1 : s.heap.objs.size ≤ e) (l2 : s.heap.objs.size ≤ tt) (l3 : s.heap.objs.size ≤ dx)
    (d1 : e ≠ tt) (d2 : e ≠ dx) (d3 : tt ≠ dx) (he : h'.get? e = some (excObj C tt (some dx) .none)) (ht : h'.get? tt = some (excTup [u])) (hd : h'.Ns1 dx (fun y => if y = "value" then some u else none)) :
    Inv X pins σ (upd (upd (upd H tt (.tup [v])) dx (.xd [("value", v)])) e (ExH e C tt dx)) { s with heap := h', toks := t' } := by
  have f1 : H e = none := I.hok.fresh l1
  have f2 : H tt = none := I.hok.fresh l2
  have f3 : H dx = none := I.hok.fresh l3
  have ne : ∀ {b : Addr} {o : Obj}, s.heap.get? b = some o → b ≠ e ∧ b ≠ tt ∧ b ≠ dx := fun {b o} z => ⟨Nat.ne_of_lt (Nat.lt_of_lt_of_le (Heap.lt_size z) l1), Nat.ne_of_lt (Nat.lt_of_lt_of_le (Heap.lt_size z) l2), Nat.ne_of_lt (Nat.lt_of_lt_of_le (Heap.lt_size z) l3)⟩
  have nH : ∀ {b : Addr} {o : HO}, H b = some o → upd (upd (upd H tt (.tup [v])) dx (.xd [("value", v)])) e (ExH e C tt dx) b = some o := fun {b o} z => by
    rw [upd_ne (ne_of_none z f1), upd_ne (ne_of_none z f3), upd_ne (ne_of_none z f2)]
    exact z
  refine I.un (t' := t') { keep := fun b o q _ _ _ => k b o q, slot := fun b o q _ _ _ => ⟨o.slots, k b o q⟩, free := fun b o q n _ => ?_, there := fun b o q _ => ⟨o, k b o q⟩, tups := fun b xs q => nH q, frzs := fun b o w q => nH q, tbls := fun b ps q => ⟨#[], by rw [nH q]; simp⟩ } fun b o q => ?_
  · obtain ⟨n1, n2, n3⟩ := ne q
    rw [upd_ne n1, upd_ne n3, upd_ne n2]
    exact n
  · by_cases h1 : b = e
    · subst h1
      rw [upd_same] at q
      cases q
      exact ⟨⟨_, he⟩, ⟨_, he⟩, fun h1 h2 z k => by
        obtain ⟨c2, w⟩ := z
        exact ⟨c2, k _ w⟩⟩
    · rw [upd_ne h1] at q
      by_cases h2 : b = dx
      · subst h2
        rw [upd_same] at q
        cases q
        refine ⟨_, hd, fun f => ?_⟩
        by_cases hf : f = "value"
        · subst hf
          rw [if_pos rfl]
          exact rv
        · rw [if_neg hf, lookup_put, if_neg hf]
          trivial
      · rw [upd_ne h2] at q
        by_cases h3 : b = tt
        · subst h3
          rw [upd_same] at q
          cases q
          exact ⟨by rw [sizeLine_eq, List.length_singleton]; decide, [u], .cons rv .nil, _, ht, rfl, _, rfl⟩
        · rw [upd_ne h3] at q
          exact (I.hok b o q).stay (fun c w hc z => k c w z) (fun c hc => nH hc) (fun c xs hc => nH hc)
section
variable {X : Cx} {fI D C : Addr}
theorem rl_mk (F : XDef X.prog X.K fI D) (c : XCls X.K fI D C) (hmg : X.mg "super" = none) (hroom : X.A.depth + 1 < recursionLimit) :
    CallR X (.ref C) (fun xs H Q => ∃ v, xs = [v] ∧ ∀ e tt dx, H e = none → H tt = none → H dx = none → e ≠ tt → e ≠ dx → tt ≠ dx → Q (.ref e) (upd (upd (upd H tt (.tup [v])) dx (.xd [("value", v)])) e (ExH e C tt dx))) := by
  intro pins s σ H xs us Q I r h
  obtain ⟨v, rfl, q⟩ := h
  cases r with
  | cons r rr =>
    cases rr
    obtain ⟨mb, b1, b2⟩ := I.mod.blt
    obtain ⟨hh, g, d, t, os⟩ := s
    refine exc_call I.kIn F c ?_ (I.mod.glob.keeps I.bk) (b1.keeps I.bk) hmg ((b2 "super" (by decide)).trans boot_super) hroom fun h' t' e tt dx k l1 l2 l3 d1 d2 d3 he ht hd => ?_
    · exact I.mod.nolimit.keeps I.bk
    · exact ⟨.ref e, _, CF.Inv.exc I r k l1 l2 l3 d1 d2 d3 he ht hd, rfl, q e tt dx (I.hok.fresh l1) (I.hok.fresh l2) (I.hok.fresh l3) d1 d2 d3⟩
end
end CF

set_option Elab.async false
set_option linter.all false
set_option maxRecDepth 100000
set_option maxHeartbeats 4000000
namespace CF
open PySem PySem.Spec PyProof.Rows PySem.W PySem.Calls L2

/-! ## an error at hand: its field, its kind, its text -/
structure XIs (K : PySem.W.Frag) (C : Addr) (c : Str) : Prop where
  cls : ∃ cd, clsIn K C = some cd ∧ Str.ofString ((cd.name.toString.cutAt '.').getLastD "") = c
  hd : hasDictIn K C = true
  ga : findIn K (.ref C) "__getattribute__" = some (some (.builtin "BaseException.__getattribute__"))
  gg : findIn K (.ref C) "__getattr__" = some none
  sb : subIn K (.ref C) (.type "BaseException") = some true
  ca : findIn K (.ref C) "__class__" = some (some (.builtin "object.__class__"))
  sg : specialIn K (.builtin "object.__class__") "__get__" = some (some (.builtin "getset_descriptor.__get__"))
  tk : takesIn K (.builtin "object.__class__") = some true
  ob : mroIn K C (.type "object") = some true
  rp : findIn K (.ref C) "__repr__" = some (some (.builtin "BaseException.__repr__"))
  vl : findIn K (.ref C) "value" = some none

section
variable {X : Cx} {pins : List (Addr × Obj)} {σ : L2.St} {H : Hp} {s : Shared} {a C t dx : Addr} {v : V} {c : Str} {W : Wd}
theorem exc_at (I : Inv X pins σ H s) (h : H a = some (ExH a C t dx)) : ∃ c2 : Value, s.heap.get? a = some (excObj C t (some dx) c2) := by
  have x : ObjOk X.prog X.w H s.heap a (.ext fun h => ∃ c2 : Value, h.get? a = some (PySem.W.excObj C t (some dx) c2)) := I.hok a _ h
  exact x.1
theorem exc_inst (I : Inv X pins σ H s) (h : H a = some (ExH a C t dx)) (hd : H dx = some (.xd [("value", v)])) : ∃ ox od u, InstAt s.heap a ox C (some od) ∧ lookIn "value" od = some (some u) ∧ RelV v u := by
  obtain ⟨c2, e⟩ := exc_at I h
  have hx : ObjOk X.prog X.w H s.heap dx (.xd [("value", v)]) := I.hok dx _ hd
  obtain ⟨mA, hns, hr⟩ := hx
  obtain ⟨od, ho, hl⟩ := lookIn_ns hns
  have hv := hr "value"
  rw [lookup_put, if_pos rfl] at hv
  obtain ⟨u, hu, ru⟩ := RelO.some_of (v := v) (o := mA "value") hv
  exact ⟨_, od, u, ⟨e, rfl, rfl, ho⟩, by rw [hl, hu], ru⟩
/-- e.value -/
theorem pe_exv {e : PySem.Expr} {te : TE} {pos : Pos} (hX : ∀ c C, W.cl c = some C → XIs X.K C c) (he : PE X e te) (hb : attributeBase e "value" X.env (eval e X.env) = eval e X.env) :
    PE X (.Attribute e "value" pos) (fun σ H Q => te σ H fun x H1 => ∃ a c C t dx v, x = .ref a ∧ W.cl c = some C ∧ H1 a = some (ExH a C t dx) ∧ H1 dx = some (.xd [("value", v)]) ∧ Q v H1) := by
  refine ⟨fun pins s σ H Q I h => ?_⟩
  refine attr_of hb (thn (he.run pins s σ H _ I h) fun u s1 ⟨x, H1, I1, rx, a, c, C, t, dx, v, ex, ec, ea, ed, q⟩ => ?_)
  subst ex
  obtain rfl : u = Value.ref a := rx
  have T := hX c C ec
  obtain ⟨ox, od, w, J, l, rw'⟩ := exc_inst I1 ea ed
  exact HandSPX.exc_get I1.kIn J T.ga T.gg T.sb (PySem.W.findObj_own T.hd T.vl rfl l) (handed_of rw') ⟨v, H1, I1.tok _, rw', q⟩
/-- isinstance(e, T), T an own class or ValueError -/
theorem isx_ok (hX : ∀ c C, W.cl c = some C → XIs X.K C c) : CallR X (.builtin "isinstance") (fun xs H Q => ∃ a c C t dx v b, ∃ (y : V) (cv : Value), xs = [.ref a, y] ∧ (∀ u, RelV y u → u = cv) ∧ W.cl c = some C ∧ H a = some (ExH a C t dx) ∧ H dx = some (.xd [("value", v)]) ∧ kitOne X.K (.ref C) cv = some b ∧ Q (.bl b) H) := by
  intro pins s σ H xs us Q I r h
  obtain ⟨a, c, C, t, dx, v, b, y, cv, rfl, hcv, ec, ea, ed, e, q⟩ := h
  cases r with
  | cons rx rr =>
    cases rr with
    | cons rt rr =>
      cases rr
      cases rx
      have z := hcv _ rt
      subst z
      have T := hX c C ec
      obtain ⟨ox, od, w, J, _, _⟩ := exc_inst I ea ed
      obtain ⟨cd, hcd, _⟩ := T.cls
      exact kia_one (kitx_exc (od := some od) (ox := ox) (by rw [hcd] <;> rfl) T.ga T.gg T.sb T.ca T.sg T.tk T.ob) I.kIn J e (fun z => nomatch z) fun tk => ⟨.bl b, H, I.kept (t' := tk) fun _ _ z => z, rfl, q⟩

/-! ### repr -/
theorem bexc_plain : plainId "BaseException.__repr__" = true := by decide +kernel
theorem repr_exc {A : Around} {E Q : Value → Shared → Prop} {h : Heap} {g : Array GenState} {d : Drawn} {tk : Nat} {os : OsState} {u : Value} {p : PyData} {as : List Addr} {c2 : Value} (KX : X.K.In h) (T : XIs X.K C c) (ha : h.get? a = some (excObj C t (some dx) c2)) (hod : ∃ o, h.get? dx = some o) (ht : ∃ o k, h.get? t = some o ∧ o.cls = .type "tuple" ∧ o.data = .seq #[u] k) (r : Reads h u p as) (hsm : p.hasDict = true → sysModules ∉ as) (hg : A.guards = some []) (hu : A.units + 150 < cLine) (hs : p.showable = true) (hdp : p.depth ≤ 100) (hsz : p.shown.length ≤ 1000000) (hc : c.length ≤ 1000)
    (hq : ∀ h' w tk', (∀ b o, h.get? b = some o → h'.get? b = some o) → Q (.str (c ++ ("(" : Str) ++ p.shown ++ (")" : Str)) w) ⟨h', g, d, tk', os⟩) : wpAny (model X.prog X.w) A (call (.builtin "repr") [.ref a]) Q E ⟨h, g, d, tk, os⟩ := by
  obtain ⟨cd, hcd, hnm⟩ := T.cls
  obtain ⟨odx, hodx⟩ := hod
  have I : InstAt h a (excObj C t (some dx) c2) C (some odx) := ⟨ha, rfl, rfl, hodx⟩
  have L0 := I.type (M := model X.prog X.w)
  have L1 := looks_findIn (M := model X.prog X.w) KX T.rp
  have sub : Looks (model X.prog X.w) h (isInstance (.ref a) (.type "BaseException")) true := L0.andThen (looks_subIn KX T.sb)
  refine Calls.call_function_entry PySem.F.kind_repr PySem.F.plain_repr PySem.F.entry_repr (PySem.F.args_repr1 _) ?_
  unfold Builtin.«repr»
  refine wpAny_bind (m := oneArg "repr" _) (wpAny_pure ?_)
  refine wpAny_bind (wpAny_cRoomFor (by show A.units + 1 < cLine; omega) ?_)
  unfold specialOf
  refine wpAny_bind (wpAny_bind (L0.at (L1.at ?_)))
  show wpAny _ _ (if (some (Value.builtin "BaseException.__repr__")).isNone = true then _ else _) _ _ _
  rw [if_neg (by simp)]
  have key : wpAny (model X.prog X.w) A.in1 (call (.builtin "BaseException.__repr__") [.ref a]) (fun r s' => ∃ m w, r = .str m w ∧ Q (.str m w) s') E ⟨h, g, d, tk, os⟩ := by
    refine wpAny_call (codeAny_call_builtin bexc_plain PySem.F.entry_bexc_repr ?_)
    refine @check_slot (model X.prog X.w) _ _ ⟨h, g, d, tk, os⟩ "BaseException.__repr__" "BaseException" "__repr__" (.ref a) [] [] _ (by decide +kernel) (by decide +kernel) sub (PySem.F.args_bexc_repr (.ref a)) ?_
    unfold Builtin.«BaseException.__repr__» Builtin.bexcReprAt
    refine wpAny_bind (wpAny_of_eq (a := ((Value.ref a : Value), ([] : List Value))) (by first | rfl | (simp only [slotArgs]; rfl)) ?_)
    have nmc : wpAny (model X.prog X.w) A.in1.in1 (typeNameOfWhole (.ref a)) (fun n s' => n = cd.name.toString ∧ s' = ⟨h, g, d, tk, os⟩) E ⟨h, g, d, tk, os⟩ := by
      unfold typeNameOfWhole shownTypeOf
      refine wpAny_bind (wpAny_bind (L0.at ?_))
      rw [if_neg (show ¬ ((Value.ref C == Value.type "builtin_function_or_method") = true) from Bool.false_ne_true)]
      refine wpAny_pure ?_
      show wpAny _ _ (classData C >>= fun cd => pure cd.name.toString) _ _ _
      exact wpAny_bind ((looks_clsIn KX hcd).at (wpAny_pure ⟨rfl, rfl⟩))
    refine wpAny_bind (wpAny_mono nmc (fun n s1 hn => ?_) fun _ _ z => z)
    obtain ⟨rfl, rfl⟩ := hn
    obtain ⟨ot, k, hto, htc, htd⟩ := ht
    have args : wpAny (model X.prog X.w) A.in1.in1 (Builtin.BaseException.bexcArgs (.ref a)) (fun r s' => r = (.ref t, [u]) ∧ s' = ⟨h, g, d, tk, os⟩) E ⟨h, g, d, tk, os⟩ := by
      unfold Builtin.BaseException.bexcArgs
      refine wpAny_bind (wpAny_field ha rfl rfl (wpAny_bind (wpAny_seqItems hto htd ?_)))
      exact wpAny_pure ⟨rfl, rfl⟩
    refine wpAny_bind (wpAny_mono args (fun n s1 hn => ?_) fun _ _ z => z)
    obtain ⟨rfl, rfl⟩ := hn
    refine wpAny_bind (wpAny_rule ?_)
    rw [hnm]
    obtain ⟨bs, _, rk⟩ := ReprK.of_reads (prog := X.prog) (w := X.w) r hs hsm (by rw [sizeLine_eq]; omega)
    have l1 : (("(" : Str)).length = 1 := by rw [PySem.ofString_length]; rfl
    have l2 : ((")" : Str)).length = 1 := by rw [PySem.ofString_length]; rfl
    refine wpAny_bind (rk (0 + (c.length + 1)) (by rw [sizeLine_eq]; omega) A.in1.in1 [] E ⟨h, g, d, tk, os⟩ _ hg (fun b _ => Clear.nil b) (by show A.units + 1 + 1 + p.depth < cLine; omega) (fun _ _ z => z) fun h' tk' k => ?_)
    refine wpAny_bind (wpAny_mkStr ?_ (by
      show (c ++ Str.ofString "(" ++ p.shown ++ Str.ofString ")").length ≤ sizeLine
      rw [strLen_append, strLen_append, strLen_append, sizeLine_eq]; omega))
    exact wpAny_pure ⟨_, _, rfl, hq h' _ _ k⟩
  have fin : wpAny (model X.prog X.w) A.in1 (call (.builtin "BaseException.__repr__") ([.ref a] ++ []) >>= fun v => pure (some v)) (fun r s' => ∃ m w, r = some (.str m w) ∧ Q (.str m w) s') E ⟨h, g, d, tk, os⟩ :=
    wpAny_bind (wpAny_mono key (fun v s' ⟨m, w, e, q⟩ => wpAny_pure ⟨m, w, by rw [e], q⟩) fun _ _ z => z)
  have mid : wpAny (model X.prog X.w) A.in1 (callSpecialIfBound? (.ref a) (Str.ofString "__repr__") []) (fun r s' => ∃ m w, r = some (.str m w) ∧ Q (.str m w) s') E ⟨h, g, d, tk, os⟩ := by
    simp only [callSpecialIfBound?, bindSpecialIfBound?]
    unfold specialOf
    refine wpAny_holding (wpAny_bind (wpAny_bind (wpAny_bind (L0.at (L1.at ?_)))))
    simp only [PySem.F.excStr_ValueError.repr.bind]
    refine wpAny_bind (wpAny_askSetting (wpAny_ite ?_))
    split
    · exact wpAny_bind (wpAny_pure (wpAny_pure fin))
    · exact wpAny_tryCatch (wpAny_bind (wpAny_pure (wpAny_pure fin)))
  refine wpAny_bind (wpAny_mono mid (fun r s' hr => ?_) fun _ _ z => z)
  obtain ⟨m, w, rfl, q⟩ := hr
  refine wpAny_bind (wpAny_isInstance (typeIs_str _ _ _) isSubtype_str_str ?_)
  first
    | exact wpAny_pure ⟨_, rfl, q⟩
    | (rw [if_pos rfl]; exact wpAny_pure ⟨_, rfl, q⟩)
    | (simp only [if_true]; exact wpAny_pure ⟨_, rfl, q⟩)
theorem repr_ok (hK : W.K = X.K) (hX : ∀ c C, W.cl c = some C → XIs X.K C c) (hg : X.A.guards = some []) (hu : X.A.units + 200 < cLine) : CallR X (.builtin "repr") (fun xs H Q => rV W .repr xs H Q) := by
  intro pins s σ H xs us Q I r h
  obtain ⟨HF, x, d, d', rfl, sub, ra, e, o⟩ := one_of h
  obtain ⟨z, e1, rfl⟩ := Option.map_eq_some_iff.mp (show d.reprD.map Dv.str = some d' from e)
  have ra := ra.rep sub
  cases r with
  | cons ru rr =>
    cases rr
    have plainCase : ∀ {d : Dv}, (d.lookP.bind fun p => if Dv.shows p then some p.shown else none) = some z → Rep W H x d → wpAny (model X.prog X.w) X.A (call (.builtin "repr") [_]) (EP X pins σ Q) X.xe s := fun {d} e ra => by
      obtain ⟨p, e2, e3⟩ := Option.bind_eq_some_iff.mp e
      obtain ⟨e4, rfl⟩ := if_some e3
      obtain ⟨as, rd, hm⟩ := lookP_reads hK I e2 ra ru
      exact repr_data hg hu I rd hm e4 (out_v o (.str _))
    cases d with
    | exc c v =>
      obtain ⟨p, e2, e3⟩ := Option.bind_eq_some_iff.mp (show (v.lookP.bind fun p => if (Dv.shows p && decide (c.length ≤ 1000) && decide (p.shown.length ≤ 1000000)) = true then some (c ++ ("(" : Str) ++ p.shown ++ (")" : Str)) else none) = some z from e1)
      obtain ⟨e4, rfl⟩ := if_some e3
      simp only [Bool.and_eq_true, decide_eq_true_eq] at e4
      obtain ⟨⟨e5, e6⟩, e7⟩ := e4
      unfold Dv.shows at e5
      simp only [Bool.and_eq_true, decide_eq_true_eq] at e5
      cases ra with
      | @exc a _ C t dx w _ hc h1 h2 h3 rw' =>
        cases ru
        obtain ⟨c2, ha⟩ := exc_at I h1
        obtain ⟨_, its, rv, ot, ho, hcl, n, hd⟩ := I.hok t _ h2
        obtain ⟨mA, ⟨ox, _, _, hox, _⟩, _⟩ := I.hok dx _ h3
        cases rv with
        | cons rv rvr =>
          cases rvr
          obtain ⟨as, rd, hm⟩ := lookP_reads hK I e2 rw' rv
          obtain ⟨hh, g, d, tk, os⟩ := s
          exact repr_exc I.kIn (hX c C hc) ha ⟨_, hox⟩ ⟨ot, n, ho, hcl, hd⟩ rd hm hg (by omega) e5.1.1 e5.2 e7 e6 fun h' w tk' k => ⟨.str _, H, I.kept (t' := tk') k, ⟨w, rfl⟩, out_v o (.str _)⟩
    | non => exact plainCase (d := .non) e1 ra
    | bl b => exact plainCase (d := .bl b) e1 ra
    | int i => exact plainCase (d := .int i) e1 ra
    | str y => exact plainCase (d := .str y) e1 ra
    | tup ys => exact plainCase (d := .tup ys) e1 ra
    | lst ys => exact plainCase (d := .lst ys) e1 ra
    | scr ns => exact plainCase (d := .scr ns) e1 ra
    | dct ks vs => exact plainCase (d := .dct ks vs) e1 ra
end
/-- the own error classes, all of them -/
structure XEnv (P : Program) (K : PySem.W.Frag) (mg : Str → Option Value) (W : Wd) : Prop where
  xis : ∀ c C, W.cl c = some C → XIs K C c
  xcl : ∀ c C, W.cl c = some C → mg c = some (.ref C) ∧ PySem.W.keepIn K (.ref C) = true ∧ ∃ fI D, XDef P K fI D ∧ XCls K fI D C
  xk : ∀ k Ck c Cc, W.cl k = some Ck → W.cl c = some Cc → kitOne K (.ref Ck) (.ref Cc) = some (decide (k = c) || decide (c = ("CreaseError" : Str)))
  xv : ∀ k Ck, W.cl k = some Ck → kitOne K (.ref Ck) (.type "ValueError") = some true
theorem XEnv.none {P : Program} {K : PySem.W.Frag} {mg : Str → Option Value} {W : Wd} (h : ∀ c, W.cl c = .none) : XEnv P K mg W :=
  ⟨fun c C e => (by rw [h c] at e; cases e), fun c C e => (by rw [h c] at e; cases e), fun c C _ _ e => (by rw [h c] at e; cases e), fun c C e => (by rw [h c] at e; cases e)⟩
end CF

set_option Elab.async false
set_option linter.all false
set_option maxRecDepth 100000
namespace CF
open PySem L2

/-! ## is a text of the small language the given Python text? -/
structure CI where
  N : List Str
  sc : Scope
  st : List (Str × NameKind)
  fn : List (Str × List Bool × Bool)
  gl : List (Str × Const)
  xs : List Str
  fr : Bool := false
def eqs (a b : Str) : Bool := decide (a = b)
def nmB (x : Str) : Bool := !(eqs x "__debug__") && !(eqs x "__classdict__") && !(eqs x "__name__")
def visB (c : CI) (x : Str) : Bool := match c.sc.names.lookup x with
  | some .local => true
  | some .cell => true
  | some .free => true
  | _ => false
def glbB (c : CI) (x : Str) : Bool := match c.sc.names.lookup x with
  | some .globalImplicit => true
  | _ => false
/-- x may be stored to -/
def stB (c : CI) (x : Str) : Bool := match c.sc.names.lookup x with
  | some .local => true
  | some .cell => match c.st.lookup x with
    | some .cell => true
    | _ => false
  | _ => false
def locB (c : CI) (x : Str) : Bool := match c.sc.names.lookup x with
  | some .local => true
  | _ => false
def slotB (c : CI) (i : Nat) (x : Str) : Bool := match c.N[i]? with
  | some y => eqs x y
  | none => false
def cstB : Const → Bool
  | .none => true
  | .bool _ => true
  | .int _ => true
  | .str _ => true
  | _ => false
def blkI (c : CI) (scope : Scope) : CI := { c with sc := relS scope c.sc, st := scope.names }
def ownP (c : CI) (ow : List Nat) : List (Str × Nat) := ow.map fun i => (c.N.getD i Str.empty, i)
def biName : Pr → Option Str
  | .len => some "len"
  | .int => some "int"
  | .repr => some "repr"
  | .abs => some "abs"
  | .sum => some "sum"
  | .all => some "all"
  | .any => some "any"
  | .list => some "list"
  | .tuple => some "tuple"
  | .min2 => some "min"
  | .max2 => some "max"
  | _ => none
def isE : Op → Bool
  | .e _ => true
  | .o _ => false
/-- which arguments are lent -/
def brOf : Ops → List Bool
  | .nil => []
  | .cons (.o _) as => true :: brOf as
  | .cons (.e _) as => false :: brOf as
def tgSlots : Tg → List Nat
  | .n i => [i]
  | .two a b => tgSlots a ++ tgSlots b
  | .three a b c => tgSlots a ++ (tgSlots b ++ tgSlots c)
  | .four a b c d => tgSlots a ++ (tgSlots b ++ (tgSlots c ++ tgSlots d))
/-- one lent argument at most -/
def oneLent : List Bool → Bool
  | [] => true
  | true :: r => r.all (!·)
  | false :: r => oneLent r
/-- an operand's check: is it an expression (not a slot's own list); the check -/
structure OC where
  isE : Bool
  ck : PySem.Expr → Bool
def notSlice : PySem.Expr → Bool
  | .Slice _ _ _ _ => false
  | _ => true
def allCk : List OC → List PySem.Expr → Bool
  | [], [] => true
  | a :: as, x :: xs => a.ck x && allCk as xs
  | _, _ => false
def ckBin (p : Pr) (fs : List OC) (o : Operator) (x y : PySem.Expr) : Bool := match p, fs with
  | .bin o', [a, b] => decide (o' = o) && a.ck x && b.ck y
  | _, _ => false
def ckCmp (p : Pr) (fs : List OC) (o : CmpOp) (x y : PySem.Expr) : Bool := match p, fs with
  | .cmp o', [a, b] => decide (o' = o) && !(behindInMarks o y) && a.ck x && b.ck y
  | .isN n, [a] => decide (o = if n then .IsNot else .Is) && (match y with | .Constant .none _ _ => true | _ => false) && a.isE && a.ck x
  | _, _ => false
def ckUn (p : Pr) (fs : List OC) (o : UnaryOp) (x : PySem.Expr) : Bool := match p, fs with
  | .neg, [a] => decide (o = .USub) && a.ck x
  | _, _ => false
def ckTup (p : Pr) (fs : List OC) (es : List PySem.Expr) : Bool := decide (p = .tup) && fs.all (·.isE) && allCk fs es
def ckLst (p : Pr) (fs : List OC) (es : List PySem.Expr) : Bool := decide (p = .lst) && fs.all (·.isE) && allCk fs es
def ckSub (p : Pr) (fs : List OC) (x y : PySem.Expr) : Bool := match p, fs with
  | .ix, [a, b] => notSlice y && a.ck x && b.isE && b.ck y
  | .sl false false, [a] => (match y with | .Slice none none none _ => true | _ => false) && a.ck x
  | .sl true false, [a, b] => (match y with | .Slice (some l) none none _ => b.ck l | _ => false) && a.ck x && b.isE
  | .sl false true, [a, b] => (match y with | .Slice none (some h) none _ => b.ck h | _ => false) && a.ck x && b.isE
  | .sl true true, [a, b, d] => (match y with | .Slice (some l) (some h) none _ => b.ck l && d.ck h | _ => false) && a.ck x && b.isE && d.isE
  | _, _ => false
def ckAttr (p : Pr) (fs : List OC) (n : Str) (x : PySem.Expr) : Bool := match p, fs with
  | .attr, [a] => eqs n "value" && (match x with | .Name _ _ => true | _ => false) && a.isE && a.ck x
  | _, _ => false
/-- range(x), range(x, y) as an argument -/
def ckRng (c : CI) (p : Pr) (fs : List OC) (e : PySem.Expr) : Bool := match p, fs with
  | .rngL1, [a] => (match e with | .Call (.Name g _) [x] [] _ => eqs g "range" && glbB c g && a.ck x | _ => false) && a.isE
  | .rngL2, [a, b] => (match e with | .Call (.Name g _) [x, y] [] _ => eqs g "range" && glbB c g && a.ck x && b.ck y | _ => false) && a.isE && b.isE
  | _, _ => false
def ckIsi (c : CI) (p : Pr) (fs : List OC) (x : PySem.Expr) (n : Str) : Bool := match p, fs with
  | .isi t, [a] => eqs n (Str.ofString (tyName t)) && glbB c n && a.isE && a.ck x
  | .isc k, [a] => eqs n k && decide (k ∈ c.xs) && glbB c n && nmB n && a.isE && a.ck x
  | .isv k, [a] => eqs n (Str.ofString k) && decide (k = "ValueError") && glbB c n && a.isE && a.ck x
  | _, _ => false
def ckMk (c : CI) (p : Pr) (fs : List OC) (f : Str) (x : PySem.Expr) : Bool := match p, fs with
  | .mk k, [a] => eqs f k && decide (k ∈ c.xs) && glbB c f && nmB f && a.isE && a.ck x
  | _, _ => false
def ckBi (c : CI) (p : Pr) (fs : List OC) (f : Str) (xs : List PySem.Expr) : Bool := (match biName p with | some b => eqs f b | none => false) && glbB c f && nmB f && allCk fs xs
def ckCall (c : CI) (p : Pr) (fs : List OC) (f : Str) (xs : List PySem.Expr) : Bool := match p with
  | .rngL1 => eqs f "list" && glbB c f && (match xs with | [e] => ckRng c p fs e | _ => false)
  | .rngL2 => eqs f "list" && glbB c f && (match xs with | [e] => ckRng c p fs e | _ => false)
  | .isi _ => eqs f "isinstance" && glbB c f && (match xs with | [x, .Name n _] => ckIsi c p fs x n | _ => false)
  | .isc _ => eqs f "isinstance" && glbB c f && (match xs with | [x, .Name n _] => ckIsi c p fs x n | _ => false)
  | .isv _ => eqs f "isinstance" && glbB c f && (match xs with | [x, .Name n _] => ckIsi c p fs x n | _ => false)
  | .mk _ => (match xs with | [x] => ckMk c p fs f x | _ => false)
  | _ => ckBi c p fs f xs
def ckDct (p : Pr) (fs : List OC) (ks : List (Option PySem.Expr)) (vs : List PySem.Expr) : Bool := match p, fs with
  | .dct0, [] => (match ks, vs with | [], [] => true | _, _ => false)
  | .dct1 k, [a] => (match ks, vs with | [some (.Constant (.str k') _ _)], [v] => eqs k k' && a.isE && a.ck v | _, _ => false)
  | _, _ => false
def chkPr (c : CI) (p : Pr) (fs : List OC) (e : PySem.Expr) : Bool := match e with
  | .BinOp x o y _ => ckBin p fs o x y
  | .Compare x [o] [y] _ => ckCmp p fs o x y
  | .UnaryOp o x _ => ckUn p fs o x
  | .Tuple es _ _ => ckTup p fs es
  | .List es _ => ckLst p fs es
  | .Subscript x y _ => ckSub p fs x y
  | .Attribute x n _ => ckAttr p fs n x
  | .Call (.Name f _) xs [] _ => (match xs with | [] => false | _ => true) && ckCall c p fs f xs
  | .Dict ks vs _ => ckDct p fs ks vs
  | _ => false
def ckFn (c : CI) (g : Nat) (br : List Bool) (fr : Bool) (f : Str) : Bool := (match c.fn[g]? with | some n => eqs f n.1 && decide (br = n.2.1) && decide (fr = n.2.2) | none => false) && glbB c f && nmB f
def isFresh : Ex → Bool
  | .pr .lst _ => true
  | .pr .list _ => true
  | .pr .rngL1 _ => true
  | .pr .rngL2 _ => true
  | .pr (.bin .Add) _ => true
  | .pr (.bin .Mult) _ => true
  | .pr (.sl _ _) _ => true
  | .comp _ _ _ _ _ => true
  | .callF _ _ => true
  | _ => false
mutual
def chkE (c : CI) (ir : Ex) (e : PySem.Expr) : Bool := match ir with
  | .var i => (match e with | .Name x _ => slotB c i x && visB c x && nmB x | _ => false)
  | .cst k => (match e with | .Constant k' _ _ => decide (k = k') && cstB k | _ => false)
  | .glb x k => (match e with | .Name y _ => eqs x y && glbB c y && nmB y && decide (c.gl.lookup x = some k) && cstB k | _ => false)
  | .pr p as => chkPr c p (chkFs c as) e
  | .and a b => (match e with
    | .BoolOp .And [x, y] _ => chkE c a x && chkE c b y
    | .BoolOp .And (x :: y :: z :: r) p => chkE c a x && chkE c b (.BoolOp .And (y :: z :: r) p)
    | _ => false)
  | .or a b => (match e with
    | .BoolOp .Or [x, y] _ => chkE c a x && chkE c b y
    | .BoolOp .Or (x :: y :: z :: r) p => chkE c a x && chkE c b (.BoolOp .Or (y :: z :: r) p)
    | _ => false)
  | .not a => (match e with | .UnaryOp .Not x _ => chkE c a x | _ => false)
  | .ite t a b => (match e with | .IfExp x y z _ => chkE c t x && chkE c a y && chkE c b z | _ => false)
  | .chain o1 o2 a b d => (match e with | .Compare x [p1, p2] [y, z] _ => !(lastMarks [p1, p2] [y, z]) && decide (o1 = p1) && decide (o2 = p2) && chkO c a x && chkO c b y && chkO c d z && isE a && isE b && isE d | _ => false)
  | .call g as => (match e with | .Call (.Name f _) (x :: xs) [] _ => ckFn c g (brOf as) false f && allCk (chkFs c as) (x :: xs) | _ => false)
  | .callK _ _ _ _ => false
  | .callF g as => (match e with | .Call (.Name f _) (x :: xs) [] _ => ckFn c g (brOf as) true f && allCk (chkFs c as) (x :: xs) | _ => false)
  | .callT g a => (match e with | .Call (.Name f _) [x] [] _ => ckFn c g [true] false f && isFresh a && chkE c a x | _ => false)
  | .comp elt tg it ifs ow => (match e with
    | .ListComp e [⟨t, i, fs, 0⟩] scope _ => decide (fs.length ≤ 1) && (tgSlots tg).all (ow.contains ·) && chkI c it i && blkC c.N c.sc scope (ownP c ow) && chkG (blkI c scope) tg t && allCk (chkTs (blkI c scope) ifs) fs && chkE (blkI c scope) elt e
    | _ => false)
def chkO (c : CI) (a : Op) (e : PySem.Expr) : Bool := match a with
  | .o i => (match e with | .Name x _ => slotB c i x && visB c x && nmB x | _ => false)
  | .e x => chkE c x e
def chkFs (c : CI) (as : Ops) : List OC := match as with
  | .nil => []
  | .cons a as => ⟨isE a, chkO c a⟩ :: chkFs c as
def chkTs (c : CI) (ts : List Ex) : List OC := match ts with
  | [] => []
  | a :: as => ⟨true, chkE c a⟩ :: chkTs c as
def chkI (c : CI) (it : It) (e : PySem.Expr) : Bool := match it with
  | .seq (.e a) => chkE c a e && (match e with | .Set _ _ _ => false | _ => true)
  | .seq (.o _) => false
  | .rng1 a => (match e with | .Call (.Name f _) [x] [] _ => eqs f "range" && glbB c f && chkE c a x | _ => false)
  | .rng2 a b => (match e with | .Call (.Name f _) [x, y] [] _ => eqs f "range" && glbB c f && chkE c a x && chkE c b y | _ => false)
  | .zip _ _ => false
  | .enum _ => false
def chkG (c : CI) (t : Tg) (e : PySem.Expr) : Bool := match t with
  | .n i => (match e with | .Name x _ => slotB c i x && stB c x | _ => false)
  | .two a b => (match e with | .Tuple [x, y] _ _ => chkG c a x && chkG c b y | _ => false)
  | .three a b d => (match e with | .Tuple [x, y, z] _ _ => chkG c a x && chkG c b y && chkG c d z | _ => false)
  | .four a b d f => (match e with | .Tuple [x, y, z, w] _ _ => chkG c a x && chkG c b y && chkG c d z && chkG c f w | _ => false)
end
/-- not a comprehension -/
def noComp : PySem.Expr → Bool
  | .ListComp _ _ _ _ => false
  | .SetComp _ _ _ _ => false
  | .DictComp _ _ _ _ _ => false
  | _ => true
def noTup : PySem.Expr → Bool
  | .Tuple _ _ _ => false
  | _ => true
mutual
def chkS (c : CI) (s : Sm) (st : PySem.Stmt) : Bool := match s with
  | .set tg e => (match st with
    | .Assign [t] v _ => chkE c e v && chkG c tg t && (match t with | .Name _ _ => true | .Tuple _ _ _ => noTup v | _ => false)
    | _ => false)
  | .own i e => (match st with
    | .Assign [.Name x _] v _ => slotB c i x && stB c x && isFresh e && chkE c e v
    | _ => false)
  | .par _ _ => false
  | .aug i o e => (match st with
    | .AugAssign (.Name x _) o' v _ => slotB c i x && stB c x && visB c x && nmB x && decide (o = o') && chkE c e v
    | _ => false)
  | .put i k e => (match st with
    | .Assign [.Subscript (.Name x _) y _] v _ => slotB c i x && visB c x && nmB x && notSlice y && noTup v && noComp v && chkE c k y && chkE c e v
    | _ => false)
  | .app i e => (match st with
    | .Expr (.Call (.Attribute (.Name x _) m ap) [v] [] cp) _ => slotB c i x && visB c x && nmB x && eqs m "append" && decide (ap.endLine = cp.line) && chkE c e v
    | _ => false)
  | .ext _ _ => false
  | .ex e => (match st with | .Expr v _ => noComp v && chkE c e v | _ => false)
  | .ret e => (match st with | .Return (some v) _ => (!c.fr || isFresh e) && chkE c e v | _ => false)
  | .retN => (match st with | .Return none _ => !c.fr | _ => false)
  | .ite t a b => (match st with | .If x y z _ => chkE c t x && chkSs c a y && chkSs c b z | _ => false)
  | .for_ tg it b => (match st with | .For t i y [] _ => chkI c it i && chkG c tg t && chkSs c b y | _ => false)
  | .while_ t b => (match st with | .While x y [] _ => chkE c t x && chkSs c b y | _ => false)
  | .brk => (match st with | .Break _ => true | _ => false)
  | .cont => (match st with | .Continue _ => true | _ => false)
  | .pass => (match st with | .Pass _ => true | _ => false)
  | .never => true
def chkSs (c : CI) (ss : Sms) (sts : List PySem.Stmt) : Bool := match ss with
  | .nil => (match sts with | [] => true | _ => false)
  | .cons s ss => (match sts with | x :: xs => chkS c s x && chkSs c ss xs | [] => false)
end
end CF

set_option Elab.async false
set_option linter.all false
set_option maxRecDepth 100000
namespace CF
open PySem PySem.Spec PyProof.Rows L2

/-! ## what a def promises of data -/
def ArgOks (W : Wd) (HF H : Hp) : List Bool → List V → List Dv → Prop
  | [], [], [] => True
  | true :: r, v :: vs, d :: ds => (∃ p us xs, v = .ref p ∧ d = .lst xs ∧ H p = some (.lst us) ∧ Reps W HF us xs ∧ HF p = none) ∧ ArgOks W HF H r vs ds
  | false :: r, v :: vs, d :: ds => Rep W HF v d ∧ ArgOks W HF H r vs ds
  | _, _, _ => False
def lentA : List Bool → List V → Option Addr
  | true :: _, .ref p :: _ => some p
  | false :: r, _ :: vs => lentA r vs
  | _, _ => none
def BackOk (W : Wd) (HF H : Hp) : Option Addr → List (List Dv) → Prop
  | some p, [ys] => ∃ us, H p = some (.lst us) ∧ Reps W HF us ys ∧ HF p = none
  | none, [] => True
  | _, _ => False
def spF (W : Wd) (g : List Dv → Option (Dv × List (List Dv))) (br : List Bool) : Sp := fun vs H Q _ => ∃ HF ds d outs, Same HF H ∧ ArgOks W HF H br vs ds ∧ g ds = some (d, outs) ∧
  ∀ v H' HF', Same HF HF' → Same HF' H' → (∀ a o, H a = some o → lentA br vs ≠ some a → H' a = some o) → (∀ a o, HF' a = some o → HF a = some o ∨ H a = none) → Rep W HF' v d → BackOk W HF' H' (lentA br vs) outs → Q v H'

/-- .. that gives a new list -/
def spG (W : Wd) (g : List Dv → Option (Dv × List (List Dv))) (br : List Bool) : Sp := fun vs H Q _ => ∃ HF ds ys outs, Same HF H ∧ ArgOks W HF H br vs ds ∧ g ds = some (.lst ys, outs) ∧
  ∀ q us H' HF', Same HF HF' → Same HF' H' → (∀ a o, H a = some o → lentA br vs ≠ some a → H' a = some o) → (∀ a o, HF' a = some o → HF a = some o ∨ H a = none) → H q = none → H' q = some (.lst us) → Reps W HF' us ys → HF' q = none → BackOk W HF' H' (lentA br vs) outs → Q (.ref q) H'
def spM (m : Bool) (W : Wd) (g : List Dv → Option (Dv × List (List Dv))) (br : List Bool) : Sp := if m then spG W g br else spF W g br

def cstV : Const → V
  | .bool b => .bl b
  | .int i => .int i
  | .str s => .str s
  | _ => .non
def bis : List Str := ["len", "int", "repr", "abs", "sum", "all", "any", "list", "tuple", "min", "max", "range", "isinstance", "str", "bool", "dict", "ValueError", "super", "set", "sorted", "zip", "enumerate"]
structure CallOk (X : Cx) (W : Wd) (g : List Dv → Option (Dv × List (List Dv))) (n : Str) (br : List Bool) (m : Bool) : Prop where
  ex : ∃ (k : Nat) (f : Addr) (fd : FuncData) (ps : List Str), X.mg n = some (.ref f) ∧ PySem.W.keepIn X.K (.ref f) = true ∧ Binds X.K fd ps [] ∧ FnG X.prog X.w X.K X.mg X.base CX0 k f fd ps (spM m W g br) ∧ RoomG k X.A
  one : oneLent br = true
structure CtxOk (X : Cx) (c : CI) (Γ : Tab) (W : Wd) : Prop where
  N : X.N = c.N
  nd : c.N.Nodup
  sc : X.env.scope = c.sc
  K : W.K = X.K
  calm : X.calm = true
  hu : X.A.units + 200 < cLine
  hg : X.A.guards = some []
  stn : ∀ x, c.st.lookup x = some .cell → X.fn x = true
  dp : X.A.depth + 1 < recursionLimit
  x : XEnv X.prog X.K X.mg W
  xs : ∀ k ∈ c.xs, (W.cl k).isSome = true
  bi : ∀ x ∈ bis, X.mg x = none
  gl : ∀ x k, c.gl.lookup x = some k → ∃ u, X.mg x = some u ∧ RelV (cstV k) u
  fns : ∀ g n, c.fn[g]? = some n → CallOk X W (Γ g) n.1 n.2.1 n.2.2

theorem eqs_eq {a b : Str} (h : eqs a b = true) : a = b := of_decide_eq_true h
theorem nmB_dbg {x : Str} (h : nmB x = true) : (x == ("__debug__" : Str)) = false ∧ (x == ("__classdict__" : Str)) = false ∧ x ≠ "__name__" := by
  unfold nmB at h
  simp only [Bool.and_eq_true, Bool.not_eq_true'] at h
  refine ⟨beq_eq_false_iff_ne.mpr (of_decide_eq_false h.1.1), beq_eq_false_iff_ne.mpr (of_decide_eq_false h.1.2), of_decide_eq_false h.2⟩
section
variable {X : Cx} {c : CI} {Γ : Tab} {W : Wd}
theorem CtxOk.vis (C : CtxOk X c Γ W) {x : Str} (h : visB c x = true) : Vis X.env.scope x := by
  unfold visB at h
  rw [← C.sc] at h
  split at h
  · rename_i e
    exact .inl e
  · rename_i e
    exact .inr (.inl e)
  · rename_i e
    exact .inr (.inr e)
  · cases h
theorem CtxOk.glb (C : CtxOk X c Γ W) {x : Str} (h : glbB c x = true) : Gl X x := by
  unfold glbB at h
  rw [← C.sc] at h
  split at h
  · rename_i e
    exact e
  · cases h
theorem CtxOk.slot (C : CtxOk X c Γ W) {x : Str} {i : Nat} (h : slotB c i x = true) : X.N[i]? = some x := by
  unfold slotB at h
  rw [← C.N] at h
  split at h
  · rename_i y e
    rw [e, eqs_eq h]
  · cases h
theorem CtxOk.sto (C : CtxOk X c Γ W) {x : Str} (h : stB c x = true) : Loc X.env.scope x ∧ (X.fn x = true ∨ X.env.scope.names.lookup x = some .local) := by
  unfold stB at h
  rw [← C.sc] at h
  split at h
  · rename_i e
    exact ⟨.inl e, .inr e⟩
  · rename_i e
    split at h
    · rename_i e2
      exact ⟨.inr e, .inl (C.stn x e2)⟩
    · cases h
  · cases h
theorem CtxOk.blk (C : CtxOk X c Γ W) (s : Shared) (H : Hp) (scope : Scope) (C' : Addr) (cl : List (Str × Addr)) (fp : List Addr) : CtxOk (X.blk s H scope (compEnvC scope cl C' X.env) fp) (blkI c scope) Γ W where
  N := C.N
  nd := C.nd
  sc := by
    show relS scope X.env.scope = relS scope c.sc
    rw [C.sc]
  K := C.K
  calm := C.calm
  hu := C.hu
  hg := C.hg
  stn := fun x h => by
    show (scope.names.lookup x == some .cell) = true
    have h' : scope.names.lookup x = some .cell := h
    rw [h']
    rfl
  dp := C.dp
  x := C.x
  xs := C.xs
  bi := C.bi
  gl := C.gl
  fns := fun g n e => ⟨(C.fns g n e).ex, (C.fns g n e).one⟩
end

/-! ### what is to be shown of a text's parts -/
def starOk (e : Expr) : Prop := ∀ (es : List Expr) (env : PySem.Env), starEach (e :: es) env = (false, eval e env) :: starEach es env
/-- an expression -/
structure SE (F : Fx) (Γ : Tab) (x : Ex) : Prop where
  pe : ∀ (c : CI) (X : Cx) (e : Expr), chkE c x e = true → CtxOk X c Γ F.W → PE X e (tE F Γ x)
  pt : ∀ (c : CI) (X : Cx) (e : Expr), chkE c x e = true → CtxOk X c Γ F.W → PT X e (tT F Γ x)
  pw : ∀ (c : CI) (X : Cx) (op : BoolOp) (es : List Expr) (p : Pos), chkE c x (.BoolOp op es p) = true → CtxOk X c Γ F.W → PW X (.BoolOp op es p) (tT F Γ x)
  pf : ∀ (c : CI) (X : Cx) (e : Expr), chkE c x e = true → CtxOk X c Γ F.W → isFresh x = true → PE X e (tF F Γ x)
def SO (F : Fx) (Γ : Tab) (a : Op) : Prop := ∀ (c : CI) (X : Cx) (e : Expr), chkO c a e = true → CtxOk X c Γ F.W → PE X e (tO F Γ a)
def AllO (P : Op → Prop) : Ops → Prop
  | .nil => True
  | .cons a as => P a ∧ AllO P as

theorem chkPr_star {c : CI} {p : Pr} {fs : List OC} {v : Expr} {pos : Pos} : chkPr c p fs (.Starred v pos) = false := rfl
theorem chkE_star {c : CI} {x : Ex} {e : Expr} (h : chkE c x e = true) : starOk e := by
  cases e with
  | Starred v pos =>
    exfalso
    cases x <;> first | cases h | (rw [chkE] at h; cases h)
  | _ => exact fun _ _ => rfl
theorem chkO_star {c : CI} {a : Op} {e : Expr} (h : chkO c a e = true) : starOk e := by
  cases a with
  | o i =>
    cases e with
    | Starred v pos => 
      unfold chkO at h
      cases h
    | _ => exact fun _ _ => rfl
  | e x =>
    rw [chkO] at h
    exact chkE_star h
theorem chkFs_cons {c : CI} {as : Ops} {f : OC} {fs : List OC} (h : chkFs c as = f :: fs) : ∃ a r, as = .cons a r ∧ f = ⟨isE a, chkO c a⟩ ∧ chkFs c r = fs := by
  cases as with
  | nil =>
    rw [chkFs] at h
    cases h
  | cons a r =>
    rw [chkFs] at h
    cases h
    exact ⟨a, r, rfl, rfl, rfl⟩
theorem chkFs_nil {c : CI} {as : Ops} (h : chkFs c as = []) : as = .nil := by
  cases as with
  | nil => rfl
  | cons a r =>
    rw [chkFs] at h
    cases h
theorem chkFs_one {c : CI} {as : Ops} {f : OC} (h : chkFs c as = [f]) : ∃ a, as = .cons a .nil ∧ f = ⟨isE a, chkO c a⟩ := by
  obtain ⟨a, r, rfl, rfl, h2⟩ := chkFs_cons h
  obtain rfl := chkFs_nil h2
  exact ⟨a, rfl, rfl⟩
theorem chkFs_two {c : CI} {as : Ops} {f g : OC} (h : chkFs c as = [f, g]) : ∃ a b, as = .cons a (.cons b .nil) ∧ f = ⟨isE a, chkO c a⟩ ∧ g = ⟨isE b, chkO c b⟩ := by
  obtain ⟨a, r, rfl, rfl, h2⟩ := chkFs_cons h
  obtain ⟨b, rfl, rfl⟩ := chkFs_one h2
  exact ⟨a, b, rfl, rfl, rfl⟩
theorem chkFs_three {c : CI} {as : Ops} {f g k : OC} (h : chkFs c as = [f, g, k]) : ∃ a b d, as = .cons a (.cons b (.cons d .nil)) ∧ f = ⟨isE a, chkO c a⟩ ∧ g = ⟨isE b, chkO c b⟩ ∧ k = ⟨isE d, chkO c d⟩ := by
  obtain ⟨a, r, rfl, rfl, h2⟩ := chkFs_cons h
  obtain ⟨b, d, rfl, rfl, rfl⟩ := chkFs_two h2
  exact ⟨a, b, d, rfl, rfl, rfl, rfl⟩
theorem allCk_star {c : CI} : ∀ {as : Ops} {es : List Expr}, allCk (chkFs c as) es = true → ∀ e ∈ es, starOk e
  | .nil, [], _, _, h => (List.not_mem_nil h).elim
  | .cons a as, x :: xs, h, e, he => by
    rw [chkFs, allCk, Bool.and_eq_true] at h
    rcases List.mem_cons.mp he with rfl | he
    · exact chkO_star h.1
    · exact allCk_star h.2 e he
  | .nil, _ :: _, h, _, _ => by
    rw [chkFs] at h
    cases h
  | .cons _ _, [], h, _, _ => by
    rw [chkFs] at h
    cases h
theorem any_back {pos : Pos} {env : PySem.Env} : ∀ {es : List Expr}, (∀ e ∈ es, starOk e) → (backTo pos (starEach es env)).any (·.1) = false
  | [], _ => rfl
  | e :: es, h => by
    rw [h e List.mem_cons_self es env]
    show (false || (backTo pos (starEach es env)).any (·.1)) = false
    rw [any_back fun x hx => h x (List.mem_cons_of_mem _ hx)]
    rfl
section
variable {F : Fx} {Γ : Tab} {c : CI} {X : Cx}
/-- an argument list -/
theorem pa_ok (C : CtxOk X c Γ F.W) : ∀ {as : Ops} {es : List Expr}, AllO (SO F Γ) as → allCk (chkFs c as) es = true → PA X es (tOs F Γ as)
  | .nil, [], _, _ => CF.PA.weaken pa_nil fun _ _ _ h => tOs_nil h
  | .cons a as, x :: xs, hs, h => by
    rw [chkFs, allCk, Bool.and_eq_true] at h
    exact CF.PA.weaken (pa_cons (hs.1 c X x h.1 C) (pa_ok C hs.2 h.2) (chkO_star h.1 xs X.env)) fun _ _ _ h => tOs_cons h
  | .nil, _ :: _, _, h => by
    rw [chkFs] at h
    cases h
  | .cons _ _, [], _, h => by
    rw [chkFs] at h
    cases h
end
end CF

set_option Elab.async false
set_option linter.all false
set_option maxRecDepth 100000
namespace CF
open PySem PySem.Spec PyProof.Rows L2

/-! ## plain operations -/
def AllE : Ops → Prop
  | .nil => True
  | .cons (.e _) as => AllE as
  | .cons (.o _) _ => False
theorem allE_of {c : CI} : ∀ {as : Ops}, ((chkFs c as).all fun f => f.isE) = true → AllE as
  | .nil, _ => trivial
  | .cons a as, h => by
    rw [chkFs, List.all_cons, Bool.and_eq_true] at h
    cases a with
    | e x =>
      show AllE as
      exact allE_of h.2
    | o i => cases h.1
theorem isE_of {a : Op} (h : isE a = true) : ∃ x, a = .e x := by
  cases a with
  | e x => exact ⟨x, rfl⟩
  | o i => cases h
section
variable {F : Fx} {Γ : Tab} {HF : Hp} {σ : L2.St} {H : Hp} {η : CF.Env}
theorem OOks.reps (S : SR F HF σ H η) : ∀ {as : Ops} {vs : List V} {ds ds' : List Dv}, AllE as → OOks F HF σ as vs ds → finOs as ds η = some ds' → Reps F.W HF vs ds'
  | .nil, [], [], ds', _, _, e => by
    cases e
    exact .nil
  | .cons a as, v :: vs, d :: ds, ds', ha, ⟨h, r⟩, e => by
    unfold finOs at e
    split at e
    · rename_i x xs e1 e2
      cases e
      cases a with
      | e y =>
        cases e1
        exact .cons h (OOks.reps S (show AllE as from ha) r e2)
      | o i => exact (show False from ha).elim
    · cases e
  | .nil, _ :: _, _, _, _, h, _ => h.elim
  | .nil, [], _ :: _, _, _, h, _ => h.elim
  | .cons _ _, [], _, _, _, h, _ => h.elim
  | .cons _ _, _ :: _, [], _, _, h, _ => h.elim
def rE (W : Wd) (p : Pr) (xs : List V) (H : Hp) (Q : VK) : Prop := ∃ HF ds d, Same HF H ∧ Reps W HF xs ds ∧ prD p ds = some d ∧ Out W HF H d Q
def rEN (W : Wd) (p : Pr) (xs : List V) (H : Hp) (Q : VK) : Prop := ∃ HF ds ys, Same HF H ∧ Reps W HF xs ds ∧ prD p ds = some (.lst ys) ∧ ∀ q vs, H q = none → Reps W HF vs ys → Q (.ref q) (upd H q (.lst vs))
theorem tE_manyE {p : Pr} {as : Ops} {Q : VK} (ha : AllE as) (h : tE F Γ (.pr p as) σ H Q) : tOs F Γ as σ H fun xs H1 => rE F.W p xs H1 Q := by
  obtain ⟨HF, η, d, η', S, e, k⟩ := h
  rw [evE] at e
  split at e
  · cases e
  · rename_i ds η1 e1
    split at e
    · cases e
    · rename_i ds' e2
      obtain ⟨d', e3, e4⟩ := Option.map_eq_some_iff.mp e
      cases e4
      exact ⟨HF, η, ds, _, S, e1, fun vs H' HF' S' s h => ⟨HF', ds', _, S'.sub, h.reps S' ha e2, e3, out_of S' fun v H2 HF2 S2 s2 r => k v H2 HF2 S2 (s.trans s2) r⟩⟩
theorem tF_manyE {p : Pr} {as : Ops} {Q : VK} (ha : AllE as) (h : tF F Γ (.pr p as) σ H Q) : tOs F Γ as σ H fun xs H1 => rEN F.W p xs H1 Q := by
  obtain ⟨HF, η, d, η', S, e, k⟩ := h
  rw [evE] at e
  split at e
  · cases e
  · rename_i ds η1 e1
    split at e
    · cases e
    · rename_i ds' e2
      obtain ⟨d', e3, e4⟩ := Option.map_eq_some_iff.mp e
      cases e4
      exact ⟨HF, η, ds, _, S, e1, fun vs H' HF' S' s h => ⟨HF', ds', _, S'.sub, h.reps S' ha e2, e3, fresh_of S' fun q vs H2 HF2 S2 s2 z => k q vs H2 HF2 S2 (s.trans s2) (s.non z)⟩⟩
theorem tT_tE {x : Ex} {Q : Bool → Hp → Prop} (h : tT F Γ x σ H Q) : tE F Γ x σ H fun v H1 => ∃ c, v = .bl c ∧ Q c H1 := by
  obtain ⟨HF, η, b, η', S, e, k⟩ := h
  refine ⟨HF, η, _, η', S, e, fun v H' HF' S' s r => ?_⟩
  cases r
  exact ⟨b, rfl, k H' HF' S' s⟩
theorem tE_three {p : Pr} {a b d : Op} {Q : VK} (h : tE F Γ (.pr p (.cons a (.cons b (.cons d .nil)))) σ H Q) : tO F Γ a σ H fun x H1 => tO F Γ b σ H1 fun y H2 => tO F Γ d σ H2 fun z H3 => rV F.W p [x, y, z] H3 Q :=
  tO_mono (tOs_cons (tE_many h)) fun _ _ z => tO_mono (tOs_cons z) fun _ _ z => tO_mono (tOs_cons z) fun _ _ z => tOs_nil z
theorem tF_three {p : Pr} {a b d : Op} {Q : VK} (h : tF F Γ (.pr p (.cons a (.cons b (.cons d .nil)))) σ H Q) : tO F Γ a σ H fun x H1 => tO F Γ b σ H1 fun y H2 => tO F Γ d σ H2 fun z H3 => rN F.W p [x, y, z] H3 Q :=
  tO_mono (tOs_cons (tF_many h)) fun _ _ z => tO_mono (tOs_cons z) fun _ _ z => tO_mono (tOs_cons z) fun _ _ z => tOs_nil z
end
theorem Reps.int1 {W : Wd} {H : Hp} {v : V} {d : Dv} {i : Int} (e : asInt d = some i) {HF : Hp} (r : RepL W HF H v d) : v = .int i := by
  cases d <;> cases e
  exact r.int_of
section
variable {W : Wd} {H : Hp} {Q : VK} {x y z : V}
theorem sl_00 (h : rV W (.sl false false) [x] H Q) : rS W x none none H Q := by
  obtain ⟨HF, a, d, sub, r, e, o⟩ := rV_one h
  exact ⟨HF, a, d, sub, r, e, o⟩
theorem sl_00N (h : rN W (.sl false false) [x] H Q) : rSN W x none none H Q := by
  obtain ⟨HF, a, d, sub, r, e, o⟩ := rN_one h
  exact ⟨HF, a, d, sub, r, e, o⟩
theorem sl_10 (h : rV W (.sl true false) [x, y] H Q) : ∃ i, y = .int i ∧ rS W x (some i) none H Q := by
  obtain ⟨HF, a, b, d, sub, r, r2, e, o⟩ := rV_two h
  obtain ⟨i, e1, e2⟩ := Option.bind_eq_some_iff.mp (show ((asInt b).bind fun i => slD a (some i) none) = some d from e)
  exact ⟨i, Reps.int1 e1 r2, HF, a, d, sub, r, e2, o⟩
theorem sl_10N (h : rN W (.sl true false) [x, y] H Q) : ∃ i, y = .int i ∧ rSN W x (some i) none H Q := by
  obtain ⟨HF, a, b, d, sub, r, r2, e, o⟩ := rN_two h
  obtain ⟨i, e1, e2⟩ := Option.bind_eq_some_iff.mp (show ((asInt b).bind fun i => slD a (some i) none) = some _ from e)
  exact ⟨i, Reps.int1 e1 r2, HF, a, d, sub, r, e2, o⟩
theorem sl_01 (h : rV W (.sl false true) [x, y] H Q) : ∃ i, y = .int i ∧ rS W x none (some i) H Q := by
  obtain ⟨HF, a, b, d, sub, r, r2, e, o⟩ := rV_two h
  obtain ⟨i, e1, e2⟩ := Option.bind_eq_some_iff.mp (show ((asInt b).bind fun i => slD a none (some i)) = some d from e)
  exact ⟨i, Reps.int1 e1 r2, HF, a, d, sub, r, e2, o⟩
theorem sl_01N (h : rN W (.sl false true) [x, y] H Q) : ∃ i, y = .int i ∧ rSN W x none (some i) H Q := by
  obtain ⟨HF, a, b, d, sub, r, r2, e, o⟩ := rN_two h
  obtain ⟨i, e1, e2⟩ := Option.bind_eq_some_iff.mp (show ((asInt b).bind fun i => slD a none (some i)) = some _ from e)
  exact ⟨i, Reps.int1 e1 r2, HF, a, d, sub, r, e2, o⟩
theorem rV_three {p : Pr} (h : rV W p [x, y, z] H Q) : ∃ HF a b c d, Same HF H ∧ RepL W HF H x a ∧ RepL W HF H y b ∧ RepL W HF H z c ∧ prD p [a, b, c] = some d ∧ Out W HF H d Q := by
  obtain ⟨HF, ds, d, sub, rs, q, o⟩ := h
  match ds, rs with
  | [a, b, c], rs => exact ⟨HF, a, b, c, d, sub, rs.1, rs.2.1, rs.2.2.1, q, o⟩
theorem rN_three {p : Pr} (h : rN W p [x, y, z] H Q) : ∃ HF a b c ys, Same HF H ∧ RepL W HF H x a ∧ RepL W HF H y b ∧ RepL W HF H z c ∧ prD p [a, b, c] = some (.lst ys) ∧ ∀ q vs, H q = none → Reps W HF vs ys → Q (.ref q) (upd H q (.lst vs)) := by
  obtain ⟨HF, ds, d, sub, rs, q, o⟩ := h
  match ds, rs with
  | [a, b, c], rs => exact ⟨HF, a, b, c, d, sub, rs.1, rs.2.1, rs.2.2.1, q, o⟩
theorem sl_11 (h : rV W (.sl true true) [x, y, z] H Q) : ∃ i, y = .int i ∧ ∃ j, z = .int j ∧ rS W x (some i) (some j) H Q := by
  obtain ⟨HF, a, b, c, d, sub, r, r2, r3, e, o⟩ := rV_three h
  obtain ⟨i, e1, e2⟩ := Option.bind_eq_some_iff.mp (show ((asInt b).bind fun i => (asInt c).bind fun j => slD a (some i) (some j)) = some d from e)
  obtain ⟨j, e3, e4⟩ := Option.bind_eq_some_iff.mp e2
  exact ⟨i, Reps.int1 e1 r2, j, Reps.int1 e3 r3, HF, a, d, sub, r, e4, o⟩
theorem sl_11N (h : rN W (.sl true true) [x, y, z] H Q) : ∃ i, y = .int i ∧ ∃ j, z = .int j ∧ rSN W x (some i) (some j) H Q := by
  obtain ⟨HF, a, b, c, d, sub, r, r2, r3, e, o⟩ := rN_three h
  obtain ⟨i, e1, e2⟩ := Option.bind_eq_some_iff.mp (show ((asInt b).bind fun i => (asInt c).bind fun j => slD a (some i) (some j)) = some _ from e)
  obtain ⟨j, e3, e4⟩ := Option.bind_eq_some_iff.mp e2
  exact ⟨i, Reps.int1 e1 r2, j, Reps.int1 e3 r3, HF, a, d, sub, r, e4, o⟩
end
theorem plainIx_of {b : Expr} (h : notSlice b = true) : PlainIx b := by
  cases b <;> first | exact fun _ _ => rfl | cases h
theorem rg_reps {W : Wd} {H : Hp} (a b : Int) : Reps W H (rgV a b) ((List.range (b - a).toNat).map fun (k : Nat) => Dv.int (a + (k : Int))) := by
  have h := Reps.of_ints (W := W) (H := H) ((List.range (b - a).toNat).map fun (k : Nat) => a + (k : Int))
  rw [List.map_map, List.map_map] at h
  exact h
theorem rngD_some {a b : Int} {xs : List Dv} (h : rngD a b = some xs) : (-(2 ^ 62) ≤ a ∧ a < 2 ^ 62 ∧ -(2 ^ 62) ≤ b ∧ b < 2 ^ 62) ∧ xs = (List.range (b - a).toNat).map fun (k : Nat) => Dv.int (a + (k : Int)) := by
  unfold rngD at h
  obtain ⟨h1, h2⟩ := if_some h
  simp only [Bool.and_eq_true, decide_eq_true_eq] at h1
  exact ⟨⟨h1.1.1.1, h1.1.1.2, h1.1.2, h1.2⟩, h2.symm⟩
theorem rngL_some {a b : Int} {d : Dv} (h : rngL a b = some d) : RgOk a b ∧ d = .lst ((List.range (b - a).toNat).map fun (k : Nat) => Dv.int (a + (k : Int))) := by
  obtain ⟨xs, h1, h2⟩ := Option.bind_eq_some_iff.mp h
  obtain ⟨h3, rfl⟩ := rngD_some h1
  obtain ⟨h4, h5⟩ := if_some h2
  refine ⟨⟨h3.1, h3.2.1, h3.2.2.1, h3.2.2.2, ?_⟩, h5.symm⟩
  have := short_ok h4
  rw [List.length_map, List.length_range, sizeLine_eq] at this
  omega
section
variable {W : Wd} {H : Hp} {Q : VK} {x y z : V}
theorem rng1_ok (h : rV W .rngL1 [x] H Q) : ∃ n, x = .int n ∧ RgOk 0 n ∧ ∀ q, H q = none → Q (.ref q) (upd H q (.lst (rgV 0 n))) := by
  obtain ⟨HF, a, d, sub, r, e, o⟩ := rV_one h
  cases a <;> try cases e
  rename_i n
  obtain ⟨e1, rfl⟩ := rngL_some (show rngL 0 n = some d from e)
  exact ⟨n, r.int_of, e1, fun q hq => out_l o hq (rg_reps 0 n)⟩
theorem rng1_okN (h : rN W .rngL1 [x] H Q) : ∃ n, x = .int n ∧ RgOk 0 n ∧ ∀ q, H q = none → Q (.ref q) (upd H q (.lst (rgV 0 n))) := by
  obtain ⟨HF, a, d, sub, r, e, o⟩ := rN_one h
  cases a <;> try cases e
  rename_i n
  obtain ⟨e1, e2⟩ := rngL_some (show rngL 0 n = some _ from e)
  cases e2
  exact ⟨n, r.int_of, e1, fun q hq => o q _ hq (rg_reps 0 n)⟩
theorem rng2_ok (h : rV W .rngL2 [x, y] H Q) : ∃ i j, x = .int i ∧ y = .int j ∧ RgOk i j ∧ ∀ q, H q = none → Q (.ref q) (upd H q (.lst (rgV i j))) := by
  obtain ⟨HF, a, b, d, sub, r, r2, e, o⟩ := rV_two h
  cases a <;> cases b <;> try cases e
  rename_i i j
  obtain ⟨e1, rfl⟩ := rngL_some (show rngL i j = some d from e)
  exact ⟨i, j, r.int_of, r2.int_of, e1, fun q hq => out_l o hq (rg_reps i j)⟩
theorem rng2_okN (h : rN W .rngL2 [x, y] H Q) : ∃ i j, x = .int i ∧ y = .int j ∧ RgOk i j ∧ ∀ q, H q = none → Q (.ref q) (upd H q (.lst (rgV i j))) := by
  obtain ⟨HF, a, b, d, sub, r, r2, e, o⟩ := rN_two h
  cases a <;> cases b <;> try cases e
  rename_i i j
  obtain ⟨e1, e2⟩ := rngL_some (show rngL i j = some _ from e)
  cases e2
  exact ⟨i, j, r.int_of, r2.int_of, e1, fun q hq => o q _ hq (rg_reps i j)⟩
theorem isN_ok (neg : Bool) (h : rV W (.isN neg) [x] H Q) : Q (.bl (if neg then !decide (x = .non) else decide (x = .non))) H := by
  obtain ⟨HF, a, d, sub, r, e, o⟩ := rV_one h
  have e' : d = .bl (if neg then !isNon a else isNon a) := by
    have : some (Dv.bl (if neg then !isNon a else isNon a)) = some d := e
    cases this
    rfl
  subst e'
  have key : isNon a = decide (x = .non) := by
    rcases r with r | ⟨p, vs, xs, rfl, rfl, _⟩
    · cases r <;> simp [isNon]
    · simp [isNon]
  rw [← key]
  exact out_v o (.bl _)
end
end CF

set_option Elab.async false
set_option linter.all false
set_option maxRecDepth 100000
namespace CF
open PySem PySem.Spec PyProof.Rows L2

/-! ## each operation as an expression -/
section
variable {F : Fx} {Γ : Tab} {c : CI} {X : Cx}
theorem so_e {x : Ex} (h : SE F Γ x) : SO F Γ (.e x) := fun c X e hc C => by
  rw [chkO] at hc
  exact CF.PE.weaken (h.pe c X e hc C) fun _ _ _ => tO_e
theorem so_o (i : Nat) : SO F Γ (.o i) := fun c X e hc C => by
  cases e with
  | Name x pos =>
    unfold chkO at hc
    simp only [Bool.and_eq_true] at hc
    obtain ⟨h1, h2, _⟩ := nmB_dbg hc.2
    refine CF.PE.weaken (pe_var (C.slot hc.1.1) (C.vis hc.1.2) h1 h2) fun σ H Q h => ?_
    obtain ⟨HF, η, d, η', S, e, k⟩ := h
    rw [evO] at e
    obtain ⟨xs, e1, e2⟩ := Option.map_eq_some_iff.mp e
    cases e2
    obtain ⟨br, e3⟩ := ownL_some e1
    obtain ⟨p, vs, q, hp, r, _⟩ := S.slotL e3
    exact ⟨.ref p, q, k (.ref p) H HF S .refl q⟩
  | _ =>
    unfold chkO at hc
    cases hc
theorem ck_a {a : Op} {b : Bool} {f : PySem.Expr → Bool} (h : (⟨b, f⟩ : OC) = ⟨isE a, chkO c a⟩) : b = isE a ∧ f = chkO c a := by
  cases h
  exact ⟨rfl, rfl⟩
theorem sl11_inv {a : Op} {b d : Ex} {η η1 : CF.Env} {ds ds' : List Dv} {r : Dv} (e1 : evOs Γ (.cons a (.cons (.e b) (.cons (.e d) .nil))) η = some (ds, η1)) (e2 : finOs (.cons a (.cons (.e b) (.cons (.e d) .nil))) ds η1 = some ds') (e3 : prD (.sl true true) ds' = some r) :
    ∃ x ηa i ηb j x', evO Γ a η = some (x, ηa) ∧ evO Γ (.e b) ηa = some (.int i, ηb) ∧ evO Γ (.e d) ηb = some (.int j, η1) ∧ finO a x η1 = some x' ∧ slD x' (some i) (some j) = some r := by
  rw [evOs] at e1
  split at e1
  · cases e1
  rename_i x ηa ea
  split at e1
  · cases e1
  rename_i xs ηb eb
  cases e1
  rw [evOs] at eb
  split at eb
  · cases eb
  rename_i y ηy ey
  split at eb
  · cases eb
  rename_i ys ηz ez
  cases eb
  rw [evOs] at ez
  split at ez
  · cases ez
  rename_i z ηw ew
  split at ez
  · cases ez
  rename_i zs ηv ev
  cases ez
  rw [evOs] at ev
  cases ev
  unfold finOs at e2
  split at e2
  · rename_i x' r1 f1 f2
    cases e2
    unfold finOs at f2
    split at f2
    · rename_i y' r2 f3 f4
      cases f2
      cases f3
      unfold finOs at f4
      split at f4
      · rename_i z' r3 f5 f6
        cases f4
        cases f5
        unfold finOs at f6
        cases f6
        obtain ⟨i, e4, e5⟩ := Option.bind_eq_some_iff.mp (show ((asInt y).bind fun i => (asInt z).bind fun j => slD x' (some i) (some j)) = some r from e3)
        obtain ⟨j, e6, e7⟩ := Option.bind_eq_some_iff.mp e5
        cases y <;> cases e4
        cases z <;> cases e6
        exact ⟨x, ηa, i, ηy, j, x', ea, ey, ew, f1, e7⟩
      · cases f4
    · cases f2
  · cases e2
theorem tE_sl11 {σ : L2.St} {H : Hp} {a : Op} {b d : Ex} {Q : VK} (h : tE F Γ (.pr (.sl true true) (.cons a (.cons (.e b) (.cons (.e d) .nil)))) σ H Q) :
    tSl (rS F.W) (tO F Γ a) (tPart (tO F Γ (.e b))) (tPart (tO F Γ (.e d))) σ H Q := by
  obtain ⟨HF, η, r, η', S, e, k⟩ := h
  rw [evE] at e
  split at e
  · cases e
  · rename_i ds η1 e1
    split at e
    · cases e
    · rename_i ds' e2
      obtain ⟨d', e3, e4⟩ := Option.map_eq_some_iff.mp e
      cases e4
      obtain ⟨x, ηa, i, ηb, j, x', ea, eb, ed, ex, es⟩ := sl11_inv e1 e2 e3
      refine ⟨HF, η, x, ηa, S, ea, fun vx H1 HF1 S1 s1 o1 => ⟨HF1, ηa, .int i, ηb, S1, eb, fun vy H2 HF2 S2 s2 o2 => ?_⟩⟩
      cases (show Rep F.W HF2 vy (.int i) from o2)
      refine ⟨i, rfl, HF2, ηb, .int j, _, S2, ed, fun vz H3 HF3 S3 s3 o3 => ?_⟩
      cases (show Rep F.W HF3 vz (.int j) from o3)
      exact ⟨j, rfl, HF3, x', _, S3.sub, ((o1.mono s2.f).mono s3.f).fin S3 ex, es, out_of S3 fun v H4 HF4 S4 s4 r => k v H4 HF4 S4 (s1.trans (s2.trans (s3.trans s4))) r⟩
theorem tF_sl11 {σ : L2.St} {H : Hp} {a : Op} {b d : Ex} {Q : VK} (h : tF F Γ (.pr (.sl true true) (.cons a (.cons (.e b) (.cons (.e d) .nil)))) σ H Q) :
    tSl (rSN F.W) (tO F Γ a) (tPart (tO F Γ (.e b))) (tPart (tO F Γ (.e d))) σ H Q := by
  obtain ⟨HF, η, r, η', S, e, k⟩ := h
  rw [evE] at e
  split at e
  · cases e
  · rename_i ds η1 e1
    split at e
    · cases e
    · rename_i ds' e2
      obtain ⟨d', e3, e4⟩ := Option.map_eq_some_iff.mp e
      cases e4
      obtain ⟨x, ηa, i, ηb, j, x', ea, eb, ed, ex, es⟩ := sl11_inv e1 e2 e3
      refine ⟨HF, η, x, ηa, S, ea, fun vx H1 HF1 S1 s1 o1 => ⟨HF1, ηa, .int i, ηb, S1, eb, fun vy H2 HF2 S2 s2 o2 => ?_⟩⟩
      cases (show Rep F.W HF2 vy (.int i) from o2)
      refine ⟨i, rfl, HF2, ηb, .int j, _, S2, ed, fun vz H3 HF3 S3 s3 o3 => ?_⟩
      cases (show Rep F.W HF3 vz (.int j) from o3)
      exact ⟨j, rfl, HF3, x', _, S3.sub, ((o1.mono s2.f).mono s3.f).fin S3 ex, es, fresh_of S3 fun q vs H4 HF4 S4 s4 z => k q vs H4 HF4 S4 (s1.trans (s2.trans (s3.trans s4))) ((s1.trans (s2.trans s3)).non z)⟩
variable (C : CtxOk X c Γ F.W) {as : Ops} (hs : AllO (SO F Γ) as)
include C hs
theorem bin_e {p : Pr} {o : Operator} {x y : PySem.Expr} {pos : Pos} (h : ckBin p (chkFs c as) o x y = true) :
    PE X (.BinOp x o y pos) (tE F Γ (.pr p as)) ∧ (isFresh (.pr p as) = true → PE X (.BinOp x o y pos) (tF F Γ (.pr p as))) := by
  generalize hf : chkFs c as = fs at h
  unfold ckBin at h
  split at h
  · rename_i o' a b
    obtain ⟨a, b, rfl, rfl, rfl⟩ := chkFs_two hf
    simp only [Bool.and_eq_true, decide_eq_true_eq] at h
    obtain ⟨⟨rfl, h1⟩, h2⟩ := h
    have pa := hs.1 c X x h1 C
    have pb := hs.2.1 c X y h2 C
    refine ⟨CF.PE.weaken (pe_op (bin_ok C.K o') pa pb) fun _ _ _ => tE_two, fun hf => ?_⟩
    cases o' with
    | Add => exact CF.PE.weaken (pe_op cat_fresh pa pb) fun _ _ _ => tF_two
    | Mult => exact CF.PE.weaken (pe_op mul_fresh pa pb) fun _ _ _ => tF_two
    | _ => cases hf
  · cases h
theorem cmp_e {p : Pr} {o : CmpOp} {x y : PySem.Expr} {pos : Pos} (h : ckCmp p (chkFs c as) o x y = true) :
    PE X (.Compare x [o] [y] pos) (tE F Γ (.pr p as)) ∧ PT X (.Compare x [o] [y] pos) (tT F Γ (.pr p as)) ∧ isFresh (.pr p as) = false := by
  generalize hf : chkFs c as = fs at h
  unfold ckCmp at h
  split at h
  · rename_i o' a b
    obtain ⟨a, b, rfl, rfl, rfl⟩ := chkFs_two hf
    simp only [Bool.and_eq_true, decide_eq_true_eq, Bool.not_eq_true'] at h
    obtain ⟨⟨⟨rfl, h0⟩, h1⟩, h2⟩ := h
    have pa := hs.1 c X x h1 C
    have pb := hs.2.1 c X y h2 C
    exact ⟨CF.PE.weaken (pe_cmpR (cmp_ok C.K C.hu o') pa pb h0) fun _ _ _ => tE_two, CF.PT.weaken (pt_cmpR (cmp_ok C.K C.hu o') pa pb h0) fun _ _ _ h => tE_two (tT_tE h), rfl⟩
  · rename_i n a
    obtain ⟨a, rfl, rfl⟩ := chkFs_one hf
    simp only [Bool.and_eq_true, decide_eq_true_eq] at h
    obtain ⟨⟨⟨rfl, h0⟩, h2⟩, h1⟩ := h
    have pa := hs.1 c X x h1 C
    split at h0
    · cases n with
      | true =>
        have nb : ∀ b : PySem.Expr, behindInMarks .IsNot b = false := fun b => nobehind b (by decide) (by decide)
        exact ⟨CF.PE.weaken (pe_cmp (pc_notN pa) (nb _)) fun σ H Q h => tO_mono (tE_one h) fun v H' z => isN_ok true z, CF.PT.weaken (pt_cmp (pc_notN pa) (nb _)) fun σ H Q h => tO_mono (tE_one (tT_tE h)) fun v H' z => isN_ok true z, rfl⟩
      | false =>
        have nb : ∀ b : PySem.Expr, behindInMarks .Is b = false := fun b => nobehind b (by decide) (by decide)
        exact ⟨CF.PE.weaken (pe_cmp (pc_isN pa) (nb _)) fun σ H Q h => tO_mono (tE_one h) fun v H' z => isN_ok false z, CF.PT.weaken (pt_cmp (pc_isN pa) (nb _)) fun σ H Q h => tO_mono (tE_one (tT_tE h)) fun v H' z => isN_ok false z, rfl⟩
    · cases h0
  · cases h
theorem un_e {p : Pr} {o : UnaryOp} {x : PySem.Expr} {pos : Pos} (h : ckUn p (chkFs c as) o x = true) : PE X (.UnaryOp o x pos) (tE F Γ (.pr p as)) ∧ o = .USub ∧ isFresh (.pr p as) = false := by
  generalize hf : chkFs c as = fs at h
  unfold ckUn at h
  split at h
  · obtain ⟨a, rfl, rfl⟩ := chkFs_one hf
    simp only [Bool.and_eq_true, decide_eq_true_eq] at h
    obtain ⟨rfl, h1⟩ := h
    exact ⟨CF.PE.weaken (pe_un neg_ok (hs.1 c X x h1 C)) fun _ _ _ => tE_one, rfl, rfl⟩
  · cases h
omit C hs in
theorem rE_tup {W : Wd} {xs : List V} {H : Hp} {Q : VK} (h : rE W .tup xs H Q) : xs.length ≤ sizeLine ∧ ∀ p, H p = none → Q (.ref p) (upd H p (.tup xs)) := by
  obtain ⟨HF, ds, d, sub, r, e, o⟩ := h
  obtain ⟨e1, rfl⟩ := if_some (show (if short ds.length = true then some (Dv.tup ds) else none) = some d from e)
  rw [r.length]
  exact ⟨short_ok e1, fun p hp => out_t o hp r⟩
omit C hs in
theorem rE_lst {W : Wd} {xs : List V} {H : Hp} {Q : VK} (h : rE W .lst xs H Q) : xs.length ≤ sizeLine ∧ ∀ p, H p = none → Q (.ref p) (upd H p (.lst xs)) := by
  obtain ⟨HF, ds, d, sub, r, e, o⟩ := h
  obtain ⟨e1, rfl⟩ := if_some (show (if short ds.length = true then some (Dv.lst ds) else none) = some d from e)
  rw [r.length]
  exact ⟨short_ok e1, fun p hp => out_l o hp r⟩
omit C hs in
theorem rEN_lst {W : Wd} {xs : List V} {H : Hp} {Q : VK} (h : rEN W .lst xs H Q) : xs.length ≤ sizeLine ∧ ∀ p, H p = none → Q (.ref p) (upd H p (.lst xs)) := by
  obtain ⟨HF, ds, ys, sub, r, e, o⟩ := h
  obtain ⟨e1, e2⟩ := if_some (show (if short ds.length = true then some (Dv.lst ds) else none) = some (.lst ys) from e)
  cases e2
  rw [r.length]
  exact ⟨short_ok e1, fun p hp => o p _ hp r⟩
theorem tup_e {p : Pr} {es : List PySem.Expr} {k : Nat} {pos : Pos} (h : ckTup p (chkFs c as) es = true) : PE X (.Tuple es k pos) (tE F Γ (.pr p as)) ∧ isFresh (.pr p as) = false := by
  unfold ckTup at h
  simp only [Bool.and_eq_true, decide_eq_true_eq] at h
  obtain ⟨⟨rfl, h1⟩, h2⟩ := h
  have ha := allE_of h1
  exact ⟨CF.PE.weaken (pe_tup (pa_ok C hs h2)) fun σ H Q h => tOs_mono (tE_manyE ha h) fun _ _ z => rE_tup z, rfl⟩
theorem lst_e {p : Pr} {es : List PySem.Expr} {pos : Pos} (h : ckLst p (chkFs c as) es = true) : PE X (.List es pos) (tE F Γ (.pr p as)) ∧ PE X (.List es pos) (tF F Γ (.pr p as)) := by
  unfold ckLst at h
  simp only [Bool.and_eq_true, decide_eq_true_eq] at h
  obtain ⟨⟨rfl, h1⟩, h2⟩ := h
  have ha := allE_of h1
  exact ⟨CF.PE.weaken (pe_lst (pa_ok C hs h2)) fun σ H Q h => tOs_mono (tE_manyE ha h) fun _ _ z => rE_lst z, CF.PE.weaken (pe_lst (pa_ok C hs h2)) fun σ H Q h => tOs_mono (tF_manyE ha h) fun _ _ z => rEN_lst z⟩
theorem sub_e {p : Pr} {x y : PySem.Expr} {pos : Pos} (h : ckSub p (chkFs c as) x y = true) : PE X (.Subscript x y pos) (tE F Γ (.pr p as)) ∧ (isFresh (.pr p as) = true → PE X (.Subscript x y pos) (tF F Γ (.pr p as))) := by
  generalize hf : chkFs c as = fs at h
  unfold ckSub at h
  split at h
  · obtain ⟨a, b, rfl, rfl, rfl⟩ := chkFs_two hf
    simp only [Bool.and_eq_true] at h
    exact ⟨CF.PE.weaken (pe_ix (ix_ok C.K) (hs.1 c X x h.1.1.2 C) (hs.2.1 c X y h.2 C) (plainIx_of h.1.1.1)) fun _ _ _ => tE_two, fun z => by cases z⟩
  · obtain ⟨a, rfl, rfl⟩ := chkFs_one hf
    simp only [Bool.and_eq_true] at h
    obtain ⟨h1, h2⟩ := h
    split at h1
    · have pa := hs.1 c X x h2 C
      exact ⟨CF.PE.weaken (pe_slice (sl_ok C.K) pa po_none po_none) fun σ H Q h => tO_mono (tE_one h) fun _ _ z => sl_00 z, fun _ => CF.PE.weaken (pe_slice (slN_ok C.K) pa po_none po_none) fun σ H Q h => tO_mono (tF_one h) fun _ _ z => sl_00N z⟩
    · cases h1
  · obtain ⟨a, b, rfl, rfl, rfl⟩ := chkFs_two hf
    simp only [Bool.and_eq_true] at h
    obtain ⟨⟨h1, h2⟩, h3⟩ := h
    split at h1
    · have pa := hs.1 c X x h2 C
      have pb := hs.2.1 c X _ h1 C
      exact ⟨CF.PE.weaken (pe_slice (sl_ok C.K) pa (po_some pb) po_none) fun σ H Q h => tO_mono (tE_two h) fun _ _ z => tO_mono z fun _ _ z => sl_10 z, fun _ => CF.PE.weaken (pe_slice (slN_ok C.K) pa (po_some pb) po_none) fun σ H Q h => tO_mono (tF_two h) fun _ _ z => tO_mono z fun _ _ z => sl_10N z⟩
    · cases h1
  · obtain ⟨a, b, rfl, rfl, rfl⟩ := chkFs_two hf
    simp only [Bool.and_eq_true] at h
    obtain ⟨⟨h1, h2⟩, h3⟩ := h
    split at h1
    · have pa := hs.1 c X x h2 C
      have pb := hs.2.1 c X _ h1 C
      exact ⟨CF.PE.weaken (pe_slice (sl_ok C.K) pa po_none (po_some pb)) fun σ H Q h => tO_mono (tE_two h) fun _ _ z => tO_mono z fun _ _ z => sl_01 z, fun _ => CF.PE.weaken (pe_slice (slN_ok C.K) pa po_none (po_some pb)) fun σ H Q h => tO_mono (tF_two h) fun _ _ z => tO_mono z fun _ _ z => sl_01N z⟩
    · cases h1
  · obtain ⟨a, b, d, rfl, rfl, rfl, rfl⟩ := chkFs_three hf
    simp only [Bool.and_eq_true] at h
    obtain ⟨⟨⟨h1, h2⟩, h3⟩, h4⟩ := h
    split at h1
    · simp only [Bool.and_eq_true] at h1
      have pa := hs.1 c X x h2 C
      have pb := hs.2.1 c X _ h1.1 C
      have pd := hs.2.2.1 c X _ h1.2 C
      obtain ⟨b, rfl⟩ := isE_of h3
      obtain ⟨d, rfl⟩ := isE_of h4
      exact ⟨CF.PE.weaken (pe_slice (sl_ok C.K) pa (po_some pb) (po_some pd)) fun σ H Q h => tE_sl11 h, fun _ => CF.PE.weaken (pe_slice (slN_ok C.K) pa (po_some pb) (po_some pd)) fun σ H Q h => tF_sl11 h⟩
    · cases h1
  · cases h
end
end CF

set_option Elab.async false
set_option linter.all false
set_option maxRecDepth 100000
namespace CF
open PySem PySem.Spec PyProof.Rows L2

/-! ## calls of built-ins, of classes -/
theorem boot_ty (t : Ty) : bootBuiltins (Str.ofString (tyName t)) = some (.type (tyName t)) := by cases t <;> kernel_rfl
theorem boot_vE : bootBuiltins ("ValueError" : Str) = some (.type "ValueError") := by kernel_rfl
theorem isx_bis {x : Str} (h : x ∈ bis) : x ∈ bis := h
section
variable {X : Cx}
theorem pe_callCls {f : Str} {C : Addr} {p pos : Pos} {e : PySem.Expr} {es : List PySem.Expr} {t : TA} {r : List V → Hp → VK → Prop} (hc : CallR X (.ref C) r) (hg : Gl X f) (hm : X.mg f = some (.ref C)) (hk : PySem.W.keepIn X.K (.ref C) = true) (ha : PA X (e :: es) t)
    (hdb : (f == ("__debug__" : Str)) = false) (he : starEach (e :: es) X.env = (false, eval e X.env) :: starEach es X.env) (hpl : (backTo pos (starEach es X.env)).any (·.1) = false) : PE X (.Call (.Name f p) (e :: es) [] pos) (tCB r t) := by
  refine ⟨fun pins s σ H Q I h => ?_⟩
  refine wpAny_Call_Name_kw (ld_glob I hg hm ?_ hdb)
  exact PySem.W.callWith_K (h₀ := X.base) I.ok.mod.kin hk (thn (ha.run pos pins s σ H _ I h) fun us s1 ⟨vs, H1, I1, r1, q1⟩ => ⟨I1.kIn, hc pins s1 σ H1 vs us Q I1 r1 q1⟩) he hpl
end
section
variable {F : Fx} {Γ : Tab} {c : CI} {X : Cx}
theorem tE_mk {k : Str} {a : Ex} {C : Addr} (hC : F.W.cl k = some C) {σ : L2.St} {H : Hp} {Q : VK} (h : tE F Γ (.pr (.mk k) (.cons (.e a) .nil)) σ H Q) :
    tO F Γ (.e a) σ H fun v H1 => ∀ e tt dx, H1 e = none → H1 tt = none → H1 dx = none → e ≠ tt → e ≠ dx → tt ≠ dx → Q (.ref e) (upd (upd (upd H1 tt (.tup [v])) dx (.xd [("value", v)])) e (ExH e C tt dx)) := by
  obtain ⟨HF, η, r, η', S, e, k⟩ := h
  rw [evE] at e
  split at e
  · cases e
  rename_i ds η1 e1
  split at e
  · cases e
  rename_i ds' e2
  obtain ⟨d', e3, e4⟩ := Option.map_eq_some_iff.mp e
  cases e4
  rw [evOs] at e1
  split at e1
  · cases e1
  rename_i x ηa ea
  split at e1
  · cases e1
  rename_i xs ηb eb
  cases e1
  rw [evOs] at eb
  cases eb
  unfold finOs at e2
  split at e2
  · rename_i x' r1 f1 f2
    cases e2
    cases f1
    unfold finOs at f2
    cases f2
    cases e3
    refine ⟨HF, η, x, _, S, ea, fun v H1 HF1 S1 s1 o1 ad tt dx n1 n2 n3 d1 d2 d3 => ?_⟩
    have rv : Rep F.W HF1 v x := o1
    have m1 : (upd H1 tt (.tup [v])) dx = none := by rw [upd_ne (Ne.symm d3)]; exact n3
    have m2 : (upd (upd H1 tt (.tup [v])) dx (.xd [("value", v)])) ad = none := by rw [upd_ne d2, upd_ne d1]; exact n1
    obtain ⟨S2, g2⟩ := S1.alloc (o := .tup [v]) n2
    obtain ⟨S3, g3⟩ := S2.alloc (o := .xd [("value", v)]) m1
    obtain ⟨S4, g4⟩ := S3.alloc (o := ExH ad C tt dx) m2
    refine k _ _ _ S4 (s1.trans ((Stp.alloc n2 (S1.sub.free n2)).trans ((Stp.alloc m1 (S2.sub.free m1)).trans (Stp.alloc m2 (S3.sub.free m2))))) ?_
    refine .exc hC upd_same (v := v) ?_ ?_ (rv.mono (g2.trans (g3.trans g4)))
    · exact g4 _ _ (g3 _ _ upd_same)
    · exact g4 _ _ upd_same
  · cases e2
variable (C : CtxOk X c Γ F.W) {as : Ops} (hs : AllO (SO F Γ) as)
include C hs
theorem attr_e {p : Pr} {n : Str} {x : PySem.Expr} {pos : Pos} (h : ckAttr p (chkFs c as) n x = true) : PE X (.Attribute x n pos) (tE F Γ (.pr p as)) ∧ isFresh (.pr p as) = false := by
  generalize hf : chkFs c as = fs at h
  unfold ckAttr at h
  split at h
  · obtain ⟨a, rfl, rfl⟩ := chkFs_one hf
    simp only [Bool.and_eq_true] at h
    obtain ⟨⟨⟨h0, h1⟩, h2⟩, h3⟩ := h
    obtain rfl := eqs_eq h0
    split at h1
    · rename_i y py
      refine ⟨CF.PE.weaken (pe_exv (W := F.W) C.x.xis (hs.1 c X _ h3 C) rfl) fun σ H Q h => tO_mono (tE_one h) fun v H' z => ?_, rfl⟩
      obtain ⟨HF, a, d, sub, r, e, o⟩ := rV_one z
      cases a <;> cases e
      rcases r with r | ⟨_, _, _, _, q, _⟩
      · cases r with
        | exc hc h1 h2 h3 rv => exact ⟨_, _, _, _, _, _, rfl, hc, sub _ _ h1, sub _ _ h3, out_v o rv⟩
      · cases q
    · cases h1
  · cases h
theorem bi_e {p : Pr} {f : Str} {x : PySem.Expr} {xs : List PySem.Expr} {pf pos : Pos} (h : ckBi c p (chkFs c as) f (x :: xs) = true) :
    PE X (.Call (.Name f pf) (x :: xs) [] pos) (tE F Γ (.pr p as)) ∧ (isFresh (.pr p as) = true → PE X (.Call (.Name f pf) (x :: xs) [] pos) (tF F Γ (.pr p as))) := by
  unfold ckBi at h
  simp only [Bool.and_eq_true] at h
  obtain ⟨⟨⟨h1, h2⟩, h3⟩, h4⟩ := h
  obtain ⟨d1, d2, d3⟩ := nmB_dbg h3
  have hg := C.glb h2
  have pa := pa_ok C hs h4
  have st := allCk_star h4
  have he := st x List.mem_cons_self xs X.env
  have hpl : (backTo pos (starEach xs X.env)).any (·.1) = false := any_back fun e he => st e (List.mem_cons_of_mem _ he)
  split at h1
  · rename_i b hb
    obtain rfl := eqs_eq h1
    cases p <;> cases hb
    · exact ⟨CF.PE.weaken (pe_callB (len_ok C.K) hg (C.bi _ (by decide)) (by kernel_rfl) pa d3 d1 he hpl) fun _ _ _ => tE_many, fun z => by cases z⟩
    · exact ⟨CF.PE.weaken (pe_callTy int_ok hg (C.bi _ (by decide)) (by kernel_rfl) pa d3 d1 he hpl) fun _ _ _ => tE_many, fun z => by cases z⟩
    · exact ⟨CF.PE.weaken (pe_callB (repr_ok C.K C.x.xis C.hg C.hu) hg (C.bi _ (by decide)) (by kernel_rfl) pa d3 d1 he hpl) fun _ _ _ => tE_many, fun z => by cases z⟩
    · exact ⟨CF.PE.weaken (pe_callB abs_ok hg (C.bi _ (by decide)) (by kernel_rfl) pa d3 d1 he hpl) fun _ _ _ => tE_many, fun z => by cases z⟩
    · exact ⟨CF.PE.weaken (pe_callB (sum_ok C.calm) hg (C.bi _ (by decide)) (by kernel_rfl) pa d3 d1 he hpl) fun _ _ _ => tE_many, fun z => by cases z⟩
    · exact ⟨CF.PE.weaken (pe_callB (all_ok C.calm) hg (C.bi _ (by decide)) (by kernel_rfl) pa d3 d1 he hpl) fun _ _ _ => tE_many, fun z => by cases z⟩
    · exact ⟨CF.PE.weaken (pe_callB (any_ok C.calm) hg (C.bi _ (by decide)) (by kernel_rfl) pa d3 d1 he hpl) fun _ _ _ => tE_many, fun z => by cases z⟩
    · exact ⟨CF.PE.weaken (pe_callTy (list_ok C.K) hg (C.bi _ (by decide)) (by kernel_rfl) pa d3 d1 he hpl) fun _ _ _ => tE_many, fun _ => CF.PE.weaken (pe_callTy (list_fresh C.K) hg (C.bi _ (by decide)) (by kernel_rfl) pa d3 d1 he hpl) fun _ _ _ => tF_many⟩
    · exact ⟨CF.PE.weaken (pe_callTy (tuple_ok C.K) hg (C.bi _ (by decide)) (by kernel_rfl) pa d3 d1 he hpl) fun _ _ _ => tE_many, fun z => by cases z⟩
    · exact ⟨CF.PE.weaken (pe_callB (min2_ok C.calm) hg (C.bi _ (by decide)) (by kernel_rfl) pa d3 d1 he hpl) fun _ _ _ => tE_many, fun z => by cases z⟩
    · exact ⟨CF.PE.weaken (pe_callB (max2_ok C.calm) hg (C.bi _ (by decide)) (by kernel_rfl) pa d3 d1 he hpl) fun _ _ _ => tE_many, fun z => by cases z⟩
  · cases h1
end
end CF

set_option Elab.async false
set_option linter.all false
set_option maxRecDepth 100000
namespace CF
open PySem PySem.Spec PyProof.Rows L2

section
variable {F : Fx} {HF HF' : Hp} {σ σ' : L2.St} {H H' : Hp} {η η' : CF.Env}
/-- an object that is nobody's is changed -/
theorem SR.updX (S : SR F HF σ H η) {q : Addr} {o : HO} (hF : HF q = none) (h0 : F.H0 q = none) (no : ¬ Own η σ q) : SR F HF σ (upd H q o) η where
  sub := Same.upd_both S.sub hF
  grow := S.grow
  keep := fun a u e m => by
    rw [upd_ne (ne_of_none e h0)]
    exact S.keep a u e m
  ent := S.ent
  mt := fun i p e => by
    obtain ⟨h1, vs, h2⟩ := S.mt i p e
    obtain ⟨ws, h3⟩ := S.ent i p e
    exact ⟨h1, vs, by rw [upd_ne (ne_of_none h3 h0)]; exact h2⟩
  newF := S.newF
  len := S.len
  slot := fun i sv e => by
    have s := S.slot i sv e
    cases sv with
    | no => trivial
    | dat d => exact s
    | lst br xs =>
      obtain ⟨p, vs, e1, h1, h2, h3, h4⟩ := s
      have hp : p ≠ q := fun z => no ⟨i, br, xs, e, by
        obtain ⟨p', vs', e2, h5, _⟩ := S.slotL e
        rw [e2] at e1
        cases e1
        rw [z] at e2
        exact e2⟩
      exact ⟨p, vs, e1, by rw [upd_ne hp]; exact h1, h2, h3, h4⟩
  apart := S.apart
/-- .. is frozen -/
theorem SR.frz (S : SR F HF σ H η) {q : Addr} {o : HO} (hq : H q = some o) (hF : HF q = none) (h0 : F.H0 q = none) (no : ¬ Own η σ q) : SR F (upd HF q o) σ H η where
  sub := fun b u e => by
    by_cases hb : b = q
    · subst hb
      rw [upd_same] at e
      cases e
      exact hq
    · rw [upd_ne hb] at e
      exact S.sub _ _ e
  grow := S.grow.trans (Same.upd_new hF)
  keep := S.keep
  ent := S.ent
  mt := fun i p e => by
    obtain ⟨h1, vs, h2⟩ := S.mt i p e
    obtain ⟨ws, h3⟩ := S.ent i p e
    exact ⟨by rw [upd_ne (ne_of_none h3 h0)]; exact h1, vs, h2⟩
  newF := fun a u e => by
    by_cases ha : a = q
    · subst ha
      exact .inr h0
    · rw [upd_ne ha] at e
      exact S.newF a u e
  len := S.len
  slot := fun i sv e => by
    have s := S.slot i sv e
    cases sv with
    | no => trivial
    | dat d =>
      obtain ⟨v, e1, r⟩ := s
      exact ⟨v, e1, r.mono (Same.upd_new hF)⟩
    | lst br xs =>
      obtain ⟨p, vs, e1, h1, h2, h3, h4⟩ := s
      have hp : p ≠ q := fun z => no ⟨i, br, xs, e, by
        obtain ⟨p', vs', e2, h5, _⟩ := S.slotL e
        rw [e2] at e1
        cases e1
        rw [z] at e2
        exact e2⟩
      exact ⟨p, vs, e1, h1, h2.mono (Same.upd_new hF), by rw [upd_ne hp]; exact h3, h4⟩
  apart := S.apart

end
section
variable {F : Fx} {Γ : Tab} {c : CI} {X : Cx}
variable (C : CtxOk X c Γ F.W) {as : Ops} (hs : AllO (SO F Γ) as)
include C hs
theorem rng_e {p : Pr} {x : PySem.Expr} {pf pos : Pos} (hg : Gl X "list") (h : ckRng c p (chkFs c as) x = true) :
    PE X (.Call (.Name "list" pf) [x] [] pos) (tE F Γ (.pr p as)) ∧ PE X (.Call (.Name "list" pf) [x] [] pos) (tF F Γ (.pr p as)) := by
  have hm : X.mg "list" = none := C.bi _ (by decide)
  have hmr : X.mg "range" = none := C.bi _ (by decide)
  generalize hf : chkFs c as = fs at h
  unfold ckRng at h
  split at h
  · obtain ⟨a, rfl, rfl⟩ := chkFs_one hf
    simp only [Bool.and_eq_true] at h
    obtain ⟨h1, _⟩ := h
    split at h1
    · rename_i g pg y py
      simp only [Bool.and_eq_true] at h1
      obtain ⟨⟨h1, h2⟩, h3⟩ := h1
      obtain rfl := eqs_eq h1
      have st := chkO_star h3 [] X.env
      have P := prg_1 (p := pg) (pos := py) (C.glb h2) hmr (hs.1 c X _ h3 C) st
      exact ⟨CF.PE.weaken (pe_listRg C.calm hg hm P) fun σ H Q h => tO_mono (tE_one h) fun _ _ z => rng1_ok z, CF.PE.weaken (pe_listRg C.calm hg hm P) fun σ H Q h => tO_mono (tF_one h) fun _ _ z => rng1_okN z⟩
    · cases h1
  · obtain ⟨a, b, rfl, rfl, rfl⟩ := chkFs_two hf
    simp only [Bool.and_eq_true] at h
    obtain ⟨⟨h1, _⟩, _⟩ := h
    split at h1
    · rename_i g pg y z py
      simp only [Bool.and_eq_true] at h1
      obtain ⟨⟨⟨h1, h2⟩, h3⟩, h4⟩ := h1
      obtain rfl := eqs_eq h1
      have st := chkO_star h3 [z] X.env
      have st2 := chkO_star h4 [] X.env
      have P := prg_2 (p := pg) (pos := py) (C.glb h2) hmr (hs.1 c X _ h3 C) (hs.2.1 c X _ h4 C) st st2 (by rw [st2]; rfl)
      exact ⟨CF.PE.weaken (pe_listRg C.calm hg hm P) fun σ H Q h => tO_mono (tE_two h) fun _ _ z => tO_mono z fun _ _ z => rng2_ok z, CF.PE.weaken (pe_listRg C.calm hg hm P) fun σ H Q h => tO_mono (tF_two h) fun _ _ z => tO_mono z fun _ _ z => rng2_okN z⟩
    · cases h1
  · cases h
theorem isi_e {p : Pr} {x : PySem.Expr} {n : Str} {pf pn pos : Pos} (hg : Gl X "isinstance") (h : ckIsi c p (chkFs c as) x n = true) :
    PE X (.Call (.Name "isinstance" pf) [x, .Name n pn] [] pos) (tE F Γ (.pr p as)) ∧ isFresh (.pr p as) = false := by
  have hm : X.mg "isinstance" = none := C.bi _ (by decide)
  generalize hf : chkFs c as = fs at h
  unfold ckIsi at h
  split at h
  · rename_i t a
    obtain ⟨a, rfl, rfl⟩ := chkFs_one hf
    simp only [Bool.and_eq_true] at h
    obtain ⟨⟨⟨h1, h2⟩, h3⟩, h4⟩ := h
    obtain rfl := eqs_eq h1
    have st := chkO_star h4
    have hmt : X.mg (Str.ofString (tyName t)) = none := C.bi _ (by cases t <;> decide)
    have P : PA X [x, .Name (Str.ofString (tyName t)) pn] _ := pa_cons (hs.1 c X _ h4 C) (pa_cons (pe_bltn (v := .ty (tyName t)) (pos := pn) (C.glb h2) hmt (boot_ty t) rfl (by cases t <;> decide) (by cases t <;> decide)) pa_nil rfl) (st _ _)
    refine ⟨CF.PE.weaken (pe_callB (isi_ok C.K t) hg hm (by kernel_rfl) P (by decide) (by decide) (st _ _) rfl) fun σ H Q h => tO_mono (tE_one h) fun v H' z => ?_, rfl⟩
    obtain ⟨HF, d, d', sub, r, e, o⟩ := rV_one z
    have key : ∀ d : Dv, isiD t d = some d' → RepL F.W HF H' v d → (dvTy d).isSome = true ∧ d' = .bl (isTy t d) := fun d e r => by
      cases d <;> cases e <;> exact ⟨rfl, rfl⟩
    obtain ⟨k1, rfl⟩ := key d e r
    exact ⟨HF, v, d, rfl, sub, r, k1, out_v o (.bl _)⟩
  · rename_i k a
    obtain ⟨a, rfl, rfl⟩ := chkFs_one hf
    simp only [Bool.and_eq_true, decide_eq_true_eq] at h
    obtain ⟨⟨⟨⟨⟨h1, hk⟩, h2⟩, h3⟩, h4⟩, h5⟩ := h
    obtain rfl := eqs_eq h1
    have st := chkO_star h5
    obtain ⟨Cc, hCc⟩ := Option.isSome_iff_exists.mp (C.xs _ hk)
    obtain ⟨m1, m2, _⟩ := C.x.xcl _ _ hCc
    have P : PA X [x, .Name n pn] _ := pa_cons (hs.1 c X _ h5 C) (pa_cons (pe_glob (v := .ref Cc) (pos := pn) (C.glb h2) m1 rfl (nmB_dbg h3).1) pa_nil rfl) (st _ _)
    refine ⟨CF.PE.weaken (pe_callB (isx_ok (W := F.W) C.x.xis) hg hm (by kernel_rfl) P (by decide) (by decide) (st _ _) rfl) fun σ H Q h => tO_mono (tE_one h) fun v H' z => ?_, rfl⟩
    obtain ⟨HF, d, d', sub, r, e, o⟩ := rV_one z
    cases d <;> cases e
    rcases r with r | ⟨_, _, _, _, q, _⟩
    · cases r with
      | exc hc h1 h2 h3 rv => exact ⟨_, _, _, _, _, _, _, .ref Cc, .ref Cc, rfl, (fun u ru => by cases ru; rfl), hc, sub _ _ h1, sub _ _ h3, C.x.xk _ _ _ _ hc hCc, out_v o (.bl _)⟩
    · cases q
  · rename_i k a
    obtain ⟨a, rfl, rfl⟩ := chkFs_one hf
    simp only [Bool.and_eq_true, decide_eq_true_eq] at h
    obtain ⟨⟨⟨⟨h1, rfl⟩, h2⟩, h4⟩, h5⟩ := h
    obtain rfl := eqs_eq h1
    have st := chkO_star h5
    have P : PA X [x, .Name (Str.ofString "ValueError") pn] _ := pa_cons (hs.1 c X _ h5 C) (pa_cons (pe_bltn (v := .ty "ValueError") (pos := pn) (C.glb h2) (C.bi _ (by decide)) boot_vE rfl (by decide) (by decide)) pa_nil rfl) (st _ _)
    refine ⟨CF.PE.weaken (pe_callB (isx_ok (W := F.W) C.x.xis) hg hm (by kernel_rfl) P (by decide) (by decide) (st _ _) rfl) fun σ H Q h => tO_mono (tE_one h) fun v H' z => ?_, rfl⟩
    obtain ⟨HF, d, d', sub, r, e, o⟩ := rV_one z
    cases d <;> cases e
    rcases r with r | ⟨_, _, _, _, q, _⟩
    · cases r with
      | exc hc h1 h2 h3 rv => exact ⟨_, _, _, _, _, _, _, .ty "ValueError", .type "ValueError", rfl, (fun u ru => by cases ru; rfl), hc, sub _ _ h1, sub _ _ h3, C.x.xv _ _ hc, out_v o (.bl _)⟩
    · cases q
  · cases h
theorem mk_e {p : Pr} {f : Str} {x : PySem.Expr} {pf pos : Pos} (h : ckMk c p (chkFs c as) f x = true) : PE X (.Call (.Name f pf) [x] [] pos) (tE F Γ (.pr p as)) ∧ isFresh (.pr p as) = false := by
  generalize hf : chkFs c as = fs at h
  unfold ckMk at h
  split at h
  · rename_i k a
    obtain ⟨a, rfl, rfl⟩ := chkFs_one hf
    simp only [Bool.and_eq_true, decide_eq_true_eq] at h
    obtain ⟨⟨⟨⟨⟨h1, hk⟩, h2⟩, h3⟩, h4⟩, h5⟩ := h
    obtain rfl := eqs_eq h1
    obtain ⟨a, rfl⟩ := isE_of h4
    have st := chkO_star h5
    obtain ⟨Cc, hCc⟩ := Option.isSome_iff_exists.mp (C.xs _ hk)
    obtain ⟨m1, m2, fI, D, X1, X2⟩ := C.x.xcl _ _ hCc
    have P : PA X [x] _ := pa_cons (hs.1 c X _ h5 C) pa_nil (st _ _)
    exact ⟨CF.PE.weaken (pe_callCls (rl_mk X1 X2 (C.bi _ (by decide)) C.dp) (C.glb h2) m1 m2 P (nmB_dbg h3).1 (st _ _) rfl) fun σ H Q h => tO_mono (tE_mk hCc h) fun v H' z => ⟨v, rfl, z⟩, rfl⟩
  · cases h
theorem call_e {p : Pr} {f : Str} {x : PySem.Expr} {xs : List PySem.Expr} {pf pos : Pos} (h : ckCall c p (chkFs c as) f (x :: xs) = true) :
    PE X (.Call (.Name f pf) (x :: xs) [] pos) (tE F Γ (.pr p as)) ∧ (isFresh (.pr p as) = true → PE X (.Call (.Name f pf) (x :: xs) [] pos) (tF F Γ (.pr p as))) := by
  have no : ∀ {q : Pr}, isFresh (.pr q as) = false → PE X (.Call (.Name f pf) (x :: xs) [] pos) (tE F Γ (.pr q as)) → PE X (.Call (.Name f pf) (x :: xs) [] pos) (tE F Γ (.pr q as)) ∧ (isFresh (.pr q as) = true → PE X (.Call (.Name f pf) (x :: xs) [] pos) (tF F Γ (.pr q as))) :=
    fun h P => ⟨P, fun z => by rw [h] at z; cases z⟩
  unfold ckCall at h
  split at h
  · simp only [Bool.and_eq_true] at h
    obtain ⟨⟨h1, h2⟩, h3⟩ := h
    obtain rfl := eqs_eq h1
    cases xs with
    | nil =>
      obtain ⟨a, b⟩ := rng_e C hs (pf := pf) (pos := pos) (C.glb h2) h3
      exact ⟨a, fun _ => b⟩
    | cons y ys => cases h3
  · simp only [Bool.and_eq_true] at h
    obtain ⟨⟨h1, h2⟩, h3⟩ := h
    obtain rfl := eqs_eq h1
    cases xs with
    | nil =>
      obtain ⟨a, b⟩ := rng_e C hs (pf := pf) (pos := pos) (C.glb h2) h3
      exact ⟨a, fun _ => b⟩
    | cons y ys => cases h3
  all_goals first
    | exact bi_e C hs h
    | skip
  all_goals first
    | (simp only [Bool.and_eq_true] at h
       obtain ⟨⟨h1, h2⟩, h3⟩ := h
       obtain rfl := eqs_eq h1
       split at h3
       · rename_i n pn e
         cases e
         obtain ⟨a, b⟩ := isi_e C hs (pf := pf) (pn := pn) (pos := pos) (C.glb h2) h3
         exact no b a
       · cases h3)
    | skip
  split at h
  · rename_i e
    cases e
    obtain ⟨a, b⟩ := mk_e C hs (pf := pf) (pos := pos) h
    exact no b a
  · cases h
theorem dct_e {p : Pr} {ks : List (Option PySem.Expr)} {vs : List PySem.Expr} {pos : Pos} (h : ckDct p (chkFs c as) ks vs = true) : PE X (.Dict ks vs pos) (tE F Γ (.pr p as)) ∧ isFresh (.pr p as) = false := by
  generalize hf : chkFs c as = fs at h
  unfold ckDct at h
  split at h
  · obtain rfl := chkFs_nil hf
    split at h
    · refine ⟨CF.PE.weaken pe_dnewK fun σ H Q q => ?_, rfl⟩
      obtain ⟨HF, η, d, η', S, e, k⟩ := q
      rw [evE, evOs] at e
      cases e
      intro q hq
      obtain ⟨S', g⟩ := S.alloc (o := .dK []) hq
      exact k _ _ _ S' (.alloc hq (S.sub.free hq)) (.dct upd_same .nil .nil)
    · cases h
  · rename_i k a
    obtain ⟨a, rfl, rfl⟩ := chkFs_one hf
    split at h
    · rename_i k' j pk v
      simp only [Bool.and_eq_true] at h
      obtain ⟨⟨h1, h2⟩, h3⟩ := h
      obtain rfl := eqs_eq h1
      obtain ⟨a, rfl⟩ := isE_of h2
      refine ⟨CF.PE.weaken (pe_disp (pps_cons pe_str (hs.1 c X v h3 C) pps_nil) rfl rfl (fun z => nomatch z) (by show 1 ≤ 15; decide)) fun σ H Q q => ?_, rfl⟩
      obtain ⟨HF, η, d, η', S, e, kk⟩ := q
      rw [evE] at e
      split at e
      · cases e
      rename_i ds η1 e1
      split at e
      · cases e
      rename_i ds' e2
      obtain ⟨d', e3, e4⟩ := Option.map_eq_some_iff.mp e
      cases e4
      rw [evOs] at e1
      split at e1
      · cases e1
      rename_i x ηa ea
      split at e1
      · cases e1
      rename_i xs ηb eb
      cases e1
      rw [evOs] at eb
      cases eb
      unfold finOs at e2
      split at e2
      · rename_i x' r1 f1 f2
        cases e2
        cases f1
        unfold finOs at f2
        cases f2
        cases e3
        intro q hq
        have S0 := S.allocOwn (o := .dK []) hq
        have s0 : Stp σ HF H η HF (upd H q (.dK [])) η := .allocOwn hq
        have h0 := S.dom hq
        have no : ¬ Own η σ q := own_tracked S hq
        refine ⟨HF, η, x, _, S0, ea, fun y H2 HF2 S2 s2 o2 => ?_⟩
        have ry : Rep F.W HF2 y x := o2
        have hq2 : H2 q = some (.dK []) := s2.k q _ upd_same no
        have no2 := fun z => no (s2.w q z)
        have hF2 : HF2 q = none := by
          cases w : HF2 q with
          | none => rfl
          | some o =>
            rcases s2.n q o w with z | z | z
            · rw [S.sub.free hq] at z
              cases z
            · rw [upd_same] at z
              cases z
            · exact absurd z no
        refine ⟨hq2, [(.inr k, y)], rfl, (by show 1 ≤ 15; decide), ?_⟩
        have S3 := S2.updX (o := .dK [(.inr k, y)]) hF2 h0 no2
        have S4 := S3.frz upd_same hF2 h0 no2
        have T := s0.trans s2
        refine kk _ _ _ S4 ⟨T.f.trans (Same.upd_new hF2), fun a o e n => ?_, fun a o e => ?_, T.w, fun a o e => ?_⟩ (.dct upd_same (.cons (.str k) .nil) (.cons (ry.mono (Same.upd_new hF2)) .nil))
        · rw [upd_ne (ne_of_none e hq)]
          exact T.k a o e n
        · by_cases ha : a = q
          · rw [ha]
            exact .inr (.inl hq)
          · rw [upd_ne ha] at e
            exact T.n a o e
        · obtain ⟨o', z⟩ := T.g a o e
          exact ⟨o', by rw [upd_ne (ne_of_none e hq)]; exact z⟩
      · cases e2
    · cases h
  · cases h
end
end CF

set_option Elab.async false
set_option linter.all false
set_option maxRecDepth 100000
namespace CF
open PySem PySem.Spec PyProof.Rows L2

section
variable {F : Fx} {Γ : Tab}
theorem se_pr {p : Pr} {as : Ops} (hs : AllO (SO F Γ) as) : SE F Γ (.pr p as) where
  pe := fun c X e h C => by
    rw [chkE] at h
    unfold chkPr at h
    split at h
    · exact (bin_e C hs h).1
    · exact (cmp_e C hs h).1
    · exact (un_e C hs h).1
    · exact (tup_e C hs h).1
    · exact (lst_e C hs h).1
    · exact (sub_e C hs h).1
    · exact (attr_e C hs h).1
    · rename_i f pf xs pos
      cases xs with
      | nil => cases h
      | cons x xs =>
        rw [Bool.and_eq_true] at h
        exact (call_e C hs h.2).1
    · exact (dct_e C hs h).1
    · cases h
  pt := fun c X e h C => by
    rw [chkE] at h
    unfold chkPr at h
    split at h
    · exact CF.PT.weaken (pt_val (bin_e C hs h).1) fun _ _ _ => tT_tE
    · exact (cmp_e C hs h).2.1
    · obtain ⟨a, rfl, _⟩ := un_e C hs h
      exact CF.PT.weaken (pt_val a) fun _ _ _ => tT_tE
    · exact CF.PT.weaken (pt_val (tup_e C hs h).1) fun _ _ _ => tT_tE
    · exact CF.PT.weaken (pt_val (lst_e C hs h).1) fun _ _ _ => tT_tE
    · exact CF.PT.weaken (pt_val (sub_e C hs h).1) fun _ _ _ => tT_tE
    · exact CF.PT.weaken (pt_val (attr_e C hs h).1) fun _ _ _ => tT_tE
    · rename_i f pf xs pos
      cases xs with
      | nil => cases h
      | cons x xs =>
        rw [Bool.and_eq_true] at h
        exact CF.PT.weaken (pt_val (call_e C hs h.2).1) fun _ _ _ => tT_tE
    · exact CF.PT.weaken (pt_val (dct_e C hs h).1) fun _ _ _ => tT_tE
    · cases h
  pw := fun c X op es p h C => by
    rw [chkE] at h
    cases h
  pf := fun c X e h C hf => by
    rw [chkE] at h
    unfold chkPr at h
    split at h
    · exact (bin_e C hs h).2 hf
    · rw [(cmp_e C hs (pos := default) h).2.2] at hf
      cases hf
    · rw [(un_e C hs (pos := default) h).2.2] at hf
      cases hf
    · rw [(tup_e C hs (k := 0) (pos := default) h).2] at hf
      cases hf
    · exact (lst_e C hs h).2
    · exact (sub_e C hs h).2 hf
    · rw [(attr_e C hs (pos := default) h).2] at hf
      cases hf
    · rename_i f pf xs pos
      cases xs with
      | nil => cases h
      | cons x xs =>
        rw [Bool.and_eq_true] at h
        exact (call_e C hs h.2).2 hf
    · rw [(dct_e C hs (pos := default) h).2] at hf
      cases hf
    · cases h

/-! ## names, constants -/
theorem tE_var {i : Nat} {σ : L2.St} {H : Hp} {Q : VK} (h : tE F Γ (.var i) σ H Q) : tVar i σ H Q := by
  obtain ⟨HF, η, d, η', S, e, k⟩ := h
  rw [evE] at e
  unfold rdVar at e
  split at e
  · rename_i d' e1
    cases e
    obtain ⟨v, q, r⟩ := S.slotV e1
    exact ⟨v, q, k v H HF S .refl r⟩
  · rename_i xs e1
    cases e
    obtain ⟨p, vs, q, hp, r, hF, _⟩ := S.slotL e1
    obtain ⟨S', g, r'⟩ := S.freeze e1 q hp
    refine ⟨.ref p, q, k _ H _ S' ⟨g, fun a o z _ => z, fun a o z => ?_, fun a ⟨j, br, ys, z, z2⟩ => ?_, fun _ o e => ⟨o, e⟩⟩ r'⟩
    · by_cases ha : a = p
      · subst ha
        exact .inr (.inr ⟨i, _, _, e1, q⟩)
      · rw [upd_ne ha] at z
        exact .inl z
    · by_cases hj : j = i
      · subst hj
        rw [List.getElem?_set_self (List.getElem?_eq_some_iff.mp e1).1] at z
        cases z
      · rw [List.getElem?_set_ne (Ne.symm hj)] at z
        exact ⟨j, br, ys, z, z2⟩
  · cases e
theorem se_var (i : Nat) : SE F Γ (.var i) := by
  have pe : ∀ (c : CI) (X : Cx) (e : PySem.Expr), chkE c (.var i) e = true → CtxOk X c Γ F.W → ∃ x pos, e = .Name x pos ∧ PE X e (tE F Γ (.var i)) := fun c X e h C => by
    unfold chkE at h
    split at h
    · simp only [Bool.and_eq_true] at h
      obtain ⟨h1, h2, _⟩ := nmB_dbg h.2
      exact ⟨_, _, rfl, CF.PE.weaken (pe_var (C.slot h.1.1) (C.vis h.1.2) h1 h2) fun _ _ _ => tE_var⟩
    · cases h
  refine ⟨fun c X e h C => (pe c X e h C).elim fun _ z => z.elim fun _ z => z.2, fun c X e h C => ?_, fun c X op es p h C => ?_, fun c X e h C hf => by cases hf⟩
  · obtain ⟨x, pos, rfl, P⟩ := pe c X e h C
    exact CF.PT.weaken (pt_val P) fun _ _ _ => tT_tE
  · unfold chkE at h
    cases h
theorem cst_rep {W : Wd} {H : Hp} {k : Const} {d : Dv} (h : cstD k = some d) : Rep W H (cstV k) d := by
  cases k <;> cases h
  · exact .non
  · exact .bl _
  · exact .int _
  · exact .str _
theorem se_cst (k : Const) : SE F Γ (.cst k) := by
  have pe : ∀ (c : CI) (X : Cx) (e : PySem.Expr), chkE c (.cst k) e = true → CtxOk X c Γ F.W → ∃ x j pos, e = .Constant x j pos ∧ PE X e (tE F Γ (.cst k)) := fun c X e h C => by
    unfold chkE at h
    split at h
    · rename_i k' j pos
      simp only [Bool.and_eq_true, decide_eq_true_eq] at h
      obtain ⟨rfl, h2⟩ := h
      have go : ∀ σ H Q, tE F Γ (.cst k) σ H Q → Q (cstV k) H := fun σ H Q h => by
        obtain ⟨HF, η, d, η', S, e, kk⟩ := h
        rw [evE] at e
        obtain ⟨d', e1, e2⟩ := Option.map_eq_some_iff.mp e
        cases e2
        exact kk _ H HF S .refl (cst_rep e1)
      refine ⟨_, _, _, rfl, ?_⟩
      cases k with
      | none => exact CF.PE.weaken pe_non go
      | bool b => exact CF.PE.weaken pe_bl go
      | int i => exact CF.PE.weaken pe_int go
      | str x => exact CF.PE.weaken pe_str go
      | _ => cases h2
    · cases h
  refine ⟨fun c X e h C => (pe c X e h C).elim fun _ z => z.elim fun _ z => z.elim fun _ z => z.2, fun c X e h C => ?_, fun c X op es p h C => ?_, fun c X e h C hf => by cases hf⟩
  · obtain ⟨x, j, pos, rfl, P⟩ := pe c X e h C
    exact CF.PT.weaken (pt_val P) fun _ _ _ => tT_tE
  · unfold chkE at h
    cases h
theorem se_glb (x : Str) (k : Const) : SE F Γ (.glb x k) := by
  have pe : ∀ (c : CI) (X : Cx) (e : PySem.Expr), chkE c (.glb x k) e = true → CtxOk X c Γ F.W → ∃ x pos, e = .Name x pos ∧ PE X e (tE F Γ (.glb x k)) := fun c X e h C => by
    unfold chkE at h
    split at h
    · rename_i y pos
      simp only [Bool.and_eq_true, decide_eq_true_eq] at h
      obtain ⟨⟨⟨⟨h1, h2⟩, h3⟩, h4⟩, h5⟩ := h
      obtain rfl := eqs_eq h1
      obtain ⟨u, hm, r⟩ := C.gl _ _ h4
      refine ⟨_, _, rfl, CF.PE.weaken (pe_glob (C.glb h2) hm r (nmB_dbg h3).1) fun σ H Q h => ?_⟩
      obtain ⟨HF, η, d, η', S, e, kk⟩ := h
      rw [evE] at e
      obtain ⟨d', e1, e2⟩ := Option.map_eq_some_iff.mp e
      cases e2
      exact kk _ H HF S .refl (cst_rep e1)
    · cases h
  refine ⟨fun c X e h C => (pe c X e h C).elim fun _ z => z.elim fun _ z => z.2, fun c X e h C => ?_, fun c X op es p h C => ?_, fun c X e h C hf => by cases hf⟩
  · obtain ⟨x, pos, rfl, P⟩ := pe c X e h C
    exact CF.PT.weaken (pt_val P) fun _ _ _ => tT_tE
  · unfold chkE at h
    cases h

/-! ## and, or, not, if -/
theorem tE_and {a b : Ex} {σ : L2.St} {H : Hp} {Q : VK} (h : tE F Γ (.and a b) σ H Q) : tAndV (tE F Γ a) (tE F Γ b) σ H Q := by
  obtain ⟨HF, η, d, η', S, e, k⟩ := h
  rw [evE] at e
  split at e
  · rename_i η1 e1
    refine ⟨HF, η, _, η1, S, e1, fun v H1 HF1 S1 s1 r => ?_⟩
    cases r
    refine ⟨true, rfl, ?_⟩
    show (if true = true then _ else _)
    rw [if_pos rfl]
    exact ⟨HF1, η1, d, η', S1, e, fun v H2 HF2 S2 s2 r => k v H2 HF2 S2 (s1.trans s2) r⟩
  · rename_i η1 e1
    cases e
    refine ⟨HF, η, _, _, S, e1, fun v H1 HF1 S1 s1 r => ?_⟩
    cases r
    refine ⟨false, rfl, ?_⟩
    show (if false = true then _ else _)
    rw [if_neg Bool.false_ne_true]
    exact k _ H1 HF1 S1 s1 (.bl false)
  · cases e
theorem tE_or {a b : Ex} {σ : L2.St} {H : Hp} {Q : VK} (h : tE F Γ (.or a b) σ H Q) : tOrV (tE F Γ a) (tE F Γ b) σ H Q := by
  obtain ⟨HF, η, d, η', S, e, k⟩ := h
  rw [evE] at e
  split at e
  · rename_i η1 e1
    cases e
    refine ⟨HF, η, _, _, S, e1, fun v H1 HF1 S1 s1 r => ?_⟩
    cases r
    refine ⟨true, rfl, ?_⟩
    show (if true = true then _ else _)
    rw [if_pos rfl]
    exact k _ H1 HF1 S1 s1 (.bl true)
  · rename_i η1 e1
    refine ⟨HF, η, _, η1, S, e1, fun v H1 HF1 S1 s1 r => ?_⟩
    cases r
    refine ⟨false, rfl, ?_⟩
    show (if false = true then _ else _)
    rw [if_neg Bool.false_ne_true]
    exact ⟨HF1, η1, d, η', S1, e, fun v H2 HF2 S2 s2 r => k v H2 HF2 S2 (s1.trans s2) r⟩
  · cases e
theorem tT_and {a b : Ex} {σ : L2.St} {H : Hp} {Q : Bool → Hp → Prop} (h : tT F Γ (.and a b) σ H Q) : tAnd (tT F Γ a) (tT F Γ b) σ H Q := by
  obtain ⟨HF, η, d, η', S, e, k⟩ := h
  rw [evE] at e
  split at e
  · rename_i η1 e1
    refine ⟨HF, η, _, η1, S, e1, fun H1 HF1 S1 s1 => ?_⟩
    show (if true = true then _ else _)
    rw [if_pos rfl]
    exact ⟨HF1, η1, d, η', S1, e, fun H2 HF2 S2 s2 => k H2 HF2 S2 (s1.trans s2)⟩
  · rename_i η1 e1
    cases e
    refine ⟨HF, η, _, _, S, e1, fun H1 HF1 S1 s1 => ?_⟩
    show (if false = true then _ else _)
    rw [if_neg Bool.false_ne_true]
    exact k H1 HF1 S1 s1
  · cases e
theorem tT_or {a b : Ex} {σ : L2.St} {H : Hp} {Q : Bool → Hp → Prop} (h : tT F Γ (.or a b) σ H Q) : tOr (tT F Γ a) (tT F Γ b) σ H Q := by
  obtain ⟨HF, η, d, η', S, e, k⟩ := h
  rw [evE] at e
  split at e
  · rename_i η1 e1
    cases e
    refine ⟨HF, η, _, _, S, e1, fun H1 HF1 S1 s1 => ?_⟩
    show (if true = true then _ else _)
    rw [if_pos rfl]
    exact k H1 HF1 S1 s1
  · rename_i η1 e1
    refine ⟨HF, η, _, η1, S, e1, fun H1 HF1 S1 s1 => ?_⟩
    show (if false = true then _ else _)
    rw [if_neg Bool.false_ne_true]
    exact ⟨HF1, η1, d, η', S1, e, fun H2 HF2 S2 s2 => k H2 HF2 S2 (s1.trans s2)⟩
  · cases e
theorem se_and {a b : Ex} (ha : SE F Γ a) (hb : SE F Γ b) : SE F Γ (.and a b) := by
  have both : ∀ (c : CI) (X : Cx) (e : PySem.Expr), chkE c (.and a b) e = true → CtxOk X c Γ F.W → PE X e (tE F Γ (.and a b)) ∧ PW X e (tT F Γ (.and a b)) := fun c X e h C => by
    unfold chkE at h
    split at h
    · rw [Bool.and_eq_true] at h
      exact ⟨CF.PE.weaken (pe_and (ha.pe c X _ h.1 C) (pe_one (hb.pe c X _ h.2 C))) fun _ _ _ => tE_and, ⟨fun wh pins s σ H Q I q => (pw_and (ha.pt c X _ h.1 C) (pw_and1 (hb.pt c X _ h.2 C))).run wh pins s σ H Q I (tT_and q)⟩⟩
    · rw [Bool.and_eq_true] at h
      exact ⟨CF.PE.weaken (pe_and (ha.pe c X _ h.1 C) (hb.pe c X _ h.2 C)) fun _ _ _ => tE_and, ⟨fun wh pins s σ H Q I q => (pw_and (ha.pt c X _ h.1 C) (hb.pw c X _ _ _ h.2 C)).run wh pins s σ H Q I (tT_and q)⟩⟩
    · cases h
  exact ⟨fun c X e h C => (both c X e h C).1, fun c X e h C => (both c X e h C).2.pt, fun c X op es p h C => (both c X _ h C).2, fun c X e h C hf => by cases hf⟩
theorem se_or {a b : Ex} (ha : SE F Γ a) (hb : SE F Γ b) : SE F Γ (.or a b) := by
  have both : ∀ (c : CI) (X : Cx) (e : PySem.Expr), chkE c (.or a b) e = true → CtxOk X c Γ F.W → PE X e (tE F Γ (.or a b)) ∧ PW X e (tT F Γ (.or a b)) := fun c X e h C => by
    unfold chkE at h
    split at h
    · rw [Bool.and_eq_true] at h
      exact ⟨CF.PE.weaken (pe_or (ha.pe c X _ h.1 C) (pe_one (hb.pe c X _ h.2 C))) fun _ _ _ => tE_or, ⟨fun wh pins s σ H Q I q => (pw_or (ha.pt c X _ h.1 C) (pw_or1 (hb.pt c X _ h.2 C))).run wh pins s σ H Q I (tT_or q)⟩⟩
    · rw [Bool.and_eq_true] at h
      exact ⟨CF.PE.weaken (pe_or (ha.pe c X _ h.1 C) (hb.pe c X _ h.2 C)) fun _ _ _ => tE_or, ⟨fun wh pins s σ H Q I q => (pw_or (ha.pt c X _ h.1 C) (hb.pw c X _ _ _ h.2 C)).run wh pins s σ H Q I (tT_or q)⟩⟩
    · cases h
  exact ⟨fun c X e h C => (both c X e h C).1, fun c X e h C => (both c X e h C).2.pt, fun c X op es p h C => (both c X _ h C).2, fun c X e h C hf => by cases hf⟩
theorem se_not {a : Ex} (ha : SE F Γ a) : SE F Γ (.not a) := by
  have both : ∀ (c : CI) (X : Cx) (e : PySem.Expr), chkE c (.not a) e = true → CtxOk X c Γ F.W → PE X e (tE F Γ (.not a)) ∧ PT X e (tT F Γ (.not a)) := fun c X e h C => by
    unfold chkE at h
    split at h
    · refine ⟨CF.PE.weaken (pe_not (ha.pe c X _ h C)) fun σ H Q h => ?_, CF.PT.weaken (pt_not (ha.pt c X _ h C)) fun σ H Q h => ?_⟩
      · obtain ⟨HF, η, d, η', S, e, k⟩ := h
        rw [evE] at e
        split at e
        · rename_i b η1 e1
          cases e
          refine ⟨HF, η, _, _, S, e1, fun v H1 HF1 S1 s1 r => ?_⟩
          cases r
          exact ⟨b, rfl, k _ H1 HF1 S1 s1 (.bl _)⟩
        · cases e
      · obtain ⟨HF, η, d, η', S, e, k⟩ := h
        rw [evE] at e
        split at e
        · rename_i b η1 e1
          cases e
          exact ⟨HF, η, _, _, S, e1, fun H1 HF1 S1 s1 => k H1 HF1 S1 s1⟩
        · cases e
    · cases h
  refine ⟨fun c X e h C => (both c X e h C).1, fun c X e h C => (both c X e h C).2, fun c X op es p h C => ?_, fun c X e h C hf => by cases hf⟩
  unfold chkE at h
  cases h
theorem pt_if {X : Cx} {c a b : PySem.Expr} {tA tB tC : TT} {pos : Pos} (hc : PT X c tA) (ha : PT X a tB) (hb : PT X b tC) : PT X (.IfExp c a b pos) (fun σ H Q => tA σ H fun k H1 => if k = true then tB σ H1 Q else tC σ H1 Q) := by
  refine ⟨fun pins s σ H Q I h => ?_⟩
  refine isTrue_IfExp (thn (hc.run pins s σ H _ I h) fun d s1 ⟨H1, I1, q1⟩ => ?_)
  cases d with
  | true => exact ha.run pins s1 σ H1 Q I1 q1
  | false => exact hb.run pins s1 σ H1 Q I1 q1
theorem se_ite {t a b : Ex} (ht : SE F Γ t) (ha : SE F Γ a) (hb : SE F Γ b) : SE F Γ (.ite t a b) := by
  have both : ∀ (c : CI) (X : Cx) (e : PySem.Expr), chkE c (.ite t a b) e = true → CtxOk X c Γ F.W → PE X e (tE F Γ (.ite t a b)) ∧ PT X e (tT F Γ (.ite t a b)) := fun c X e h C => by
    unfold chkE at h
    split at h
    · simp only [Bool.and_eq_true] at h
      refine ⟨CF.PE.weaken (pe_ifExp (ht.pt c X _ h.1.1 C) (ha.pe c X _ h.1.2 C) (hb.pe c X _ h.2 C)) fun σ H Q h => ?_, CF.PT.weaken (pt_if (ht.pt c X _ h.1.1 C) (ha.pt c X _ h.1.2 C) (hb.pt c X _ h.2 C)) fun σ H Q h => ?_⟩
      · obtain ⟨HF, η, d, η', S, e, k⟩ := h
        rw [evE] at e
        split at e
        · rename_i η1 e1
          refine ⟨HF, η, _, η1, S, e1, fun H1 HF1 S1 s1 => ?_⟩
          show (if true = true then _ else _)
          rw [if_pos rfl]
          exact ⟨HF1, η1, d, η', S1, e, fun v H2 HF2 S2 s2 r => k v H2 HF2 S2 (s1.trans s2) r⟩
        · rename_i η1 e1
          refine ⟨HF, η, _, η1, S, e1, fun H1 HF1 S1 s1 => ?_⟩
          show (if false = true then _ else _)
          rw [if_neg Bool.false_ne_true]
          exact ⟨HF1, η1, d, η', S1, e, fun v H2 HF2 S2 s2 r => k v H2 HF2 S2 (s1.trans s2) r⟩
        · cases e
      · obtain ⟨HF, η, d, η', S, e, k⟩ := h
        rw [evE] at e
        split at e
        · rename_i η1 e1
          refine ⟨HF, η, _, η1, S, e1, fun H1 HF1 S1 s1 => ?_⟩
          show (if true = true then _ else _)
          rw [if_pos rfl]
          exact ⟨HF1, η1, d, η', S1, e, fun H2 HF2 S2 s2 => k H2 HF2 S2 (s1.trans s2)⟩
        · rename_i η1 e1
          refine ⟨HF, η, _, η1, S, e1, fun H1 HF1 S1 s1 => ?_⟩
          show (if false = true then _ else _)
          rw [if_neg Bool.false_ne_true]
          exact ⟨HF1, η1, d, η', S1, e, fun H2 HF2 S2 s2 => k H2 HF2 S2 (s1.trans s2)⟩
        · cases e
    · cases h
  refine ⟨fun c X e h C => (both c X e h C).1, fun c X e h C => (both c X e h C).2, fun c X op es p h C => ?_, fun c X e h C hf => by cases hf⟩
  unfold chkE at h
  cases h
theorem tE_chain {o1 o2 : CmpOp} {a b d : Op} {σ : L2.St} {H : Hp} {Q : VK} (h : tE F Γ (.chain o1 o2 a b d) σ H Q) :
    tChain (fun x y H Q => rV F.W (.cmp o1) [x, y] H Q) (fun x y H Q => rV F.W (.cmp o2) [x, y] H Q) (tO F Γ a) (tO F Γ b) (tO F Γ d) σ H Q := by
  obtain ⟨HF, η, r, η', S, e, k⟩ := h
  rw [evE] at e
  split at e
  · cases e
  rename_i x η1 ea
  split at e
  · cases e
  rename_i y η2 eb
  split at e
  · rename_i x' y' fx fy
    refine ⟨HF, η, x, η1, S, ea, fun vx H1 HF1 S1 s1 ox => ⟨HF1, η1, y, η2, S1, eb, fun vy H2 HF2 S2 s2 oy => ?_⟩⟩
    have rx := (ox.mono s2.f).fin S2 fx
    have ry := oy.fin S2 fy
    split at e
    · rename_i ec
      cases e
      refine ⟨HF2, [x', y'], .bl false, S2.sub, ⟨rx, ry, trivial⟩, (by show (cmpD o1 x' y').map Dv.bl = _; rw [ec]; rfl), fun v q => ?_, fun _ _ _ z => (by cases z), fun _ _ _ z => (by cases z)⟩
      cases q
      refine ⟨false, rfl, ?_⟩
      rw [if_neg Bool.false_ne_true]
      exact k _ H2 HF2 S2 (s1.trans s2) (.bl false)
    · rename_i ec
      split at e
      · cases e
      rename_i z η3 ed
      split at e
      · rename_i y2 z2 gy gz
        obtain ⟨r2, e2, e3⟩ := Option.map_eq_some_iff.mp e
        cases e3
        refine ⟨HF2, [x', y'], .bl true, S2.sub, ⟨rx, ry, trivial⟩, (by show (cmpD o1 x' y').map Dv.bl = _; rw [ec]; rfl), fun v q => ?_, fun _ _ _ z => (by cases z), fun _ _ _ z => (by cases z)⟩
        cases q
        refine ⟨true, rfl, ?_⟩
        rw [if_pos rfl]
        refine ⟨HF2, η2, z, _, S2, ed, fun vz H3 HF3 S3 s3 oz => ⟨HF3, [y2, z2], .bl r2, S3.sub, ⟨(oy.mono s3.f).fin S3 gy, oz.fin S3 gz, trivial⟩, (by show (cmpD o2 y2 z2).map Dv.bl = _; rw [e2]; rfl), fun v q => ?_, fun _ _ _ z => (by cases z), fun _ _ _ z => (by cases z)⟩⟩
        exact k _ H3 HF3 S3 (s1.trans (s2.trans s3)) q
      · cases e
    · cases e
  · cases e
theorem se_chain {o1 o2 : CmpOp} {a b d : Op} (ha : SO F Γ a) (hb : SO F Γ b) (hd : SO F Γ d) : SE F Γ (.chain o1 o2 a b d) := by
  have both : ∀ (c : CI) (X : Cx) (e : PySem.Expr), chkE c (.chain o1 o2 a b d) e = true → CtxOk X c Γ F.W → PE X e (tE F Γ (.chain o1 o2 a b d)) ∧ PT X e (tT F Γ (.chain o1 o2 a b d)) := fun c X e h C => by
    unfold chkE at h
    split at h
    · simp only [Bool.and_eq_true, decide_eq_true_eq, Bool.not_eq_true'] at h
      obtain ⟨⟨⟨⟨⟨⟨⟨⟨h0, rfl⟩, rfl⟩, h1⟩, h2⟩, h3⟩, _⟩, _⟩, _⟩ := h
      exact ⟨CF.PE.weaken (pe_chain (cmp_ok C.K C.hu _) (cmp_ok C.K C.hu _) (ha c X _ h1 C) (hb c X _ h2 C) (hd c X _ h3 C) h0) fun _ _ _ => tE_chain, CF.PT.weaken (pt_chain (cmp_ok C.K C.hu _) (cmp_ok C.K C.hu _) (ha c X _ h1 C) (hb c X _ h2 C) (hd c X _ h3 C) h0) fun _ _ _ h => tE_chain (tT_tE h)⟩
    · cases h
  refine ⟨fun c X e h C => (both c X e h C).1, fun c X e h C => (both c X e h C).2, fun c X op es p h C => ?_, fun c X e h C hf => by cases hf⟩
  unfold chkE at h
  cases h
end
end CF

set_option Elab.async false
set_option linter.all false
set_option maxRecDepth 100000
namespace CF
open PySem PySem.Spec PyProof.Rows L2

/-! ## targets -/
def tgOk (e : PySem.Expr) : Prop := ∀ (es : List PySem.Expr) (env : PySem.Env), assignEach (e :: es) env = (false, assign e env) :: assignEach es env
def gT (F : Fx) (tg : Tg) : TG := fun v σ H Q => ∃ HF η d η', SR F HF σ H η ∧ Rep F.W HF v d ∧ setTg tg d η = some η' ∧
  ∀ σ', SR F HF σ' H η' → (∀ j, j ∉ tgSlots tg → σ'[j]? = σ[j]?) → σ'.length = σ.length → (∀ a, Own η' σ' a → Own η σ a) → Q σ' H
theorem PG.weaken {X : Cx} {e : PySem.Expr} {t t' : TG} (h : PG X e t) (k : ∀ v σ H Q, t' v σ H Q → t v σ H Q) : PG X e t' := ⟨fun pins s σ H v u Q I r q => h.run pins s σ H v u Q I r (k v σ H Q q)⟩
theorem free_lt {η : CF.Env} {i : Nat} (h : free η i = true) : i < η.length := by
  unfold free at h
  split at h
  · cases h
  · rename_i sv _ e
    exact (List.getElem?_eq_some_iff.mp e).1
  · cases h
theorem Reps.pair {W : Wd} {H : Hp} {vs : List V} {a b : Dv} (r : Reps W H vs [a, b]) : ∃ u v, vs = [u, v] ∧ Rep W H u a ∧ Rep W H v b := by
  cases r with
  | cons h1 r => cases r with
    | cons h2 r => cases r; exact ⟨_, _, rfl, h1, h2⟩
theorem Reps.trip {W : Wd} {H : Hp} {vs : List V} {a b c : Dv} (r : Reps W H vs [a, b, c]) : ∃ u v w, vs = [u, v, w] ∧ Rep W H u a ∧ Rep W H v b ∧ Rep W H w c := by
  cases r with
  | cons h1 r =>
    obtain ⟨_, _, rfl, h2, h3⟩ := r.pair
    exact ⟨_, _, _, rfl, h1, h2, h3⟩
theorem Reps.quad {W : Wd} {H : Hp} {vs : List V} {a b c d : Dv} (r : Reps W H vs [a, b, c, d]) : ∃ u v w z, vs = [u, v, w, z] ∧ Rep W H u a ∧ Rep W H v b ∧ Rep W H w c ∧ Rep W H z d := by
  cases r with
  | cons h1 r =>
    obtain ⟨_, _, _, rfl, h2, h3, h4⟩ := r.trip
    exact ⟨_, _, _, _, rfl, h1, h2, h3, h4⟩
theorem rep_tup {W : Wd} {H : Hp} {v : V} {xs : List Dv} (r : Rep W H v (.tup xs)) : ∃ p vs, v = .ref p ∧ SqT W.K H p vs ∧ Reps W H vs xs := by
  cases r with
  | tup h rs => exact ⟨_, _, rfl, h, rs⟩
theorem setTg_two {a b : Tg} {d : Dv} {η η' : CF.Env} (e : setTg (.two a b) d η = some η') : ∃ x y η1, d = .tup [x, y] ∧ setTg a x η = some η1 ∧ setTg b y η1 = some η' := by
  cases d with
  | tup xs =>
    match xs, e with
    | [x, y], e =>
      obtain ⟨η1, e1, e2⟩ := Option.bind_eq_some_iff.mp (show (setTg a x η).bind (setTg b y) = some η' from e)
      exact ⟨x, y, η1, rfl, e1, e2⟩
    | [], e => cases e
    | [_], e => cases e
    | _ :: _ :: _ :: _, e => cases e
  | _ => cases e
theorem setTg_three {a b c : Tg} {d : Dv} {η η' : CF.Env} (e : setTg (.three a b c) d η = some η') : ∃ x y z η1 η2, d = .tup [x, y, z] ∧ setTg a x η = some η1 ∧ setTg b y η1 = some η2 ∧ setTg c z η2 = some η' := by
  cases d with
  | tup xs =>
    match xs, e with
    | [x, y, z], e =>
      obtain ⟨η2, e0, e3⟩ := Option.bind_eq_some_iff.mp (show ((setTg a x η).bind (setTg b y)).bind (setTg c z) = some η' from e)
      obtain ⟨η1, e1, e2⟩ := Option.bind_eq_some_iff.mp e0
      exact ⟨x, y, z, η1, η2, rfl, e1, e2, e3⟩
    | [], e => cases e
    | [_], e => cases e
    | [_, _], e => cases e
    | _ :: _ :: _ :: _ :: _, e => cases e
  | _ => cases e
theorem setTg_four {a b c f : Tg} {d : Dv} {η η' : CF.Env} (e : setTg (.four a b c f) d η = some η') : ∃ x y z w η1 η2 η3, d = .tup [x, y, z, w] ∧ setTg a x η = some η1 ∧ setTg b y η1 = some η2 ∧ setTg c z η2 = some η3 ∧ setTg f w η3 = some η' := by
  cases d with
  | tup xs =>
    match xs, e with
    | [x, y, z, w], e =>
      obtain ⟨η3, ee, e4⟩ := Option.bind_eq_some_iff.mp (show (((setTg a x η).bind (setTg b y)).bind (setTg c z)).bind (setTg f w) = some η' from e)
      obtain ⟨η2, e0, e3⟩ := Option.bind_eq_some_iff.mp ee
      obtain ⟨η1, e1, e2⟩ := Option.bind_eq_some_iff.mp e0
      exact ⟨x, y, z, w, η1, η2, η3, rfl, e1, e2, e3, e4⟩
    | [], e => cases e
    | [_], e => cases e
    | [_, _], e => cases e
    | [_, _, _], e => cases e
    | _ :: _ :: _ :: _ :: _ :: _, e => cases e
  | _ => cases e
section
variable {F : Fx}
/-- one target behind another -/
theorem gT_cons {tg : Tg} {v : V} {σ : L2.St} {H HF : Hp} {η η' : CF.Env} {d : Dv} {Q : L2.St → Hp → Prop} (S : SR F HF σ H η) (r : Rep F.W HF v d) (e : setTg tg d η = some η')
    (k : ∀ σ', SR F HF σ' H η' → (∀ j, j ∉ tgSlots tg → σ'[j]? = σ[j]?) → σ'.length = σ.length → (∀ a, Own η' σ' a → Own η σ a) → Q σ' H) : gT F tg v σ H Q := ⟨HF, η, d, η', S, r, e, k⟩
theorem pg_ok {c : CI} {X : Cx} (C : CtxOk X c Γ F.W) : ∀ (tg : Tg) (e : PySem.Expr), chkG c tg e = true → PG X e (gT F tg) ∧ tgOk e
  | .n i, e, h => by
    unfold chkG at h
    split at h
    · rw [Bool.and_eq_true] at h
      obtain ⟨h1, h2⟩ := C.sto h.2
      refine ⟨CF.PG.weaken (pg_name (by rw [C.N]; exact C.nd) (C.slot h.1) h1 h2) fun v σ H Q q => ?_, fun _ _ => rfl⟩
      obtain ⟨HF, η, d, η', S, r, e, k⟩ := q
      unfold setTg at e
      obtain ⟨e1, rfl⟩ := if_some e
      have hi : i < σ.length := by
        rw [← S.len]
        exact free_lt e1
      refine k _ (S.setDat r hi) (fun j hj => ?_) (List.length_set ..) fun a ⟨j, br, xs, z1, z2⟩ => ?_
      · rw [List.getElem?_set_ne]
        intro z
        exact hj (by rw [← z]; exact List.mem_singleton.mpr rfl)
      · by_cases hj : j = i
        · subst hj
          rw [List.getElem?_set_self (by rw [S.len]; exact hi)] at z1
          cases z1
        · rw [List.getElem?_set_ne (Ne.symm hj)] at z1 z2
          exact ⟨j, br, xs, z1, z2⟩
    · cases h
  | .two a b, e, h => by
    unfold chkG at h
    split at h
    · rename_i x y _ _
      rw [Bool.and_eq_true] at h
      obtain ⟨p1, t1⟩ := pg_ok C a x h.1
      obtain ⟨p2, t2⟩ := pg_ok C b y h.2
      have P : PGs X [x, y] _ := pgs_cons p1 (pgs_cons p2 pgs_nil (by rw [t2]; rfl)) (by rw [t1]; rfl)
      refine ⟨CF.PG.weaken (pg_tup (n := 2) C.calm P (by rw [t1, t2]; rfl) (by rw [t1, t2]; rfl)) fun v σ H Q q => ?_, fun _ _ => rfl⟩
      obtain ⟨HF, η, d, η', S, r, e, k⟩ := q
      obtain ⟨_, _, η1, rfl, e1, e2⟩ := setTg_two e
      obtain ⟨p, vs, rfl, hq, rs⟩ := rep_tup r
      obtain ⟨u1, u2, rfl, r1, r2⟩ := rs.pair
      refine ⟨p, _, rfl, C.K ▸ Same.sqT S.sub hq, rfl, u1, _, rfl, gT_cons S r1 e1 fun σ1 S1 g1 l1 o1 => ⟨u2, _, rfl, gT_cons S1 r2 e2 fun σ2 S2 g2 l2 o2 => ⟨rfl, k σ2 S2 (fun j hj => ?_) (l2.trans l1) fun a z => o1 a (o2 a z)⟩⟩⟩
      simp only [tgSlots, List.mem_append, not_or] at hj
      rw [g2 j hj.2, g1 j hj.1]
    · cases h
  | .three a b d, e, h => by
    unfold chkG at h
    split at h
    · rename_i x y z _ _
      simp only [Bool.and_eq_true] at h
      obtain ⟨p1, t1⟩ := pg_ok C a x h.1.1
      obtain ⟨p2, t2⟩ := pg_ok C b y h.1.2
      obtain ⟨p3, t3⟩ := pg_ok C d z h.2
      have P : PGs X [x, y, z] _ := pgs_cons p1 (pgs_cons p2 (pgs_cons p3 pgs_nil (by rw [t3]; rfl)) (by rw [t2]; rfl)) (by rw [t1]; rfl)
      refine ⟨CF.PG.weaken (pg_tup (n := 3) C.calm P (by rw [t1, t2, t3]; rfl) (by rw [t1, t2, t3]; rfl)) fun v σ H Q q => ?_, fun _ _ => rfl⟩
      obtain ⟨HF, η, d', η', S, r, e, k⟩ := q
      obtain ⟨_, _, _, η1, η2, rfl, e1, e2, e3⟩ := setTg_three e
      obtain ⟨p, vs, rfl, hq, rs⟩ := rep_tup r
      obtain ⟨u1, u2, u3, rfl, r1, r2, r3⟩ := rs.trip
      refine ⟨p, _, rfl, C.K ▸ Same.sqT S.sub hq, rfl, u1, _, rfl, gT_cons S r1 e1 fun σ1 S1 g1 l1 o1 => ⟨u2, _, rfl, gT_cons S1 r2 e2 fun σ2 S2 g2 l2 o2 => ⟨u3, _, rfl, gT_cons S2 r3 e3 fun σ3 S3 g3 l3 o3 => ⟨rfl, k σ3 S3 (fun j hj => ?_) (l3.trans (l2.trans l1)) fun a z => o1 a (o2 a (o3 a z))⟩⟩⟩⟩
      simp only [tgSlots, List.mem_append, not_or] at hj
      rw [g3 j hj.2.2, g2 j hj.2.1, g1 j hj.1]
    · cases h
  | .four a b d f, e, h => by
    unfold chkG at h
    split at h
    · rename_i x y z w _ _
      simp only [Bool.and_eq_true] at h
      obtain ⟨p1, t1⟩ := pg_ok C a x h.1.1.1
      obtain ⟨p2, t2⟩ := pg_ok C b y h.1.1.2
      obtain ⟨p3, t3⟩ := pg_ok C d z h.1.2
      obtain ⟨p4, t4⟩ := pg_ok C f w h.2
      have P : PGs X [x, y, z, w] _ := pgs_cons p1 (pgs_cons p2 (pgs_cons p3 (pgs_cons p4 pgs_nil (by rw [t4]; rfl)) (by rw [t3]; rfl)) (by rw [t2]; rfl)) (by rw [t1]; rfl)
      refine ⟨CF.PG.weaken (pg_tup (n := 4) C.calm P (by rw [t1, t2, t3, t4]; rfl) (by rw [t1, t2, t3, t4]; rfl)) fun v σ H Q q => ?_, fun _ _ => rfl⟩
      obtain ⟨HF, η, d', η', S, r, e, k⟩ := q
      obtain ⟨_, _, _, _, η1, η2, η3, rfl, e1, e2, e3, e4⟩ := setTg_four e
      obtain ⟨p, vs, rfl, hq, rs⟩ := rep_tup r
      obtain ⟨u1, u2, u3, u4, rfl, r1, r2, r3, r4⟩ := rs.quad
      refine ⟨p, _, rfl, C.K ▸ Same.sqT S.sub hq, rfl, u1, _, rfl, gT_cons S r1 e1 fun σ1 S1 g1 l1 o1 => ⟨u2, _, rfl, gT_cons S1 r2 e2 fun σ2 S2 g2 l2 o2 => ⟨u3, _, rfl, gT_cons S2 r3 e3 fun σ3 S3 g3 l3 o3 => ⟨u4, _, rfl, gT_cons S3 r4 e4 fun σ4 S4 g4 l4 o4 => ⟨rfl, k σ4 S4 (fun j hj => ?_) (l4.trans (l3.trans (l2.trans l1))) fun a z => o1 a (o2 a (o3 a (o4 a z)))⟩⟩⟩⟩⟩
      simp only [tgSlots, List.mem_append, not_or] at hj
      rw [g4 j hj.2.2.2, g3 j hj.2.2.1, g2 j hj.2.1, g1 j hj.1]
    · cases h
end
end CF

set_option Elab.async false
set_option linter.all false
set_option maxRecDepth 100000
namespace CF
open PySem PySem.Spec PyProof.Rows L2

section
variable {F : Fx} {HF HF' : Hp} {σ σ' : L2.St} {H H' : Hp} {η η' : CF.Env}
theorem wipeE_len : ∀ vs : List Nat, (wipeE η vs).length = η.length
  | [] => rfl
  | v :: vs => by
    unfold wipeE
    rw [List.length_set, wipeE_len vs]
theorem wipeE_out {i : Nat} : ∀ {vs : List Nat}, i ∉ vs → (wipeE η vs)[i]? = η[i]?
  | [], _ => rfl
  | v :: vs, h => by
    have h1 : v ≠ i := fun e => h (by rw [e]; exact List.mem_cons_self)
    unfold wipeE
    rw [List.getElem?_set_ne h1]
    exact wipeE_out fun m => h (List.mem_cons_of_mem _ m)
theorem wipeE_in {i : Nat} : ∀ {vs : List Nat}, i ∈ vs → i < η.length → (wipeE η vs)[i]? = some .no
  | v :: vs, h, hl => by
    unfold wipeE
    by_cases e : v = i
    · subst e
      rw [List.getElem?_set_self (by rw [wipeE_len]; exact hl)]
    · rw [List.getElem?_set_ne e]
      refine wipeE_in ?_ hl
      rcases List.mem_cons.mp h with z | z
      · exact absurd z.symm e
      · exact z
theorem unwipe_len {η0 : CF.Env} : ∀ vs : List Nat, (unwipe η0 η vs).length = η.length
  | [] => rfl
  | v :: vs => by
    unfold unwipe
    split
    · rw [List.length_set, unwipe_len vs]
    · exact unwipe_len vs
theorem unwipe_out {η0 : CF.Env} {i : Nat} : ∀ {vs : List Nat}, i ∉ vs → (unwipe η0 η vs)[i]? = η[i]?
  | [], _ => rfl
  | v :: vs, h => by
    have h1 : v ≠ i := fun e => h (by rw [e]; exact List.mem_cons_self)
    unfold unwipe
    split
    · rw [List.getElem?_set_ne h1]
      exact unwipe_out fun m => h (List.mem_cons_of_mem _ m)
    · exact unwipe_out fun m => h (List.mem_cons_of_mem _ m)
theorem unwipe_in {η0 : CF.Env} {i : Nat} {sv : SV} : ∀ {vs : List Nat}, i ∈ vs → i < η.length → η0[i]? = some sv → (unwipe η0 η vs)[i]? = some sv
  | v :: vs, h, hl, e0 => by
    unfold unwipe
    by_cases e : v = i
    · subst e
      rw [e0]
      show ((unwipe η0 η vs).set v sv)[v]? = some sv
      rw [List.getElem?_set_self (by rw [unwipe_len]; exact hl)]
    · have hm : i ∈ vs := by
        rcases List.mem_cons.mp h with z | z
        · exact absurd z.symm e
        · exact z
      split
      · rw [List.getElem?_set_ne e]
        exact unwipe_in hm hl e0
      · exact unwipe_in hm hl e0
theorem noOwn_in {vs : List Nat} {i : Nat} (h : noOwn η vs = true) (hi : i ∈ vs) : ∀ br xs, η[i]? ≠ some (.lst br xs) := fun br xs e => by
  have z := List.all_eq_true.mp h i hi
  rw [e] at z
  cases z
theorem own_wipe {vs : List Nat} {a : Addr} (h : Own (wipeE η vs) (wipe σ vs) a) : Own η σ a := by
  obtain ⟨j, br, xs, e, q⟩ := h
  have hj : j ∉ vs := fun m => by
    by_cases hl : j < η.length
    · rw [wipeE_in m hl] at e
      cases e
    · have := (List.getElem?_eq_some_iff.mp e).1
      rw [wipeE_len] at this
      exact hl this
  rw [wipeE_out hj] at e
  rw [wipe_out hj] at q
  exact ⟨j, br, xs, e, q⟩
theorem own_unwipe {η0 : CF.Env} {vs : List Nat} {a : Addr} (hn : noOwn η0 vs = true) (hl0 : η0.length = η.length) (h : Own (unwipe η0 η vs) σ a) : Own η (wipe σ vs) a := by
  obtain ⟨j, br, xs, e, q⟩ := h
  have hj : j ∉ vs := fun m => by
    have hl := (List.getElem?_eq_some_iff.mp e).1
    rw [unwipe_len] at hl
    obtain ⟨sv, h0⟩ : ∃ sv, η0[j]? = some sv := ⟨η0[j]'(hl0 ▸ hl), List.getElem?_eq_getElem _⟩
    rw [unwipe_in m hl h0] at e
    cases e
    exact noOwn_in hn m _ _ h0
  rw [unwipe_out hj] at e
  exact ⟨j, br, xs, e, by rw [wipe_out hj]; exact q⟩
theorem SR.wipe (S : SR F HF σ H η) (vs : List Nat) : SR F HF (L2.wipe σ vs) H (wipeE η vs) where
  sub := S.sub
  grow := S.grow
  keep := S.keep
  ent := S.ent
  mt := S.mt
  newF := S.newF
  len := by rw [wipeE_len, wipe_length, S.len]
  slot := fun i sv e => by
    by_cases hi : i ∈ vs
    · have hl := (List.getElem?_eq_some_iff.mp e).1
      rw [wipeE_len] at hl
      rw [wipeE_in hi hl] at e
      cases e
      trivial
    · rw [wipeE_out hi] at e
      rw [wipe_out hi]
      exact S.slot i sv e
  apart := fun i j a h1 h2 => by
    have go : ∀ i, OwnAt (wipeE η vs) (L2.wipe σ vs) i a → OwnAt η σ i a := fun i ⟨br, xs, e, q⟩ => by
      have hj : i ∉ vs := fun m => by
        have hl := (List.getElem?_eq_some_iff.mp e).1
        rw [wipeE_len] at hl
        rw [wipeE_in m hl] at e
        cases e
      rw [wipeE_out hj] at e
      rw [wipe_out hj] at q
      exact ⟨br, xs, e, q⟩
    exact S.apart i j a (go i h1) (go j h2)
/-- the block's slots as they were ahead of it -/
theorem SR.unwipe {HF0 H0' : Hp} {η0 : CF.Env} (S0 : SR F HF0 σ H0' η0) {vs : List Nat} (S : SR F HF (L2.wipe σ vs) H η) (g : Same HF0 HF) (hn : noOwn η0 vs = true) : SR F HF σ H (CF.unwipe η0 η vs) where
  sub := S.sub
  grow := S.grow
  keep := S.keep
  ent := S.ent
  mt := S.mt
  newF := S.newF
  len := by rw [unwipe_len, S.len, wipe_length]
  slot := fun i sv e => by
    have hl := (List.getElem?_eq_some_iff.mp e).1
    rw [unwipe_len, S.len, wipe_length] at hl
    by_cases hi : i ∈ vs
    · obtain ⟨sv0, h0⟩ : ∃ sv, η0[i]? = some sv := ⟨η0[i]'(by rw [S0.len]; exact hl), List.getElem?_eq_getElem _⟩
      rw [unwipe_in hi (by rw [S.len, wipe_length]; exact hl) h0] at e
      cases e
      have s := S0.slot i _ h0
      cases sv with
      | no => trivial
      | dat d =>
        obtain ⟨v, e1, r⟩ := s
        exact ⟨v, e1, r.mono g⟩
      | lst br xs => exact absurd h0 (noOwn_in hn hi br xs)
    · rw [unwipe_out hi] at e
      have s := S.slot i sv e
      rw [wipe_out hi] at s
      exact s
  apart := fun i j a h1 h2 => by
    have go : ∀ i, OwnAt (CF.unwipe η0 η vs) σ i a → OwnAt η (L2.wipe σ vs) i a := fun i ⟨br, xs, e, q⟩ => by
      have hl := (List.getElem?_eq_some_iff.mp e).1
      rw [unwipe_len, S.len, wipe_length] at hl
      have hj : i ∉ vs := fun m => by
        obtain ⟨sv0, h0⟩ : ∃ sv, η0[i]? = some sv := ⟨η0[i]'(by rw [S0.len]; exact hl), List.getElem?_eq_getElem _⟩
        rw [unwipe_in m (by rw [S.len, wipe_length]; exact hl) h0] at e
        cases e
        exact noOwn_in hn m _ _ h0
      rw [unwipe_out hj] at e
      exact ⟨br, xs, e, by rw [wipe_out hj]; exact q⟩
    exact S.apart i j a (go i h1) (go j h2)
theorem wipe_eq {vs : List Nat} (h : ∀ j, j ∉ vs → σ'[j]? = (L2.wipe σ vs)[j]?) (hl : σ'.length = (L2.wipe σ vs).length) : L2.wipe σ' vs = L2.wipe σ vs := by
  refine List.ext_getElem? fun j => ?_
  by_cases hj : j ∈ vs
  · by_cases hlt : j < σ.length
    · have in_ : ∀ {τ : L2.St} {ws : List Nat}, j ∈ ws → j < τ.length → (L2.wipe τ ws)[j]? = some none := fun {τ ws} => by
        induction ws with
        | nil => exact fun m => (List.not_mem_nil m).elim
        | cons v ws ih =>
          intro m hl
          unfold L2.wipe
          by_cases e : v = j
          · subst e
            rw [List.getElem?_set_self (by rw [wipe_length]; exact hl)]
          · rw [List.getElem?_set_ne e]
            refine ih ?_ hl
            rcases List.mem_cons.mp m with z | z
            · exact absurd z.symm e
            · exact z
      rw [wipe_length] at hl
      rw [in_ hj (by omega), in_ hj hlt]
    · rw [wipe_length] at hl
      rw [List.getElem?_eq_none (by rw [wipe_length]; omega), List.getElem?_eq_none (by rw [wipe_length]; omega)]
  · rw [wipe_out hj, h j hj]
end

/-! ## what is gone through -/
/-- an iterator over data -/
structure JOk (F : Fx) (HF : Hp) (J : L2.It) (ds : List Dv) : Prop where
  stop : ∀ (i : Nat) (HF1 H : Hp), Same HF HF1 → Same HF1 H → ds.length ≤ i → J.stop i H
  go : ∀ (i : Nat) (d : Dv) (HF1 : Hp) (σ : L2.St) (H : Hp) (η : CF.Env), ds[i]? = some d → Same HF HF1 → SR F HF1 σ H η → J.go i H ∧
    ∀ x H', J.yld i H x H' → ∃ HF2, SR F HF2 σ H' η ∧ Stp σ HF1 H η HF2 H' η ∧ Rep F.W HF2 x d
def tI (F : Fx) (Γ : Tab) (it : CF.It) : TI := fun σ H R => ∃ HF η ds η', SR F HF σ H η ∧ evI Γ it η = some (ds, η') ∧ ∀ J H' HF', SR F HF' σ H' η' → Stp σ HF H η HF' H' η' → JOk F HF' J ds → R J H'
def SI (F : Fx) (Γ : Tab) (it : CF.It) : Prop := ∀ (c : CI) (X : Cx) (tg e : PySem.Expr), chkI c it e = true → CtxOk X c Γ F.W → PI X tg e (tI F Γ it) ∧ ∀ x, foldedSetIterable e X.env x = pure x
section
variable {F : Fx} {Γ : Tab}
theorem jok_list {K : PySem.W.Frag} {HF : Hp} {p : Addr} {vs : List V} {ds : List Dv} (h : HF p = some (.lst vs)) (r : Reps F.W HF vs ds) : JOk F HF (Itl K p) ds where
  stop := fun i HF1 H g1 g2 l => ⟨vs, SqL.of (g2 _ _ (g1 _ _ h)), by rw [r.length]; exact l⟩
  go := fun i d HF1 σ H η e g S => by
    obtain ⟨v, e1, rv⟩ := r.get e
    have hq : SqL K H p vs := SqL.of (S.sub _ _ (g _ _ h))
    refine ⟨⟨vs, v, hq, e1⟩, fun x H' y => ?_⟩
    obtain ⟨rfl, y⟩ := y
    have z := y vs hq
    rw [e1] at z
    cases z
    exact ⟨HF1, S, .refl, rv.mono g⟩
theorem jok_tup {K : PySem.W.Frag} {HF : Hp} {p : Addr} {vs : List V} {ds : List Dv} (hK : F.W.K = K) (h : SqT F.W.K HF p vs) (r : Reps F.W HF vs ds) : JOk F HF (Itt K p) ds where
  stop := fun i HF1 H g1 g2 l => ⟨vs, hK ▸ Same.sqT g2 (Same.sqT g1 h), by rw [r.length]; exact l⟩
  go := fun i d HF1 σ H η e g S => by
    obtain ⟨v, e1, rv⟩ := r.get e
    have hq : SqT K H p vs := hK ▸ Same.sqT S.sub (Same.sqT g h)
    refine ⟨⟨vs, v, hq, e1⟩, fun x H' y => ?_⟩
    obtain ⟨rfl, y⟩ := y
    have z := y vs hq
    rw [e1] at z
    cases z
    exact ⟨HF1, S, .refl, rv.mono g⟩
theorem jok_rng {HF : Hp} (lo : Int) (n : Nat) : JOk F HF (Itr lo n) ((List.range n).map fun (k : Nat) => Dv.int (lo + (k : Int))) where
  stop := fun i _ _ _ _ l => by
    rw [List.length_map, List.length_range] at l
    exact l
  go := fun i d HF1 σ H η e g S => by
    rw [List.getElem?_map] at e
    obtain ⟨k, e1, rfl⟩ := Option.map_eq_some_iff.mp e
    have hl := (List.getElem?_eq_some_iff.mp e1).1
    rw [List.length_range] at hl
    rw [List.getElem?_range hl] at e1
    cases e1
    refine ⟨hl, fun x H' y => ?_⟩
    obtain ⟨rfl, rfl⟩ := y
    exact ⟨HF1, S, .refl, .int _⟩
theorem si_seq {a : Ex} (ha : SE F Γ a) : SI F Γ (.seq (.e a)) := fun c X tg e h C => by
  unfold chkI at h
  rw [Bool.and_eq_true] at h
  have P := ha.pe c X e h.1 C
  refine ⟨⟨fun pins s σ H R I q => ?_⟩, fun x => ?_⟩
  · obtain ⟨HF, η, ds, η', S, ev, k⟩ := q
    rw [evI] at ev
    split at ev
    · rename_i d η1 e1
      rw [evO] at e1
      obtain ⟨xs, e2, e3⟩ := Option.map_eq_some_iff.mp ev
      cases e3
      rcases seqOf_some e2 with rfl | rfl
      · refine (pi_list P).run pins s σ H R I ⟨HF, η, _, _, S, e1, fun v H1 HF1 S1 s1 r => ?_⟩
        cases r with
        | lst h rs => exact ⟨_, rfl, ⟨_, SqL.of (S1.sub _ _ h)⟩, k _ H1 HF1 S1 s1 (jok_list h rs)⟩
      · refine (pi_tup P).run pins s σ H R I ⟨HF, η, _, _, S, e1, fun v H1 HF1 S1 s1 r => ?_⟩
        obtain ⟨p, vs, rfl, hq, rs⟩ := rep_tup r
        exact ⟨_, rfl, ⟨vs, C.K ▸ Same.sqT S1.sub hq⟩, k _ H1 HF1 S1 s1 (jok_tup C.K hq rs)⟩
    · cases ev
  · have h2 := h.2
    cases e <;> first | cases h2; done | rfl
theorem si_rng1 {a : Ex} (ha : SE F Γ a) : SI F Γ (.rng1 a) := fun c X tg e h C => by
  unfold chkI at h
  split at h
  · simp only [Bool.and_eq_true] at h
    obtain ⟨⟨h1, h2⟩, h3⟩ := h
    obtain rfl := eqs_eq h1
    have st := chkE_star h3
    have P : PA X [_] _ := pa_cons (ha.pe c X _ h3 C) pa_nil (st _ _)
    refine ⟨⟨fun pins s σ H R I q => ?_⟩, fun x => rfl⟩
    obtain ⟨HF, η, ds, η', S, ev, k⟩ := q
    rw [evI] at ev
    split at ev
    · rename_i b η1 e1
      obtain ⟨xs, e2, e3⟩ := Option.map_eq_some_iff.mp ev
      cases e3
      obtain ⟨⟨_, _, b1, b2⟩, rfl⟩ := rngD_some e2
      refine (pi_range1 (C.glb h2) (C.bi _ (by decide)) P (st _ _)).run pins s σ H R I ⟨HF, η, _, _, S, e1, fun v H1 HF1 S1 s1 r => ?_⟩
      cases r
      refine ⟨b, rfl, b1, b2, k _ H1 HF1 S1 s1 ?_⟩
      rw [Int.sub_zero]
      exact jok_rng 0 _
    · cases ev
  · cases h
theorem si_rng2 {a b : Ex} (ha : SE F Γ a) (hb : SE F Γ b) : SI F Γ (.rng2 a b) := fun c X tg e h C => by
  unfold chkI at h
  split at h
  · simp only [Bool.and_eq_true] at h
    obtain ⟨⟨⟨h1, h2⟩, h3⟩, h4⟩ := h
    obtain rfl := eqs_eq h1
    have st := chkE_star h3
    have st2 := chkE_star h4
    have P : PA X [_, _] _ := pa_cons (ha.pe c X _ h3 C) (pa_cons (hb.pe c X _ h4 C) pa_nil (st2 _ _)) (st _ _)
    refine ⟨⟨fun pins s σ H R I q => ?_⟩, fun x => rfl⟩
    obtain ⟨HF, η, ds, η', S, ev, k⟩ := q
    rw [evI] at ev
    split at ev
    · rename_i i η1 e1
      split at ev
      · rename_i j η2 e2
        obtain ⟨xs, e3, e4⟩ := Option.map_eq_some_iff.mp ev
        cases e4
        obtain ⟨⟨b1, b2, b3, b4⟩, rfl⟩ := rngD_some e3
        refine (pi_range2 (C.glb h2) (C.bi _ (by decide)) P (by rw [st, st2]; rfl) (by rw [st2]; rfl)).run pins s σ H R I ⟨HF, η, _, _, S, e1, fun v H1 HF1 S1 s1 r => ⟨HF1, η1, _, _, S1, e2, fun u H2 HF2 S2 s2 r2 => ?_⟩⟩
        cases r
        cases r2
        exact ⟨i, j, rfl, ⟨b1, b2, b3, b4⟩, k _ H2 HF2 S2 (s1.trans s2) (jok_rng i _)⟩
      · cases ev
    · cases ev
  · cases h
end
end CF

set_option Elab.async false
set_option linter.all false
set_option maxRecDepth 100000
namespace CF
open PySem PySem.Spec PyProof.Rows L2

/-! ## comprehensions -/
def tTs (F : Fx) (Γ : Tab) (ifs : List Ex) : TT := match ifs with
  | [] => tYes
  | [f] => tT F Γ f
  | _ => fun _ _ _ => False
section
variable {F : Fx} {Γ : Tab}
theorem tTs_run {ifs : List Ex} (hl : ifs.length ≤ 1) {HF : Hp} {σ : L2.St} {H : Hp} {η η' : CF.Env} {b : Bool} {Q : Bool → Hp → Prop} (S : SR F HF σ H η) (e : testL (evTs Γ ifs) η = some (b, η'))
    (k : ∀ H' HF', SR F HF' σ H' η' → Stp σ HF H η HF' H' η' → Q b H') : tTs F Γ ifs σ H Q := by
  match ifs, hl, e with
  | [], _, e =>
    rw [evTs] at e
    cases e
    exact k H HF S .refl
  | [f], _, e =>
    rw [evTs, evTs] at e
    unfold testL at e
    split at e
    · rename_i η1 e1
      cases e
      exact ⟨HF, η, _, _, S, e1, k⟩
    · rename_i η1 e1
      cases e
      exact ⟨HF, η, _, _, S, e1, k⟩
    · cases e
theorem tLc_of {elt : Ex} {tg : Tg} {it : CF.It} {ifs : List Ex} {own : List Nat} (hl : ifs.length ≤ 1) (hown : ∀ j ∈ tgSlots tg, j ∈ own) {σ : L2.St} {H0 : Hp} {Q : VK} (h : tF F Γ (.comp elt tg it ifs own) σ H0 Q) :
    tLc (tI F Γ it) (gT F tg) (tTs F Γ ifs) (tE F Γ elt) own σ H0 Q := by
  obtain ⟨HF, η, xs, η', S, e, k⟩ := h
  rw [evE] at e
  split at e
  · cases e
  rename_i ds η1 e1
  obtain ⟨hno, e⟩ := if_opt e
  split at e
  · cases e
  rename_i ys η2 e2
  cases e
  refine ⟨HF, η, ds, η1, S, e1, fun J H1 HF1 S1 s1 jk D hD => ?_⟩
  have S1w := S1.wipe own
  have h0D : F.H0 D = none := S1.dom hD
  have hFD : HF1 D = none := S1.sub.free hD
  have nD : ¬ Own (wipeE η1 own) (L2.wipe σ own) D := fun z => own_tracked S1 hD (own_wipe z)
  refine ⟨fun i m H => m = ds.length - i ∧ i ≤ ds.length ∧ ∃ HFi ηi acc zs, SR F HFi (L2.wipe σ own) H ηi ∧ compL (testL (evTs Γ ifs)) (evE Γ elt) tg own (ds.drop i) zs ηi = some (xs, η2) ∧ H D = some (.lst acc) ∧ Reps F.W HFi acc zs ∧ HFi D = none ∧ Same HF1 HFi ∧
      (∀ a o, a ≠ D → H1 a = some o → ¬ Own (wipeE η1 own) (L2.wipe σ own) a → H a = some o) ∧ (∀ a o, HFi a = some o → HF1 a = some o ∨ H1 a = none ∨ Own (wipeE η1 own) (L2.wipe σ own) a) ∧
      (∀ a, Own ηi (L2.wipe σ own) a → Own (wipeE η1 own) (L2.wipe σ own) a) ∧ ∀ a o, H1 a = some o → ∃ o', H a = some o',
    ⟨ds.length, by simp, Nat.zero_le _, HF1, wipeE η1 own, [], [], S1w.updX hFD h0D nD, e2, upd_same, .nil, hFD, (fun _ _ e => e), (fun a o ne e _ => by rw [upd_ne ne]; exact e), (fun a o e => .inl e), (fun _ z => z), fun a o e => ⟨o, by rw [upd_ne (ne_of_none e hD)]; exact e⟩⟩, ?_⟩
  rintro i m H ⟨rfl, hi, HFi, ηi, acc, zs, Si, ei, hDi, ri, hFi, gi, ki, ni, wi, di⟩
  by_cases hlt : i < ds.length
  · have hd : ds[i]? = some ds[i] := List.getElem?_eq_getElem hlt
    rw [List.drop_eq_getElem_cons hlt] at ei
    generalize ds[i] = d at hd ei
    obtain ⟨hgo, hy⟩ := jk.go i d HFi _ H ηi hd gi Si
    rw [compL] at ei
    split at ei
    · cases ei
    rename_i ηt et
    refine .inr ⟨hgo, _, fun H' p => ⟨ds.length - (i + 1), by omega, rfl, hlt, p⟩, fun x H' y => ?_⟩
    obtain ⟨HF2, S2, s2, rx⟩ := hy x H' y
    refine ⟨HF2, ηi, d, ηt, S2, rx, et, fun σ2 S3 g3 l3 o3 => ?_⟩
    have hw : L2.wipe σ2 own = L2.wipe σ own := wipe_eq (fun j hj => g3 j fun z => hj (hown j z)) l3
    refine ⟨hw, ?_⟩
    have hD' : H' D = some (.lst acc) := s2.k D _ hDi fun z => nD (wi D z)
    have nDt : ¬ Own ηt σ2 D := fun z => nD (wi D (o3 D z))
    -- what a turn leaves
    have kk : ∀ {HFn Hn : Hp} {ηn : CF.Env}, Stp σ2 HF2 H' ηt HFn Hn ηn → Hn D = some (.lst acc) ∧ HFn D = none ∧ (∀ a o, a ≠ D → H1 a = some o → ¬ Own (wipeE η1 own) (L2.wipe σ own) a → Hn a = some o) ∧ (∀ a o, HFn a = some o → HF1 a = some o ∨ H1 a = none ∨ Own (wipeE η1 own) (L2.wipe σ own) a) ∧
        (∀ a, Own (wipeE ηn own) (L2.wipe σ own) a → Own (wipeE η1 own) (L2.wipe σ own) a) ∧ (∀ a o, H1 a = some o → ∃ o', Hn a = some o') ∧ ¬ Own ηn σ2 D := fun {HFn Hn ηn} T => by
      have up : ∀ a, H' a = none → H1 a = none := fun a z => by
        cases q : H1 a with
        | none => rfl
        | some o =>
          obtain ⟨o1, q1⟩ := di a o q
          obtain ⟨o2, q2⟩ := s2.g a o1 q1
          rw [z] at q2
          cases q2
      have up2 : ∀ a, H a = none → H1 a = none := fun a z => by
        cases q : H1 a with
        | none => rfl
        | some o =>
          obtain ⟨o1, q1⟩ := di a o q
          rw [z] at q1
          cases q1
      refine ⟨T.k D _ hD' nDt, ?_, fun a o ne e no => T.k a o (s2.k a o (ki a o ne e no) fun z => no (wi a z)) fun z => no (wi a (o3 a z)), fun a o e => ?_, fun a z => ?_, fun a o e => ?_, fun z => nDt (T.w D z)⟩
      · cases q : HFn D with
        | none => rfl
        | some o =>
          rcases T.n D o q with z | z | z
          · rcases s2.n D o z with z | z | z
            · rw [hFi] at z
              cases z
            · rw [hDi] at z
              cases z
            · exact absurd (wi D z) nD
          · rw [hD'] at z
            cases z
          · exact absurd z nDt
      · rcases T.n a o e with z | z | z
        · rcases s2.n a o z with z | z | z
          · exact ni a o z
          · exact .inr (.inl (up2 a z))
          · exact .inr (.inr (wi a z))
        · exact .inr (.inl (up a z))
        · exact .inr (.inr (wi a (o3 a z)))
      · rw [← hw] at z
        exact wi a (o3 a (T.w a (own_wipe z)))
      · obtain ⟨o1, q1⟩ := di a o e
        obtain ⟨o2, q2⟩ := s2.g a o1 q1
        exact T.g a o2 q2
    split at ei
    · cases ei
    · rename_i ηb eb
      refine tTs_run hl S3 eb fun H4 HF4 S4 s4 => ?_
      show (if false = true then _ else _)
      rw [if_neg Bool.false_ne_true]
      split at ei
      · obtain ⟨q1, q2, q3, q4, q5, q6, _⟩ := kk s4
        exact ⟨HF4, _, acc, zs, hw ▸ S4.wipe own, ei, q1, ri.mono (s2.f.trans s4.f), q2, gi.trans (s2.f.trans s4.f), q3, q4, q5, q6⟩
      · cases ei
    · rename_i ηb eb
      refine tTs_run hl S3 eb fun H4 HF4 S4 s4 => ?_
      show (if true = true then _ else _)
      rw [if_pos rfl]
      split at ei
      · cases ei
      rename_i y0 ηe ee
      split at ei
      · rename_i hc
        rw [Bool.and_eq_true, decide_eq_true_eq] at hc
        refine ⟨HF4, ηb, y0, ηe, S4, ee, fun yv H5 HF5 S5 s5 ry => ?_⟩
        obtain ⟨q1, q2, q3, q4, q5, q6, q7⟩ := kk (s4.trans s5)
        refine ⟨acc, q1, by rw [ri.length, sizeLine_eq]; exact hc.1, HF5, _, acc ++ [yv], zs ++ [y0], hw ▸ (S5.updX q2 h0D q7).wipe own, ei, upd_same, (ri.mono (s2.f.trans (s4.f.trans s5.f))).snoc ry, q2, gi.trans (s2.f.trans (s4.f.trans s5.f)), fun a o ne e no => ?_, q4, q5, fun a o e => ?_⟩
        · rw [upd_ne ne]
          exact q3 a o ne e no
        · by_cases ha : a = D
          · exact ⟨_, by rw [ha]; exact upd_same⟩
          · rw [upd_ne ha]
            exact q6 a o e
      · cases ei
  · have e : i = ds.length := by omega
    subst e
    rw [List.drop_length, compL] at ei
    cases ei
    have ll : η1.length = η2.length := by rw [S1.len, Si.len, wipe_length]
    refine .inl ⟨jk.stop _ HFi H gi Si.sub (Nat.le_refl _), k D acc H HFi (S1.unwipe Si gi hno) (s1.trans ⟨gi, fun a o e no => ki a o (ne_of_none e hD) e fun z => no (own_wipe z), fun a o e => ?_, fun a z => own_wipe (wi a (own_unwipe hno ll z)), di⟩) (s1.non hD) hDi ri hFi h0D fun z => nD (wi D (own_unwipe hno ll z))⟩
    rcases ni a o e with z | z | z
    · exact .inl z
    · exact .inr (.inl z)
    · exact .inr (.inr (own_wipe z))
/-- a fresh list, frozen -/
theorem tF_of_tE {x : Ex} (hx : ∀ η d η', evE Γ x η = some (d, η') → ∃ xs, d = .lst xs) {σ : L2.St} {H : Hp} {Q : VK} (h : tE F Γ x σ H Q) : tF F Γ x σ H Q := by
  obtain ⟨HF, η, d, η', S, e, k⟩ := h
  obtain ⟨xs, rfl⟩ := hx _ _ _ e
  refine ⟨HF, η, xs, η', S, e, fun q vs H' HF' S' s hn hq r hF h0 no => ?_⟩
  have S2 := S'.frz hq hF h0 no
  refine k (.ref q) H' _ S2 ⟨s.f.trans (Same.upd_new hF), s.k, fun a o e => ?_, s.w, s.g⟩ (.lst upd_same (r.mono (Same.upd_new hF)))
  by_cases ha : a = q
  · rw [ha]
    exact .inr (.inl hn)
  · rw [upd_ne ha] at e
    exact s.n a o e
def AllX (P : Ex → Prop) : List Ex → Prop
  | [] => True
  | a :: as => P a ∧ AllX P as
theorem pts_ok {c : CI} {X : Cx} (C : CtxOk X c Γ F.W) : ∀ {ifs : List Ex} {fs : List PySem.Expr}, AllX (SE F Γ) ifs → allCk (chkTs c ifs) fs = true → fs.length ≤ 1 → PTs X fs (tTs F Γ ifs)
  | [], [], _, _, _ => pts_nil
  | [a], [x], hs, h, _ => by
    unfold chkTs allCk at h
    rw [Bool.and_eq_true] at h
    exact pts_one (hs.1.pt c X x h.1 C)
  | _, _ :: _ :: _, _, _, hl => by simp at hl
  | [], [_], _, h, _ => by
    unfold chkTs at h
    cases h
  | _ :: _, [], _, h, _ => by
    unfold chkTs at h
    cases h
  | a :: b :: r, [x], _, h, _ => by
    unfold chkTs allCk at h
    rw [Bool.and_eq_true] at h
    have h2 := h.2
    unfold chkTs at h2
    cases h2
theorem ckTs_len {c : CI} : ∀ {ifs : List Ex} {fs : List PySem.Expr}, allCk (chkTs c ifs) fs = true → ifs.length = fs.length
  | [], [], _ => rfl
  | a :: as, x :: xs, h => by
    unfold chkTs allCk at h
    rw [Bool.and_eq_true] at h
    rw [List.length_cons, List.length_cons, ckTs_len h.2]
  | [], _ :: _, h => by
    unfold chkTs at h
    cases h
  | _ :: _, [], h => by
    unfold chkTs at h
    cases h
theorem own_names {c : CI} {ow : List Nat} : (ownP c ow).map (·.2) = ow := by
  unfold ownP
  rw [List.map_map]
  exact List.map_id' _
theorem se_comp {elt : Ex} {tg : Tg} {it : CF.It} {ifs : List Ex} {ow : List Nat} (he : SE F Γ elt) (hi : SI F Γ it) (hf : AllX (SE F Γ) ifs) : SE F Γ (.comp elt tg it ifs ow) := by
  have pf : ∀ (c : CI) (X : Cx) (e : PySem.Expr), chkE c (.comp elt tg it ifs ow) e = true → CtxOk X c Γ F.W → PE X e (tF F Γ (.comp elt tg it ifs ow)) ∧ ∃ a b d f, e = .ListComp a b d f := fun c X e h C => by
    unfold chkE at h
    split at h
    · rename_i e t i fs scope pos
      simp only [Bool.and_eq_true, decide_eq_true_eq, List.all_eq_true] at h
      obtain ⟨⟨⟨⟨⟨⟨h1, h2⟩, h3⟩, h4⟩, h5⟩, h6⟩, h7⟩ := h
      have bk : BlkOk X.N X.env.scope scope (ownP c ow) := blkOk_by (by rw [C.N, C.sc]; exact h4)
      obtain ⟨pi, fo⟩ := hi c X t i h3 C
      have P := pe_lc (pos := pos) (tt := tTs F Γ ifs) C.calm (by rw [C.N]; exact C.nd) pi bk (fun s H C' cl fp => (pg_ok (C.blk s H scope C' cl fp) tg t h5).1) (fun s H C' cl fp => pts_ok (C.blk s H scope C' cl fp) hf h6 h1) (fun s H C' cl fp => he.pe _ _ e h7 (C.blk s H scope C' cl fp)) fo
      rw [own_names] at P
      exact ⟨CF.PE.weaken P fun σ H Q q => tLc_of (by rw [ckTs_len h6]; exact h1) (fun j hj => by simpa using h2 j hj) q, _, _, _, _, rfl⟩
    · cases h
  have hx : ∀ η d η', evE Γ (.comp elt tg it ifs ow) η = some (d, η') → ∃ xs, d = .lst xs := fun η d η' e => by
    rw [evE] at e
    split at e
    · cases e
    split at e
    · split at e
      · cases e
      · cases e
        exact ⟨_, rfl⟩
    · cases e
  refine ⟨fun c X e h C => CF.PE.weaken (pf c X e h C).1 fun _ _ _ => tF_of_tE hx, fun c X e h C => ?_, fun c X op es p h C => ?_, fun c X e h C _ => (pf c X e h C).1⟩
  · obtain ⟨P, _, _, _, _, rfl⟩ := pf c X e h C
    exact CF.PT.weaken (pt_val (CF.PE.weaken P fun _ _ _ => tF_of_tE hx)) fun _ _ _ => tT_tE
  · unfold chkE at h
    cases h
end
end CF

set_option Elab.async false
set_option linter.all false
set_option maxRecDepth 100000
namespace CF
open PySem PySem.Spec PyProof.Rows L2

/-! ## calls of the program's own defs -/
section
variable {F : Fx} {Γ : Tab} {HF HF' : Hp} {σ : L2.St} {H H' : Hp} {η η' : CF.Env}
theorem args_of (S : SR F HF σ H η) : ∀ {as : Ops} {vs : List V} {ds ds' : List Dv}, OOks F HF σ as vs ds → finOs as ds η = some ds' → ArgOks F.W HF H (brOf as) vs ds'
  | .nil, [], [], ds', _, e => by
    cases e
    exact trivial
  | .cons a as, v :: vs, d :: ds, ds', ⟨h, r⟩, e => by
    unfold finOs at e
    split at e
    · rename_i x xs e1 e2
      cases e
      have rest := args_of S (as := as) r e2
      cases a with
      | e y =>
        cases e1
        exact ⟨h, rest⟩
      | o i =>
        obtain ⟨ys, e3, rfl⟩ := Option.map_eq_some_iff.mp e1
        obtain ⟨br, e4⟩ := ownL_some e3
        obtain ⟨p, us, q, hp, rr, hF, _⟩ := S.slotL e4
        have h' : σ[i]? = some (some v) := h
        rw [q] at h'
        cases h'
        exact ⟨⟨p, us, ys, rfl, rfl, hp, rr, hF⟩, rest⟩
    · cases e
  | .nil, _ :: _, _, _, h, _ => h.elim
  | .nil, [], _ :: _, _, h, _ => h.elim
  | .cons _ _, [], _, _, h, _ => h.elim
  | .cons _ _, _ :: _, [], _, h, _ => h.elim
theorem back_none : ∀ {as : Ops} {r : List (List Dv)}, (brOf as).all (!·) = true → backOs as r η = some η' → r = [] ∧ η' = η
  | .nil, [], _, e => by
    cases e
    exact ⟨rfl, rfl⟩
  | .nil, _ :: _, _, e => by cases e
  | .cons a as, r, h, e => by
    cases a with
    | e x =>
      unfold brOf at h
      rw [List.all_cons, Bool.and_eq_true] at h
      unfold backOs at e
      exact back_none (as := as) h.2 e
    | o i =>
      unfold brOf at h
      rw [List.all_cons, Bool.and_eq_true] at h
      cases h.1
theorem back_some (S : SR F HF σ H η) : ∀ {as : Ops} {vs : List V} {ds ds' : List Dv} {outs : List (List Dv)}, OOks F HF σ as vs ds → finOs as ds η = some ds' → oneLent (brOf as) = true → backOs as outs η = some η' →
    (lentA (brOf as) vs = none ∧ outs = [] ∧ η' = η) ∨ ∃ i p br xs ys, lentA (brOf as) vs = some p ∧ σ[i]? = some (some (.ref p)) ∧ η[i]? = some (.lst br xs) ∧ outs = [ys] ∧ η' = η.set i (.lst br ys)
  | .nil, [], [], _, outs, _, _, _, e => by
    cases outs with
    | nil =>
      cases e
      exact .inl ⟨rfl, rfl, rfl⟩
    | cons _ _ => cases e
  | .cons a as, v :: vs, d :: ds, ds', outs, ⟨h, r⟩, e, ho, hb => by
    unfold finOs at e
    split at e
    · rename_i x xs e1 e2
      cases a with
      | e y =>
        unfold brOf oneLent at ho
        unfold backOs at hb
        exact back_some S (as := as) r e2 ho hb
      | o i =>
        unfold brOf oneLent at ho
        obtain ⟨ys, e3, _⟩ := Option.map_eq_some_iff.mp e1
        obtain ⟨br, e4⟩ := ownL_some e3
        obtain ⟨p, us, q, hp, rr, hF, _⟩ := S.slotL e4
        have h' : σ[i]? = some (some v) := h
        rw [q] at h'
        cases h'
        cases outs with
        | nil => cases hb
        | cons zs outs =>
          unfold backOs at hb
          rw [e4] at hb
          obtain ⟨rfl, rfl⟩ := back_none (as := as) ho hb
          exact .inr ⟨i, p, br, ys, zs, rfl, q, e4, rfl, rfl⟩
    · cases e
  | .nil, _ :: _, _, _, _, h, _, _, _ => h.elim
  | .nil, [], _ :: _, _, _, h, _, _, _ => h.elim
  | .cons _ _, [], _, _, _, h, _, _, _ => h.elim
  | .cons _ _, _ :: _, [], _, _, h, _, _, _ => h.elim
theorem back_ok (S : SR F HF σ H η) {as : Ops} {vs : List V} {ds ds' : List Dv} {outs : List (List Dv)} (oo : OOks F HF σ as vs ds) (fin : finOs as ds η = some ds') (one : oneLent (brOf as) = true) (hb : backOs as outs η = some η')
    (sF : Same HF HF') (sub : Same HF' H') (keep : ∀ a o, H a = some o → lentA (brOf as) vs ≠ some a → H' a = some o) (new : ∀ a o, HF' a = some o → HF a = some o ∨ H a = none) (back : BackOk F.W HF' H' (lentA (brOf as) vs) outs) :
    SR F HF' σ H' η' ∧ Stp σ HF H η HF' H' η' := by
  rcases back_some S oo fin one hb with ⟨l, rfl, rfl⟩ | ⟨i, p, br, xs, ys, l, q, e, rfl, rfl⟩
  · have k : Same H H' := fun a o z => keep a o z (by rw [l]; exact fun z => nomatch z)
    exact ⟨S.ext sF k sub new, sF, fun a o z _ => k a o z, fun a o z => (new a o z).imp id .inl, fun _ z => z, fun a o z => ⟨o, k a o z⟩⟩
  · rw [l] at back
    obtain ⟨us, hp, rs, hF⟩ := back
    obtain ⟨p', ws, q', hp0, r0, hF0, hb0⟩ := S.slotL e
    rw [q] at q'
    cases q'
    have hi : i < η.length := (List.getElem?_eq_some_iff.mp e).1
    have k2 : Same H (upd H' p (.lst ws)) := fun a o z => by
      by_cases ha : a = p
      · subst ha
        rw [hp0] at z
        cases z
        exact upd_same
      · rw [upd_ne ha]
        exact keep a o z (by rw [l]; exact fun z => ha (Option.some.inj z).symm)
    have S2 : SR F HF' σ (upd H' p (.lst ws)) η := S.ext sF k2 (Same.upd_both sub hF) new
    have S3 := S2.updOwn (ws := us) e q rs
    have eq : upd (upd H' p (.lst ws)) p (.lst us) = H' := by
      funext a
      by_cases ha : a = p
      · subst ha
        rw [upd_same, hp]
      · rw [upd_ne ha, upd_ne ha]
    rw [eq] at S3
    have own_p : Own η σ p := ⟨i, br, xs, e, q⟩
    refine ⟨S3, sF, fun a o z no => ?_, fun a o z => (new a o z).imp id .inl, fun a ⟨j, b2, x2, z1, z2⟩ => ?_, fun a o z => ?_⟩
    · have ha : a ≠ p := fun w => no (by rw [w]; exact own_p)
      exact keep a o z (by rw [l]; exact fun w => ha (Option.some.inj w).symm)
    · by_cases hj : j = i
      · subst hj
        rw [q] at z2
        cases z2
        exact own_p
      · rw [List.getElem?_set_ne (Ne.symm hj)] at z1
        exact ⟨j, b2, x2, z1, z2⟩
    · by_cases ha : a = p
      · exact ⟨_, by rw [ha]; exact hp⟩
      · exact ⟨o, keep a o z (by rw [l]; exact fun w => ha (Option.some.inj w).symm)⟩
theorem tE_call {g : Nat} {as : Ops} {Q : VK} (one : oneLent (brOf as) = true) (h : tE F Γ (.call g as) σ H Q) : tCall (spF F.W (Γ g) (brOf as)) [] (fun _ _ _ => False) (tOs F Γ as) σ H Q := by
  obtain ⟨HF, η, d, η', S, e, k⟩ := h
  rw [evE] at e
  split at e
  · cases e
  rename_i ds η1 e1
  split at e
  · cases e
  rename_i ds' e2
  split at e
  · cases e
  rename_i d' outs e3
  obtain ⟨η2, e4, e5⟩ := Option.map_eq_some_iff.mp e
  cases e5
  refine ⟨HF, η, ds, η1, S, e1, fun vs H1 HF1 S1 s1 oo => ?_⟩
  show spF F.W (Γ g) (brOf as) (vs ++ []) H1 Q fun _ _ _ => False
  rw [List.append_nil]
  refine ⟨HF1, ds', _, outs, S1.sub, args_of S1 oo e2, e3, fun v H2 HF2 sF sub keep new rv back => ?_⟩
  obtain ⟨S2, s2⟩ := back_ok S1 oo e2 one e4 sF sub keep new back
  exact k v H2 HF2 S2 (s1.trans s2) rv
theorem se_call {g : Nat} {as : Ops} (hs : AllO (SO F Γ) as) : SE F Γ (.call g as) := by
  have pe : ∀ (c : CI) (X : Cx) (e : PySem.Expr), chkE c (.call g as) e = true → CtxOk X c Γ F.W → PE X e (tE F Γ (.call g as)) ∧ ∃ a b d f, e = .Call a b d f := fun c X e h C => by
    unfold chkE at h
    split at h
    · rename_i f pf x xs pos
      rw [Bool.and_eq_true] at h
      obtain ⟨h1, h2⟩ := h
      unfold ckFn at h1
      simp only [Bool.and_eq_true] at h1
      obtain ⟨⟨h1, h3⟩, h4⟩ := h1
      split at h1
      · rename_i n hn
        simp only [Bool.and_eq_true, decide_eq_true_eq] at h1
        obtain ⟨⟨e1, e2⟩, e3⟩ := h1
        obtain rfl := eqs_eq e1
        obtain ⟨⟨k, fa, fd, ps, m1, m2, hb, Fk, hr⟩, one⟩ := C.fns g n hn
        rw [← e2] at Fk one
        rw [← e3] at Fk
        have st := allCk_star h2
        refine ⟨CF.PE.weaken (pe_callG (E := fun _ _ _ => False) (dvs := []) (ds := []) Fk hr (C.glb h3) m1 m2 hb .nil pass0 (pa_ok C hs h2) (nmB_dbg h4).1 (st x List.mem_cons_self xs X.env) (any_back fun e he => st e (List.mem_cons_of_mem _ he))) fun σ H Q q => tE_call one q, _, _, _, _, rfl⟩
      · cases h1
    · cases h
  refine ⟨fun c X e h C => (pe c X e h C).1, fun c X e h C => ?_, fun c X op es p h C => ?_, fun c X e h C hf => by cases hf⟩
  · obtain ⟨P, _, _, _, _, rfl⟩ := pe c X e h C
    exact CF.PT.weaken (pt_val P) fun _ _ _ => tT_tE
  · unfold chkE at h
    cases h
theorem tF_call {g : Nat} {as : Ops} {Q : VK} (one : oneLent (brOf as) = true) (h : tF F Γ (.callF g as) σ H Q) : tCall (spG F.W (Γ g) (brOf as)) [] (fun _ _ _ => False) (tOs F Γ as) σ H Q := by
  obtain ⟨HF, η, xs, η', S, e, k⟩ := h
  rw [evE] at e
  split at e
  · cases e
  rename_i ds η1 e1
  split at e
  · cases e
  rename_i ds' e2
  split at e
  · rename_i ys outs e3
    obtain ⟨η2, e4, e5⟩ := Option.map_eq_some_iff.mp e
    cases e5
    refine ⟨HF, η, ds, η1, S, e1, fun vs H1 HF1 S1 s1 oo => ?_⟩
    show spG F.W (Γ g) (brOf as) (vs ++ []) H1 Q fun _ _ _ => False
    rw [List.append_nil]
    refine ⟨HF1, ds', xs, outs, S1.sub, args_of S1 oo e2, e3, fun q us H2 HF2 sF sub keep new n1 hq r hF back => ?_⟩
    obtain ⟨S2, s2⟩ := back_ok S1 oo e2 one e4 sF sub keep new back
    exact k q us H2 HF2 S2 (s1.trans s2) (s1.non n1) hq r hF (S1.dom n1) fun z => own_tracked S1 n1 (s2.w q z)
  · cases e
theorem callF_lst {g : Nat} {as : Ops} : ∀ η d η', evE Γ (.callF g as) η = some (d, η') → ∃ xs, d = .lst xs := fun η d η' e => by
  rw [evE] at e
  split at e
  · cases e
  split at e
  · cases e
  split at e
  · obtain ⟨η2, e4, e5⟩ := Option.map_eq_some_iff.mp e
    cases e5
    exact ⟨_, rfl⟩
  · cases e
theorem se_callF {g : Nat} {as : Ops} (hs : AllO (SO F Γ) as) : SE F Γ (.callF g as) := by
  have pf : ∀ (c : CI) (X : Cx) (e : PySem.Expr), chkE c (.callF g as) e = true → CtxOk X c Γ F.W → PE X e (tF F Γ (.callF g as)) ∧ ∃ a b d f, e = .Call a b d f := fun c X e h C => by
    unfold chkE at h
    split at h
    · rename_i f pf x xs pos
      rw [Bool.and_eq_true] at h
      obtain ⟨h1, h2⟩ := h
      unfold ckFn at h1
      simp only [Bool.and_eq_true] at h1
      obtain ⟨⟨h1, h3⟩, h4⟩ := h1
      split at h1
      · rename_i n hn
        simp only [Bool.and_eq_true, decide_eq_true_eq] at h1
        obtain ⟨⟨e1, e2⟩, e3⟩ := h1
        obtain rfl := eqs_eq e1
        obtain ⟨⟨k, fa, fd, ps, m1, m2, hb, Fk, hr⟩, one⟩ := C.fns g n hn
        rw [← e2] at Fk one
        rw [← e3] at Fk
        have st := allCk_star h2
        refine ⟨CF.PE.weaken (pe_callG (E := fun _ _ _ => False) (dvs := []) (ds := []) Fk hr (C.glb h3) m1 m2 hb .nil pass0 (pa_ok C hs h2) (nmB_dbg h4).1 (st x List.mem_cons_self xs X.env) (any_back fun e he => st e (List.mem_cons_of_mem _ he))) fun σ H Q q => tF_call one q, _, _, _, _, rfl⟩
      · cases h1
    · cases h
  refine ⟨fun c X e h C => CF.PE.weaken (pf c X e h C).1 fun _ _ _ => tF_of_tE callF_lst, fun c X e h C => ?_, fun c X op es p h C => ?_, fun c X e h C hf => (pf c X e h C).1⟩
  · obtain ⟨P, _, _, _, _, rfl⟩ := pf c X e h C
    exact CF.PT.weaken (pt_val (CF.PE.weaken P fun _ _ _ => tF_of_tE callF_lst)) fun _ _ _ => tT_tE
  · unfold chkE at h
    cases h
theorem tE_callT {g : Nat} {x : Ex} {Q : VK} (h : tE F Γ (.callT g x) σ H Q) : tCall (spF F.W (Γ g) [true]) [] (fun _ _ _ => False) (tCons (tF F Γ x) tNil) σ H Q := by
  obtain ⟨HF, η, d, η', S, e, k⟩ := h
  rw [evE] at e
  split at e
  · rename_i xs η1 e1
    split at e
    · rename_i d' outs e2
      cases e
      refine ⟨HF, η, xs, _, S, e1, fun q vs H1 HF1 S1 s1 hn hq r hF h0 no => ?_⟩
      refine ⟨HF1, [.lst xs], _, outs, S1.sub, ⟨⟨q, vs, xs, rfl, rfl, hq, r, hF⟩, trivial⟩, e2, fun v H2 HF2 sF sub keep new rv back => ?_⟩
      have bk : ∃ ys us, H2 q = some (.lst us) ∧ Reps F.W HF2 us ys ∧ HF2 q = none := by
        match outs, back with
        | [ys], back =>
          obtain ⟨us, b⟩ := back
          exact ⟨ys, us, b⟩
      obtain ⟨ys, us, hp, rs, hF2⟩ := bk
      have ke : ∀ a o, a ≠ q → H1 a = some o → H2 a = some o := fun a o ne z => keep a o z fun w => ne (Option.some.inj w).symm
      have k2 : Same H1 (upd H2 q (.lst vs)) := fun a o z => by
        by_cases ha : a = q
        · subst ha
          rw [hq] at z
          cases z
          exact upd_same
        · rw [upd_ne ha]
          exact ke a o ha z
      have S2 : SR F HF2 σ (upd H2 q (.lst vs)) _ := S1.ext sF k2 (Same.upd_both sub hF2) new
      have S3 := S2.updX (o := .lst us) hF2 h0 no
      have eq : upd (upd H2 q (.lst vs)) q (.lst us) = H2 := by
        funext a
        by_cases ha : a = q
        · subst ha
          rw [upd_same, hp]
        · rw [upd_ne ha, upd_ne ha]
      rw [eq] at S3
      refine k v H2 HF2 S3 ⟨s1.f.trans sF, fun a o z nw => ke a o (ne_of_none z hn) (s1.k a o z nw), fun a o z => ?_, s1.w, fun a o z => ?_⟩ rv
      · rcases new a o z with w | w
        · exact s1.n a o w
        · exact .inr (.inl (s1.non w))
      · obtain ⟨o1, z1⟩ := s1.g a o z
        exact ⟨o1, ke a o1 (ne_of_none z hn) z1⟩
    · cases e
  · cases e
theorem se_callT {g : Nat} {x : Ex} (hx : SE F Γ x) : SE F Γ (.callT g x) := by
  have pe : ∀ (c : CI) (X : Cx) (e : PySem.Expr), chkE c (.callT g x) e = true → CtxOk X c Γ F.W → PE X e (tE F Γ (.callT g x)) ∧ ∃ a b d f, e = .Call a b d f := fun c X e h C => by
    unfold chkE at h
    split at h
    · rename_i f pf y pos
      simp only [Bool.and_eq_true] at h
      obtain ⟨⟨h1, h2⟩, h5⟩ := h
      unfold ckFn at h1
      simp only [Bool.and_eq_true] at h1
      obtain ⟨⟨h1, h3⟩, h4⟩ := h1
      split at h1
      · rename_i n hn
        simp only [Bool.and_eq_true, decide_eq_true_eq] at h1
        obtain ⟨⟨e1, e2⟩, e3⟩ := h1
        obtain rfl := eqs_eq e1
        obtain ⟨⟨k, fa, fd, ps, m1, m2, hb, Fk, hr⟩, one⟩ := C.fns g n hn
        rw [← e2, ← e3] at Fk
        have st := chkE_star h5
        exact ⟨CF.PE.weaken (pe_callG (E := fun _ _ _ => False) (dvs := []) (ds := []) Fk hr (C.glb h3) m1 m2 hb .nil pass0 (pa_cons (hx.pf c X y h5 C h2) pa_nil (st _ _)) (nmB_dbg h4).1 (st _ _) rfl) fun σ H Q q => tE_callT q, _, _, _, _, rfl⟩
      · cases h1
    · cases h
  refine ⟨fun c X e h C => (pe c X e h C).1, fun c X e h C => ?_, fun c X op es p h C => ?_, fun c X e h C hf => by cases hf⟩
  · obtain ⟨P, _, _, _, _, rfl⟩ := pe c X e h C
    exact CF.PT.weaken (pt_val P) fun _ _ _ => tT_tE
  · unfold chkE at h
    cases h
theorem se_callK {g : Nat} {as ks : Ops} {ns : List Str} : SE F Γ (.callK g as ks ns) := by
  have no : ∀ (c : CI) (e : PySem.Expr), chkE c (.callK g as ks ns) e ≠ true := fun c e h => by
    unfold chkE at h
    cases h
  exact ⟨fun c X e h => absurd h (no c e), fun c X e h => absurd h (no c e), fun c X op es p h => absurd h (no c _), fun c X e h => absurd h (no c e)⟩
mutual
theorem soundE : ∀ x : Ex, SE F Γ x
  | .var i => se_var i
  | .cst k => se_cst k
  | .glb x k => se_glb x k
  | .pr p as => se_pr (soundOs as)
  | .and a b => se_and (soundE a) (soundE b)
  | .or a b => se_or (soundE a) (soundE b)
  | .not a => se_not (soundE a)
  | .ite t a b => se_ite (soundE t) (soundE a) (soundE b)
  | .chain _ _ a b d => se_chain (soundO a) (soundO b) (soundO d)
  | .call _ as => se_call (soundOs as)
  | .callK _ _ _ _ => se_callK
  | .callF _ as => se_callF (soundOs as)
  | .callT _ x => se_callT (soundE x)
  | .comp elt _ it ifs _ => se_comp (soundE elt) (soundI it) (soundTs ifs)
theorem soundO : ∀ a : Op, SO F Γ a
  | .o i => so_o i
  | .e x => so_e (soundE x)
theorem soundOs : ∀ as : Ops, AllO (SO F Γ) as
  | .nil => trivial
  | .cons a as => ⟨soundO a, soundOs as⟩
theorem soundTs : ∀ ts : List Ex, AllX (SE F Γ) ts
  | [] => trivial
  | a :: as => ⟨soundE a, soundTs as⟩
theorem soundI : ∀ it : CF.It, SI F Γ it
  | .seq a => match a with
    | .e x => si_seq (soundE x)
    | .o i => fun c X tg e h C => by
      unfold chkI at h
      cases h
  | .rng1 a => si_rng1 (soundE a)
  | .rng2 a b => si_rng2 (soundE a) (soundE b)
  | .zip _ _ => fun c X tg e h C => by
    unfold chkI at h
    cases h
  | .enum _ => fun c X tg e h C => by
    unfold chkI at h
    cases h
end
end
end CF

set_option Elab.async false
set_option linter.all false
set_option maxRecDepth 100000
namespace CF
open PySem PySem.Spec PyProof.Rows L2

/-! ## statements -/
/-- what is behind a statement's end -/
def EndK (F : Fx) (m : Bool) (D : Ends) (HF : Hp) (η' : CF.Env) (fl : Fl) : Prop := match fl with
  | .nx => ∀ σ' H' HF', SR F HF' σ' H' η' → Same HF HF' → D.nx σ' H'
  | .bk => ∀ σ' H' HF', SR F HF' σ' H' η' → Same HF HF' → D.bk σ' H'
  | .ct => ∀ σ' H' HF', SR F HF' σ' H' η' → Same HF HF' → D.ct σ' H'
  | .ret d => if m = true then ∃ xs, d = .lst xs ∧ ∀ q vs σ' H' HF', SR F HF' σ' H' η' → Same HF HF' → F.H0 q = none → H' q = some (.lst vs) → Reps F.W HF' vs xs → HF' q = none → D.rt (.ref q) H' else ∀ v σ' H' HF', SR F HF' σ' H' η' → Same HF HF' → Rep F.W HF' v d → D.rt v H'
def tS (F : Fx) (Γ : Tab) (fu : Nat) (m : Bool) (s : Sm) : TS := fun D σ H => ∃ HF η fl η', SR F HF σ H η ∧ evS Γ fu s η = some (fl, η') ∧ EndK F m D HF η' fl
def tSs (F : Fx) (Γ : Tab) (fu : Nat) (m : Bool) (s : Sms) : TS := fun D σ H => ∃ HF η fl η', SR F HF σ H η ∧ evSs Γ fu s η = some (fl, η') ∧ EndK F m D HF η' fl
def NoX (X : Cx) : Prop := X.xe = fun _ _ => False
def SS (F : Fx) (Γ : Tab) (fu : Nat) (s : Sm) : Prop := ∀ (c : CI) (X : Cx) (st : PySem.Stmt), chkS c s st = true → CtxOk X c Γ F.W → NoX X → PS X st (tS F Γ fu c.fr s)
def SSs (F : Fx) (Γ : Tab) (fu : Nat) (s : Sms) : Prop := ∀ (c : CI) (X : Cx) (sts : List PySem.Stmt), chkSs c s sts = true → CtxOk X c Γ F.W → NoX X → PSs X sts (tSs F Γ fu c.fr s)
section
variable {F : Fx} {Γ : Tab} {fu : Nat}
theorem EndK.mono {m : Bool} {D : Ends} {HF HF1 : Hp} {η' : CF.Env} {fl : Fl} (h : EndK F m D HF η' fl) (g : Same HF HF1) : EndK F m D HF1 η' fl := by
  cases fl with
  | nx => exact fun σ' H' HF' S s => h σ' H' HF' S (g.trans s)
  | bk => exact fun σ' H' HF' S s => h σ' H' HF' S (g.trans s)
  | ct => exact fun σ' H' HF' S s => h σ' H' HF' S (g.trans s)
  | ret d =>
    cases m with
    | true =>
      have h' : ∃ xs, d = .lst xs ∧ ∀ q vs σ' H' HF', SR F HF' σ' H' η' → Same HF HF' → F.H0 q = none → H' q = some (.lst vs) → Reps F.W HF' vs xs → HF' q = none → D.rt (.ref q) H' := h
      obtain ⟨xs, e, h'⟩ := h'
      exact (⟨xs, e, fun q vs σ' H' HF' S s => h' q vs σ' H' HF' S (g.trans s)⟩ : ∃ xs, d = .lst xs ∧ ∀ q vs σ' H' HF', SR F HF' σ' H' η' → Same HF1 HF' → F.H0 q = none → H' q = some (.lst vs) → Reps F.W HF' vs xs → HF' q = none → D.rt (.ref q) H')
    | false =>
      have h' : ∀ v σ' H' HF', SR F HF' σ' H' η' → Same HF HF' → Rep F.W HF' v d → D.rt v H' := h
      exact (fun v σ' H' HF' S s r => h' v σ' H' HF' S (g.trans s) r : ∀ v σ' H' HF', SR F HF' σ' H' η' → Same HF1 HF' → Rep F.W HF' v d → D.rt v H')

/-! ### a name, targets -/
theorem swaps_comp {a : PySem.Expr} {b : List Comprehension} {d : Scope} {f py : Pos} {y : Str} {l : Nat} {env : PySem.Env} : ∃ k : Bool, swapsWith (.ListComp a b d f) (some (.Name y py)) l env = pure k ∧ (k = true → env.kindOf y = some .local) := by
  refine ⟨_, rfl, fun h => ?_⟩
  simp only [Bool.and_eq_true] at h
  exact beq_iff_eq.mp h.1.1.2
theorem swaps_no {v : PySem.Expr} (h : noComp v = true) (t : Option PySem.Expr) (l : Nat) (env : PySem.Env) : swapsWith v t l env = pure false := by
  cases v <;> first | rfl | cases h
/-- a comprehension's own parts -/
theorem ps_nameC {elt : Ex} {tg : Tg} {it : CF.It} {ifs : List Ex} {ow : List Nat} {c : CI} {X : Cx} {v : PySem.Expr} {i : Nat} {y : Str} {py pos : Pos} (C : CtxOk X c Γ F.W) (h : chkE c (.comp elt tg it ifs ow) v = true) (hs : X.N[i]? = some y) (hl : Loc X.env.scope y) (hf : X.fn y = true ∨ X.env.scope.names.lookup y = some .local) :
    PS X (.Assign [.Name y py] v pos) (tAsg (tF F Γ (.comp elt tg it ifs ow)) (gName i)) := by
  have hN : X.N.Nodup := by rw [C.N]; exact C.nd
  have hP := (soundE (F := F) (Γ := Γ) (.comp elt tg it ifs ow)).pf c X v h C rfl
  unfold chkE at h
  split at h
  · rename_i e t iter fs scope p
    simp only [Bool.and_eq_true, decide_eq_true_eq, List.all_eq_true] at h
    obtain ⟨⟨⟨⟨⟨⟨h1, h2⟩, h3⟩, h4⟩, h5⟩, h6⟩, h7⟩ := h
    have bk : BlkOk X.N X.env.scope scope (ownP c ow) := blkOk_by (by rw [C.N, C.sc]; exact h4)
    obtain ⟨pi, fo⟩ := soundI (F := F) (Γ := Γ) it c X t iter h3 C
    obtain ⟨k, hk, hloc⟩ := swaps_comp (a := e) (b := [⟨t, iter, fs, 0⟩]) (d := scope) (f := p) (py := py) (y := y) (l := pos.line) (env := X.env)
    cases k with
    | true =>
      have P := ps_setLc (py := py) (pos := p) (spos := pos) (tt := tTs F Γ ifs) C.calm hN hs (hloc rfl) hk pi bk (fun s H C' cl fp => (pg_ok (C.blk s H scope C' cl fp) tg t h5).1) (fun s H C' cl fp => pts_ok (C.blk s H scope C' cl fp) (soundTs ifs) h6 h1) (fun s H C' cl fp => (soundE elt).pe _ _ e h7 (C.blk s H scope C' cl fp)) fo
      rw [own_names] at P
      exact CF.PS.weaken P fun D σ H q => tLc_of (by rw [ckTs_len h6]; exact h1) (fun j hj => by simpa using h2 j hj) q
    | false => exact ps_set hN hs hl hP hk hf
  · cases h
theorem comp_lst {elt : Ex} {tg : Tg} {it : CF.It} {ifs : List Ex} {ow : List Nat} : ∀ η d η', evE Γ (.comp elt tg it ifs ow) η = some (d, η') → ∃ xs, d = .lst xs := fun η d η' e => by
  rw [evE] at e
  split at e
  · cases e
  split at e
  · split at e
    · cases e
    · cases e
      exact ⟨_, rfl⟩
  · cases e
/-- is it a comprehension? -/
def isCompX : Ex → Bool
  | .comp _ _ _ _ _ => true
  | _ => false
theorem chk_noComp {c : CI} {x : Ex} {v : PySem.Expr} (h : chkE c x v = true) (hx : isCompX x = false) : noComp v = true := by
  cases v with
  | ListComp a b d f =>
    exfalso
    cases x <;> first | cases hx; done | (unfold chkE at h; cases h)
  | SetComp a b d f =>
    exfalso
    cases x <;> (unfold chkE at h; cases h)
  | DictComp a b d f g =>
    exfalso
    cases x <;> (unfold chkE at h; cases h)
  | _ => rfl
theorem ps_nameE {x : Ex} {c : CI} {X : Cx} {v : PySem.Expr} {i : Nat} {y : Str} {py pos : Pos} (C : CtxOk X c Γ F.W) (h : chkE c x v = true) (hs : X.N[i]? = some y) (hl : Loc X.env.scope y) (hf : X.fn y = true ∨ X.env.scope.names.lookup y = some .local) :
    PS X (.Assign [.Name y py] v pos) (tAsg (tE F Γ x) (gName i)) ∧ (isFresh x = true → PS X (.Assign [.Name y py] v pos) (tAsg (tF F Γ x) (gName i))) := by
  have hN : X.N.Nodup := by rw [C.N]; exact C.nd
  cases hx : isCompX x with
  | true =>
    cases x with
    | comp elt tg it ifs ow =>
      have P := ps_nameC (py := py) (pos := pos) C h hs hl hf
      exact ⟨CF.PS.weaken P fun D σ H q => tF_of_tE comp_lst q, fun _ => P⟩
    | _ => cases hx
  | false =>
    have nc := swaps_no (chk_noComp h hx)
    exact ⟨ps_set hN hs hl ((soundE x).pe c X v h C) (nc _ _ _) hf, fun fr => ps_set hN hs hl ((soundE x).pf c X v h C fr) (nc _ _ _) hf⟩
theorem ss_set (tg : Tg) (e : Ex) : SS F Γ fu (.set tg e) := fun c X st h C nx => by
  unfold chkS at h
  split at h
  · rename_i t v pos
    simp only [Bool.and_eq_true] at h
    obtain ⟨⟨h1, h2⟩, h3⟩ := h
    have fin : ∀ {g : TG}, (∀ v σ H Q, gT F tg v σ H Q → g v σ H Q) → ∀ {m : Bool} (D : Ends) σ H, tS F Γ fu m (.set tg e) D σ H → tAsg (tE F Γ e) g D σ H := fun {g} hg {m} D σ H q => by
      obtain ⟨HF, η, fl, η', S, ev, k⟩ := q
      rw [evS] at ev
      split at ev
      · cases ev
      rename_i d η1 e1
      obtain ⟨η2, e2, e3⟩ := Option.map_eq_some_iff.mp ev
      cases e3
      exact ⟨HF, η, d, η1, S, e1, fun v H1 HF1 S1 s1 r => hg _ _ _ _ ⟨HF1, η1, d, _, S1, r, e2, fun σ' S2 _ _ _ => k σ' H1 HF1 S2 s1.f⟩⟩
    split at h3
    · rename_i y py
      cases tg with
      | n i =>
        unfold chkG at h2
        simp only [Bool.and_eq_true] at h2
        obtain ⟨l1, l2⟩ := C.sto h2.2
        refine CF.PS.weaken (ps_nameE C h1 (C.slot h2.1) l1 l2).1 (fin fun v σ H Q q => ?_)
        obtain ⟨HF, η, d, η', S, r, e, k⟩ := q
        unfold setTg at e
        obtain ⟨e1, rfl⟩ := if_some e
        have hi : i < σ.length := by
          rw [← S.len]
          exact free_lt e1
        refine k _ (S.setDat r hi) (fun j hj => ?_) (List.length_set ..) fun a ⟨j, br, xs, z1, z2⟩ => ?_
        · rw [List.getElem?_set_ne]
          intro z
          exact hj (by rw [← z]; exact List.mem_singleton.mpr rfl)
        · by_cases hj : j = i
          · subst hj
            rw [List.getElem?_set_self (by rw [S.len]; exact hi)] at z1
            cases z1
          · rw [List.getElem?_set_ne (Ne.symm hj)] at z1 z2
            exact ⟨j, br, xs, z1, z2⟩
      | _ =>
        unfold chkG at h2
        cases h2
    · rename_i ts k tp
      have sw : swapsWithSole [.Tuple ts k tp] v pos.line X.env = pure false := by
        show swapsWith v (some (.Tuple ts k tp)) pos.line X.env = pure false
        cases v <;> rfl
      have st : swappedStores [.Tuple ts k tp] v X.env = pure none := by
        cases v <;> first | rfl | cases h3
      exact CF.PS.weaken (ps_asg ((soundE e).pe c X v h1 C) (pg_ok C tg _ h2).1 sw st rfl) (fin fun _ _ _ _ q => q)
    · cases h3
  · cases h
theorem ss_own (i : Nat) (e : Ex) : SS F Γ fu (.own i e) := fun c X st h C nx => by
  unfold chkS at h
  split at h
  · rename_i y py v pos
    simp only [Bool.and_eq_true] at h
    obtain ⟨⟨⟨h1, h2⟩, h3⟩, h4⟩ := h
    obtain ⟨l1, l2⟩ := C.sto h2
    refine CF.PS.weaken ((ps_nameE C h4 (C.slot h1) l1 l2).2 h3) fun D σ H q => ?_
    obtain ⟨HF, η, fl, η', S, ev, k⟩ := q
    rw [evS] at ev
    split at ev
    · rename_i xs η1 e1
      obtain ⟨e2, e3⟩ := if_some ev
      cases e3
      refine ⟨HF, η, xs, η1, S, e1, fun q vs H1 HF1 S1 s1 hn hq r hF h0 no => ?_⟩
      have hi : i < σ.length := by
        rw [← S1.len]
        exact free_lt e2
      exact k _ H1 HF1 (S1.setOwn hq r hF h0 (fun j ⟨br, ys, z1, z2⟩ => no ⟨j, br, ys, z1, z2⟩) hi) s1.f
    · cases ev
  · cases h
theorem aug_ok {W : Wd} (o : Operator) : PIp X o (fun x y H Q => ∃ HF a b d, Rep W HF x a ∧ Rep W HF y b ∧ augD o a b = some d ∧ ∀ v, Rep W HF v d → Q v H) := by
  intro pins s σ H x y v u Q I rx ry h
  obtain ⟨HF, a, b, d, ra, rb, e, o'⟩ := h
  unfold augD at e
  split at e
  · cases e
    cases ra
    cases rb
    exact iop_add pins s σ H _ _ v u Q I rx ry ⟨_, _, rfl, rfl, o' _ (.int _)⟩
  · obtain ⟨e1, rfl⟩ := if_some e
    cases ra
    cases rb
    exact iop_add_str pins s σ H _ _ v u Q I rx ry ⟨_, _, rfl, rfl, short_ok e1, o' _ (.str _)⟩
  · cases e
    cases ra
    cases rb
    exact iop_sub pins s σ H _ _ v u Q I rx ry ⟨_, _, rfl, rfl, o' _ (.int _)⟩
  · rename_i i j
    obtain ⟨e1, rfl⟩ := if_some e
    cases ra
    cases rb
    obtain ⟨t, rfl⟩ := rx
    obtain ⟨t', rfl⟩ := ry
    have hc : CMulW i j := (of_decide_eq_true (show decide (i.natAbs.log2 + j.natAbs.log2 < 1000000) = true from e1) : i.natAbs.log2 + j.natAbs.log2 < 1000000)
    exact imul_int ⟨.int _, H, I.tok _, ⟨_, rfl⟩, o' _ (.int _)⟩ hc.ok
  · cases e
theorem ss_aug (i : Nat) (o : Operator) (e : Ex) : SS F Γ fu (.aug i o e) := fun c X st h C nx => by
  unfold chkS at h
  split at h
  · rename_i y py o' v pos
    simp only [Bool.and_eq_true, decide_eq_true_eq] at h
    obtain ⟨⟨⟨⟨⟨h1, h2⟩, h3⟩, h4⟩, rfl⟩, h6⟩ := h
    obtain ⟨l1, l2⟩ := C.sto h2
    refine CF.PS.weaken (ps_aug (by rw [C.N]; exact C.nd) (C.slot h1) l1 ((soundE (F := F) (Γ := Γ) e).pe c X v h6 C) (aug_ok (W := F.W) o) l2) fun D σ H q => ?_
    obtain ⟨HF, η, fl, η', S, ev, k⟩ := q
    rw [evS] at ev
    split at ev
    · rename_i d hd
      split at ev
      · cases ev
      rename_i x η1 e1
      obtain ⟨r, e2, e3⟩ := Option.map_eq_some_iff.mp ev
      cases e3
      obtain ⟨w, q1, rw1⟩ := S.slotV hd
      have hi : i < σ.length := (List.getElem?_eq_some_iff.mp q1).1
      exact ⟨w, q1, HF, η, x, η1, S, e1, fun y H1 HF1 S1 s1 ry => ⟨HF1, d, x, r, rw1.mono s1.f, ry, e2, fun z rz => k _ H1 HF1 (S1.setDat rz hi) s1.f⟩⟩
    · cases ev
  · cases h
theorem pe_nm {c : CI} {X : Cx} (C : CtxOk X c Γ F.W) {i : Nat} {x : Str} {pos : Pos} (h1 : slotB c i x = true) (h2 : visB c x = true) (h3 : nmB x = true) : PE X (.Name x pos) (tVar i) := by
  obtain ⟨d1, d2, _⟩ := nmB_dbg h3
  exact pe_var (C.slot h1) (C.vis h2) d1 d2
theorem ss_put (i : Nat) (k e : Ex) : SS F Γ fu (.put i k e) := fun c X st h C nx => by
  unfold chkS at h
  split at h
  · rename_i y py ix sp v pos
    simp only [Bool.and_eq_true] at h
    obtain ⟨⟨⟨⟨⟨⟨⟨h1, h2⟩, h3⟩, h4⟩, h5⟩, h6⟩, h7⟩, h8⟩ := h
    have P := pg_sub (pos := sp) (pe_nm C (pos := py) h1 h2 h3) ((soundE (F := F) (Γ := Γ) k).pe c X ix h7 C) set_list (fun v => by cases ix <;> first | rfl | cases h4)
    have sw : swapsWithSole [.Subscript (.Name y py) ix sp] v pos.line X.env = pure false := by
      cases v <;> first | rfl | cases h6
    have sd : swappedStores [.Subscript (.Name y py) ix sp] v X.env = pure none := by
      cases v <;> rfl
    refine CF.PS.weaken (ps_asg ((soundE (F := F) (Γ := Γ) e).pe c X v h8 C) P sw sd rfl) fun D σ H q => ?_
    obtain ⟨HF, η, fl, η', S, ev, kk⟩ := q
    rw [evS] at ev
    split at ev
    · cases ev
    rename_i x η1 e1
    split at ev
    · rename_i b0 x0 hl
      split at ev
      · rename_i j η2 e2
        split at ev
        · rename_i br xs hx
          obtain ⟨n, e3, e4⟩ := Option.map_eq_some_iff.mp ev
          cases e4
          refine ⟨HF, η, x, η1, S, e1, fun w H1 HF1 S1 s1 rx => ?_⟩
          obtain ⟨p, vs, q1, _⟩ := S1.slotL hl
          refine ⟨.ref p, q1, HF1, η1, _, η2, S1, e2, fun w2 H2 HF2 S2 s2 rj => ?_⟩
          cases rj
          obtain ⟨p', vs', q2, hp, rs, _⟩ := S2.slotL hx
          rw [q1] at q2
          cases q2
          exact ⟨p, vs', j, n, rfl, rfl, hp, by rw [rs.length]; exact e3, kk _ _ HF2 (S2.updOwn hx q1 (rs.set (rx.mono s2.f) n)) (s1.f.trans s2.f)⟩
        · cases ev
      · cases ev
    · cases ev
  · cases h
theorem ss_app (i : Nat) (e : Ex) : SS F Γ fu (.app i e) := fun c X st h C nx => by
  unfold chkS at h
  split at h
  · rename_i y py m ap v cp pos
    simp only [Bool.and_eq_true, decide_eq_true_eq] at h
    obtain ⟨⟨⟨⟨⟨h1, h2⟩, h3⟩, h4⟩, h5⟩, h6⟩ := h
    obtain rfl := eqs_eq h4
    have st := chkE_star h6
    have P := pe_bm (apos := ap) (cpos := cp) PySem.F.plainAttrs_list PySem.F.slot_list_append PySem.F.type_list_append mt_append (pe_nm C (pos := py) h1 h2 h3) (pa_cons ((soundE (F := F) (Γ := Γ) e).pe c X v h6 C) pa_nil (st _ _)) rfl
      (by rw [st [] X.env]; rfl) (by rw [h5]; exact beq_self_eq_true _) (st _ _) rfl
    refine CF.PS.weaken (ps_expr P rfl) fun D σ H q => ?_
    obtain ⟨HF, η, fl, η', S, ev, kk⟩ := q
    rw [evS] at ev
    split at ev
    · rename_i b0 x0 hl
      split at ev
      · cases ev
      rename_i x η1 e1
      split at ev
      · rename_i br xs hx
        obtain ⟨e2, e3⟩ := if_some ev
        cases e3
        rw [decide_eq_true_eq] at e2
        obtain ⟨p, vs, q1, hp0, _⟩ := S.slotL hl
        refine ⟨.ref p, q1, .inl ⟨rfl, _, SqL.of hp0⟩, HF, η, x, η1, S, e1, fun w H1 HF1 S1 s1 rx => ?_⟩
        obtain ⟨p', vs', q2, hp, rs, _⟩ := S1.slotL hx
        rw [q1] at q2
        cases q2
        exact ⟨p, vs', w, rfl, rfl, hp, by rw [rs.length, sizeLine_eq]; exact e2, kk _ _ HF1 (S1.updOwn hx q1 (rs.snoc rx)) s1.f⟩
      · cases ev
    · cases ev
  · cases h
theorem ss_ex (e : Ex) : SS F Γ fu (.ex e) := fun c X st h C nx => by
  unfold chkS at h
  split at h
  · rw [Bool.and_eq_true] at h
    refine CF.PS.weaken (ps_expr ((soundE (F := F) (Γ := Γ) e).pe c X _ h.2 C) (swaps_no h.1 _ _ _)) fun D σ H q => ?_
    obtain ⟨HF, η, fl, η', S, ev, kk⟩ := q
    rw [evS] at ev
    obtain ⟨r, e1, e2⟩ := Option.map_eq_some_iff.mp ev
    cases e2
    exact ⟨HF, η, r.1, r.2, S, e1, fun w H1 HF1 S1 s1 rx => kk _ H1 HF1 S1 s1.f⟩
  · cases h
theorem ss_ret (e : Ex) : SS F Γ fu (.ret e) := fun c X st h C nx => by
  unfold chkS at h
  split at h
  · rw [Bool.and_eq_true] at h
    cases hm : c.fr with
    | false =>
      refine CF.PS.weaken (ps_ret ((soundE (F := F) (Γ := Γ) e).pe c X _ h.2 C)) fun D σ H q => ?_
      obtain ⟨HF, η, fl, η', S, ev, kk⟩ := q
      rw [evS] at ev
      obtain ⟨r, e1, e2⟩ := Option.map_eq_some_iff.mp ev
      cases e2
      have kk' : ∀ v σ' H' HF', SR F HF' σ' H' r.2 → Same HF HF' → Rep F.W HF' v r.1 → D.rt v H' := kk
      exact ⟨HF, η, r.1, r.2, S, e1, fun w H1 HF1 S1 s1 rx => kk' w _ H1 HF1 S1 s1.f rx⟩
    | true =>
      have hf : isFresh e = true := by
        have z := h.1
        rw [hm] at z
        exact z
      refine CF.PS.weaken (ps_ret ((soundE (F := F) (Γ := Γ) e).pf c X _ h.2 C hf)) fun D σ H q => ?_
      obtain ⟨HF, η, fl, η', S, ev, kk⟩ := q
      rw [evS] at ev
      obtain ⟨r, e1, e2⟩ := Option.map_eq_some_iff.mp ev
      cases e2
      have kk' : ∃ xs, r.1 = .lst xs ∧ ∀ q vs σ' H' HF', SR F HF' σ' H' r.2 → Same HF HF' → F.H0 q = none → H' q = some (.lst vs) → Reps F.W HF' vs xs → HF' q = none → D.rt (.ref q) H' := kk
      obtain ⟨xs, hx, kk'⟩ := kk'
      exact ⟨HF, η, xs, r.2, S, by rw [e1, ← hx], fun q vs H1 HF1 S1 s1 hn hq rs hF h0 no => kk' q vs _ H1 HF1 S1 s1.f h0 hq rs hF⟩
  · cases h
theorem ss_retN : SS F Γ fu .retN := fun c X st h C nx => by
  unfold chkS at h
  split at h
  · have hm : c.fr = false := by simpa using h
    rw [hm]
    refine CF.PS.weaken ps_retN fun D σ H q => ?_
    obtain ⟨HF, η, fl, η', S, ev, kk⟩ := q
    rw [evS] at ev
    cases ev
    have kk' : ∀ v σ' H' HF', SR F HF' σ' H' _ → Same HF HF' → Rep F.W HF' v .non → D.rt v H' := kk
    exact kk' .non _ H HF S (fun _ _ e => e) .non
  · cases h
theorem ss_small {s : Sm} {fl : Fl} (he : ∀ η, evS Γ fu s η = some (fl, η)) {X : Cx} {st : PySem.Stmt} {t : TS} {m : Bool} (P : PS X st t) (k : ∀ D σ H HF η, SR F HF σ H η → EndK F m D HF η fl → t D σ H) : PS X st (tS F Γ fu m s) :=
  CF.PS.weaken P fun D σ H q => by
    obtain ⟨HF, η, fl', η', S, ev, kk⟩ := q
    rw [he] at ev
    cases ev
    exact k D σ H HF _ S kk
theorem ss_brk : SS F Γ fu .brk := fun c X st h C nx => by
  unfold chkS at h
  split at h
  · exact ss_small (fl := .bk) (fun η => by rw [evS]) ps_break fun D σ H HF η S k => k σ H HF S fun _ _ e => e
  · cases h
theorem ss_cont : SS F Γ fu .cont := fun c X st h C nx => by
  unfold chkS at h
  split at h
  · exact ss_small (fl := .ct) (fun η => by rw [evS]) ps_continue fun D σ H HF η S k => k σ H HF S fun _ _ e => e
  · cases h
theorem ss_pass : SS F Γ fu .pass := fun c X st h C nx => by
  unfold chkS at h
  split at h
  · exact ss_small (fl := .nx) (fun η => by rw [evS]) ps_pass fun D σ H HF η S k => k σ H HF S fun _ _ e => e
  · cases h
theorem ss_never : SS F Γ fu .never := fun c X st h C nx => CF.PS.weaken ps_never fun D σ H q => by
  obtain ⟨HF, η, fl', η', S, ev, kk⟩ := q
  rw [evS] at ev
  cases ev
theorem ss_ite {t : Ex} {a b : Sms} (ha : SSs F Γ fu a) (hb : SSs F Γ fu b) : SS F Γ fu (.ite t a b) := fun c X st h C nx => by
  unfold chkS at h
  split at h
  · simp only [Bool.and_eq_true] at h
    refine CF.PS.weaken (ps_if ((soundE (F := F) (Γ := Γ) t).pt c X _ h.1.1 C) (ha c X _ h.1.2 C nx) (hb c X _ h.2 C nx)) fun D σ H q => ?_
    obtain ⟨HF, η, fl, η', S, ev, kk⟩ := q
    rw [evS] at ev
    split at ev
    · rename_i η1 e1
      refine ⟨HF, η, _, η1, S, e1, fun H1 HF1 S1 s1 => ?_⟩
      show (if true = true then _ else _)
      rw [if_pos rfl]
      exact ⟨HF1, η1, fl, η', S1, ev, kk.mono s1.f⟩
    · rename_i η1 e1
      refine ⟨HF, η, _, η1, S, e1, fun H1 HF1 S1 s1 => ?_⟩
      show (if false = true then _ else _)
      rw [if_neg Bool.false_ne_true]
      exact ⟨HF1, η1, fl, η', S1, ev, kk.mono s1.f⟩
    · cases ev
  · cases h
theorem noX_pass {X : Cx} (nx : NoX X) : PassesOwn (model X.prog X.w) X.A X.env X.xe := by
  unfold NoX at nx
  rw [nx]
  exact PassesOwn.never
theorem ss_for {tg : Tg} {it : CF.It} {b : Sms} (hb : SSs F Γ fu b) : SS F Γ fu (.for_ tg it b) := fun c X st h C nx => by
  unfold chkS at h
  split at h
  · rename_i t i y pos
    simp only [Bool.and_eq_true] at h
    obtain ⟨⟨h1, h2⟩, h3⟩ := h
    obtain ⟨pi, fo⟩ := soundI (F := F) (Γ := Γ) it c X t i h1 C
    refine CF.PS.weaken (ps_for (noX_pass nx) C.calm pi (pg_ok C tg t h2).1 (hb c X y h3 C nx) fo) fun D σ H q => ?_
    obtain ⟨HF, η, fl, η', S, ev, kk⟩ := q
    rw [evS] at ev
    split at ev
    · cases ev
    rename_i ds η1 e1
    refine ⟨HF, η, ds, η1, S, e1, fun J H1 HF1 S1 s1 jk => ?_⟩
    refine ⟨fun i m σ H => m = ds.length - i ∧ i ≤ ds.length ∧ ∃ HFi ηi, SR F HFi σ H ηi ∧ Same HF1 HFi ∧ forL tg (evSs Γ fu b) (ds.drop i) ηi = some (fl, η'), ⟨ds.length, by simp, Nat.zero_le _, HF1, η1, S1, (fun _ _ e => e), ev⟩, ?_⟩
    rintro i m σ' H' ⟨rfl, hi, HFi, ηi, Si, gi, ei⟩
    by_cases hlt : i < ds.length
    · have hd : ds[i]? = some ds[i] := List.getElem?_eq_getElem hlt
      rw [List.drop_eq_getElem_cons hlt] at ei
      generalize ds[i] = d at hd ei
      obtain ⟨hgo, hy⟩ := jk.go i d HFi σ' H' ηi hd gi Si
      rw [forL] at ei
      split at ei
      · cases ei
      rename_i ηt et
      refine .inr ⟨hgo, _, fun σ2 H2 p => ⟨ds.length - (i + 1), by omega, rfl, hlt, p⟩, fun x H2 y => ?_⟩
      obtain ⟨HF2, S2, s2, rx⟩ := hy x H2 y
      refine ⟨HF2, ηi, d, ηt, S2, rx, et, fun σ3 S3 _ _ _ => ?_⟩
      have g2 : Same HF1 HF2 := gi.trans s2.f
      have kk2 : EndK F c.fr D HF2 η' fl := kk.mono (s1.f.trans g2)
      split at ei
      · rename_i η2 e2
        exact ⟨HF2, ηt, _, η2, S3, e2, fun σ4 H4 HF4 S4 g4 => ⟨HF4, η2, S4, g2.trans g4, ei⟩⟩
      · rename_i η2 e2
        exact ⟨HF2, ηt, _, η2, S3, e2, fun σ4 H4 HF4 S4 g4 => ⟨HF4, η2, S4, g2.trans g4, ei⟩⟩
      · rename_i η2 e2
        cases ei
        exact ⟨HF2, ηt, _, _, S3, e2, fun σ4 H4 HF4 S4 g4 => kk2 σ4 H4 HF4 S4 g4⟩
      · rename_i r η2 e2
        cases ei
        exact ⟨HF2, ηt, _, _, S3, e2, kk2⟩
      · cases ei
    · have e : i = ds.length := by omega
      subst e
      rw [List.drop_length, forL] at ei
      cases ei
      exact .inl ⟨jk.stop _ HFi H' gi Si.sub (Nat.le_refl _), kk σ' H' HFi Si (s1.f.trans gi)⟩
  · cases h
theorem ss_while {t : Ex} {b : Sms} (hb : SSs F Γ fu b) : SS F Γ fu (.while_ t b) := fun c X st h C nx => by
  unfold chkS at h
  split at h
  · rename_i x y pos
    rw [Bool.and_eq_true] at h
    refine CF.PS.weaken (ps_while (noX_pass nx) ((soundE (F := F) (Γ := Γ) t).pt c X _ h.1 C) (hb c X y h.2 C nx)) fun D σ H q => ?_
    obtain ⟨HF, η, fl, η', S, ev, kk⟩ := q
    rw [evS] at ev
    refine ⟨fun m σ H => ∃ HFi ηi, SR F HFi σ H ηi ∧ Same HF HFi ∧ whileL (evE Γ t) (evSs Γ fu b) m ηi = some (fl, η'), ⟨fu, HF, η, S, (fun _ _ e => e), ev⟩, ?_⟩
    rintro m σ' H' ⟨HFi, ηi, Si, gi, ei⟩
    cases m with
    | zero =>
      rw [whileL] at ei
      cases ei
    | succ n =>
      rw [whileL] at ei
      split at ei
      · rename_i η1 e1
        refine ⟨HFi, ηi, _, η1, Si, e1, fun H1 HF1 S1 s1 => ?_⟩
        show (if true = true then _ else _)
        rw [if_pos rfl]
        refine ⟨_, fun σ2 H2 p => ⟨n, Nat.lt_succ_self n, p⟩, ?_⟩
        have g1 := gi.trans s1.f
        split at ei
        · rename_i η2 e2
          exact ⟨HF1, η1, _, η2, S1, e2, fun σ4 H4 HF4 S4 g4 => ⟨HF4, η2, S4, g1.trans g4, ei⟩⟩
        · rename_i η2 e2
          exact ⟨HF1, η1, _, η2, S1, e2, fun σ4 H4 HF4 S4 g4 => ⟨HF4, η2, S4, g1.trans g4, ei⟩⟩
        · rename_i η2 e2
          cases ei
          exact ⟨HF1, η1, _, _, S1, e2, fun σ4 H4 HF4 S4 g4 => kk σ4 H4 HF4 S4 (g1.trans g4)⟩
        · rename_i r η2 e2
          cases ei
          exact ⟨HF1, η1, _, _, S1, e2, kk.mono g1⟩
        · cases ei
      · rename_i η1 e1
        cases ei
        refine ⟨HFi, ηi, _, _, Si, e1, fun H1 HF1 S1 s1 => ?_⟩
        show (if false = true then _ else _)
        rw [if_neg Bool.false_ne_true]
        exact kk σ' H1 HF1 S1 (gi.trans s1.f)
      · cases ei
  · cases h
theorem sss_nil : SSs F Γ fu .nil := fun c X sts h C nx => by
  unfold chkSs at h
  split at h
  · refine CF.PSs.weaken pss_nil fun D σ H q => ?_
    obtain ⟨HF, η, fl, η', S, ev, kk⟩ := q
    rw [evSs] at ev
    cases ev
    exact kk σ H HF S fun _ _ e => e
  · cases h
theorem sss_cons {s : Sm} {ss : Sms} (h1 : SS F Γ fu s) (h2 : SSs F Γ fu ss) : SSs F Γ fu (.cons s ss) := fun c X sts h C nx => by
  unfold chkSs at h
  split at h
  · rename_i x xs
    rw [Bool.and_eq_true] at h
    refine CF.PSs.weaken (pss_cons (h1 c X x h.1 C nx) (h2 c X xs h.2 C nx)) fun D σ H q => ?_
    obtain ⟨HF, η, fl, η', S, ev, kk⟩ := q
    rw [evSs] at ev
    split at ev
    · rename_i η1 e1
      exact ⟨HF, η, _, η1, S, e1, fun σ1 H1 HF1 S1 g1 => ⟨HF1, η1, fl, η', S1, ev, kk.mono g1⟩⟩
    · rename_i r hr
      refine ⟨HF, η, fl, η', S, ev, ?_⟩
      cases fl with
      | nx => exact absurd ev (hr _)
      | bk => exact kk
      | ct => exact kk
      | ret d => exact kk
  · cases h
mutual
theorem soundS : ∀ s : Sm, SS F Γ fu s
  | .set tg e => ss_set tg e
  | .own i e => ss_own i e
  | .par _ _ => fun c X st h C nx => by
    unfold chkS at h
    cases h
  | .aug i o e => ss_aug i o e
  | .put i k e => ss_put i k e
  | .app i e => ss_app i e
  | .ext _ _ => fun c X st h C nx => by
    unfold chkS at h
    cases h
  | .ex e => ss_ex e
  | .ret e => ss_ret e
  | .retN => ss_retN
  | .ite _ a b => ss_ite (soundSs a) (soundSs b)
  | .for_ _ _ b => ss_for (soundSs b)
  | .while_ _ b => ss_while (soundSs b)
  | .brk => ss_brk
  | .cont => ss_cont
  | .pass => ss_pass
  | .never => ss_never
theorem soundSs : ∀ s : Sms, SSs F Γ fu s
  | .nil => sss_nil
  | .cons s ss => sss_cons (soundS s) (soundSs ss)
end
end
end CF

set_option Elab.async false
set_option linter.all false
set_option maxRecDepth 100000
namespace CF
open PySem PySem.Spec PyProof.Rows L2

/-! ## a def keeps what its text says -/
def lentAt : List Bool → List V → Nat → Option Addr
  | true :: _, .ref p :: _, 0 => some p
  | _ :: r, _ :: vs, i + 1 => lentAt r vs i
  | _, _, _ => none
section
variable {W : Wd} {HF H : Hp}
theorem lentAt_none : ∀ {br : List Bool} {vs : List V} {i : Nat}, br.all (!·) = true → lentAt br vs i = none
  | [], _, _, _ => rfl
  | true :: r, _, _, h => by
    rw [List.all_cons] at h
    cases h
  | false :: r, [], 0, _ => rfl
  | false :: r, [], i + 1, _ => rfl
  | false :: r, _ :: vs, 0, _ => rfl
  | false :: r, _ :: vs, i + 1, h => by
    rw [List.all_cons, Bool.and_eq_true] at h
    exact lentAt_none (br := r) h.2
theorem lentA_none : ∀ {br : List Bool} {vs : List V}, br.all (!·) = true → lentA br vs = none
  | [], _, _ => rfl
  | true :: r, _, h => by
    rw [List.all_cons] at h
    cases h
  | false :: r, [], _ => rfl
  | false :: r, _ :: vs, h => by
    rw [List.all_cons, Bool.and_eq_true] at h
    exact lentA_none (br := r) h.2
theorem lentAt_one : ∀ {br : List Bool} {vs : List V} {i : Nat} {p : Addr}, oneLent br = true → lentAt br vs i = some p → lentA br vs = some p
  | [], _, _, _, _, e => by cases e
  | true :: r, [], 0, _, _, e => by cases e
  | true :: r, [], i + 1, _, _, e => by cases e
  | true :: r, v :: vs, 0, p, _, e => by
    cases v <;> cases e
    rfl
  | true :: r, v :: vs, i + 1, p, h, e => by
    rw [oneLent] at h
    have e' : lentAt r vs i = some p := by
      cases v <;> exact e
    rw [lentAt_none h] at e'
    cases e'
  | false :: r, [], 0, _, _, e => by cases e
  | false :: r, [], i + 1, _, _, e => by cases e
  | false :: r, v :: vs, 0, p, _, e => by cases e
  | false :: r, v :: vs, i + 1, p, h, e => lentAt_one (br := r) (i := i) h e
theorem lentAt_uniq : ∀ {br : List Bool} {vs : List V} {i j : Nat} {p q : Addr}, oneLent br = true → lentAt br vs i = some p → lentAt br vs j = some q → i = j
  | [], _, _, _, _, _, _, e, _ => by cases e
  | b :: r, [], 0, _, _, _, _, e, _ => by cases b <;> cases e
  | b :: r, [], i + 1, _, _, _, _, e, _ => by cases b <;> cases e
  | b :: r, v :: vs, 0, 0, _, _, _, _, _ => rfl
  | true :: r, v :: vs, 0, j + 1, p, q, h, _, e => by
    rw [oneLent] at h
    have e' : lentAt r vs j = some q := by cases v <;> exact e
    rw [lentAt_none h] at e'
    cases e'
  | true :: r, v :: vs, i + 1, j, p, q, h, e, _ => by
    rw [oneLent] at h
    have e' : lentAt r vs i = some p := by cases v <;> exact e
    rw [lentAt_none h] at e'
    cases e'
  | false :: r, v :: vs, 0, j + 1, _, _, _, e, _ => by cases e
  | false :: r, v :: vs, i + 1, 0, _, _, _, _, e => by cases e
  | false :: r, v :: vs, i + 1, j + 1, p, q, h, e1, e2 => congrArg (· + 1) (lentAt_uniq (br := r) (vs := vs) h e1 e2)
theorem lentAt_at : ∀ {br : List Bool} {vs : List V} {ds : List Dv} {i : Nat} {p : Addr}, ArgOks W HF H br vs ds → lentAt br vs i = some p → (∃ us, H p = some (.lst us)) ∧ HF p = none
  | [], _, _, _, _, _, e => by cases e
  | true :: r, v :: vs, d :: ds, 0, p, h, e => by
    obtain ⟨⟨p', us, xs, rfl, rfl, h1, _, h2⟩, _⟩ := h
    cases e
    exact ⟨⟨us, h1⟩, h2⟩
  | true :: r, v :: vs, d :: ds, i + 1, p, h, e => by
    have e' : lentAt r vs i = some p := by cases v <;> exact e
    exact lentAt_at (br := r) h.2 e'
  | false :: r, v :: vs, d :: ds, 0, p, _, e => by cases e
  | false :: r, v :: vs, d :: ds, i + 1, p, h, e => lentAt_at (br := r) (vs := vs) (i := i) h.2 e
  | b :: r, [], _, _, _, h, _ => by cases b <;> exact h.elim
  | b :: r, _ :: _, [], _, _, h, _ => by cases b <;> exact h.elim
/-- what a slot holds at the entry -/
def InitOk (W : Wd) (HF H : Hp) (br : List Bool) (vs : List V) (i : Nat) : SV → Prop
  | .no => True
  | .dat d => ∃ v, vs[i]? = some v ∧ Rep W HF v d
  | .lst b xs => b = true ∧ ∃ p us, vs[i]? = some (.ref p) ∧ H p = some (.lst us) ∧ Reps W HF us xs ∧ HF p = none ∧ lentAt br vs i = some p
theorem initOk_succ {b : Bool} {r : List Bool} {v : V} {vs : List V} {i : Nat} {sv : SV} (h : InitOk W HF H r vs i sv) : InitOk W HF H (b :: r) (v :: vs) (i + 1) sv := by
  cases sv with
  | no => trivial
  | dat d =>
    obtain ⟨u, e, q⟩ := h
    exact ⟨u, by rw [List.getElem?_cons_succ]; exact e, q⟩
  | lst b2 xs =>
    obtain ⟨e0, p, us, e, q1, q2, q3, q4⟩ := h
    refine ⟨e0, p, us, by rw [List.getElem?_cons_succ]; exact e, q1, q2, q3, ?_⟩
    cases b with
    | true => cases v <;> exact q4
    | false => exact q4
theorem init_ok : ∀ {br : List Bool} {vs : List V} {ds : List Dv} {η : CF.Env}, ArgOks W HF H br vs ds → initE br ds = some η → η.length = vs.length ∧ ∀ i sv, η[i]? = some sv → InitOk W HF H br vs i sv
  | [], [], [], η, _, e => by
    cases e
    exact ⟨rfl, fun i sv e => by simp at e⟩
  | true :: r, v :: vs, d :: ds, η, h, e => by
    obtain ⟨⟨p, us, xs, rfl, rfl, h1, h2, h3⟩, hr⟩ := h
    rw [initE] at e
    obtain ⟨η0, e1, rfl⟩ := Option.map_eq_some_iff.mp e
    obtain ⟨l, k⟩ := init_ok hr e1
    refine ⟨by rw [List.length_cons, List.length_cons, l], fun i sv q => ?_⟩
    cases i with
    | zero =>
      rw [List.getElem?_cons_zero] at q
      cases q
      exact ⟨rfl, p, us, rfl, h1, h2, h3, rfl⟩
    | succ i =>
      rw [List.getElem?_cons_succ] at q
      exact initOk_succ (k i sv q)
  | false :: r, v :: vs, d :: ds, η, h, e => by
    obtain ⟨h0, hr⟩ := h
    rw [initE] at e
    obtain ⟨η0, e1, rfl⟩ := Option.map_eq_some_iff.mp e
    obtain ⟨l, k⟩ := init_ok hr e1
    refine ⟨by rw [List.length_cons, List.length_cons, l], fun i sv q => ?_⟩
    cases i with
    | zero =>
      rw [List.getElem?_cons_zero] at q
      cases q
      exact ⟨v, rfl, h0⟩
    | succ i =>
      rw [List.getElem?_cons_succ] at q
      exact initOk_succ (k i sv q)
  | [], [], _ :: _, _, h, _ => h.elim
  | [], _ :: _, _, _, h, _ => h.elim
  | b :: r, [], _, _, h, _ => by cases b <;> exact h.elim
  | b :: r, _ :: _, [], _, h, _ => by cases b <;> exact h.elim
theorem outs_none : ∀ {br : List Bool} {η : CF.Env} {outs : List (List Dv)}, br.all (!·) = true → outsE br η = some outs → outs = []
  | [], _, _, _, e => by
    rw [outsE] at e
    cases e
    rfl
  | true :: r, _, _, h, _ => by
    rw [List.all_cons] at h
    cases h
  | false :: r, [], _, _, e => by cases e
  | false :: r, sv :: η, outs, h, e => by
    rw [List.all_cons, Bool.and_eq_true] at h
    have e' : outsE r η = some outs := by cases sv <;> exact e
    exact outs_none (br := r) h.2 e'
theorem outs_ok : ∀ {br : List Bool} {vs : List V} {ds : List Dv} {η : CF.Env} {outs : List (List Dv)}, ArgOks W HF H br vs ds → oneLent br = true → outsE br η = some outs →
    (lentA br vs = none ∧ outs = []) ∨ ∃ i p ys, lentA br vs = some p ∧ lentAt br vs i = some p ∧ η[i]? = some (.lst true ys) ∧ outs = [ys]
  | [], [], [], η, outs, _, _, e => by
    rw [outsE] at e
    cases e
    exact .inl ⟨rfl, rfl⟩
  | true :: r, v :: vs, d :: ds, η, outs, h, ho, e => by
    obtain ⟨⟨p, us, xs, rfl, rfl, h1, h2, h3⟩, hr⟩ := h
    rw [oneLent] at ho
    cases η with
    | nil => cases e
    | cons sv η =>
      cases sv with
      | lst b ys =>
        cases b with
        | true =>
          obtain ⟨o1, e1, rfl⟩ := Option.map_eq_some_iff.mp (show (outsE r η).map (ys :: ·) = some outs from e)
          obtain rfl := outs_none ho e1
          exact .inr ⟨0, p, ys, rfl, rfl, rfl, rfl⟩
        | false => cases e
      | no => cases e
      | dat d => cases e
  | false :: r, v :: vs, d :: ds, η, outs, h, ho, e => by
    cases η with
    | nil => cases e
    | cons sv η =>
      have e' : outsE r η = some outs := by cases sv <;> exact e
      rcases outs_ok (br := r) h.2 ho e' with ⟨q1, q2⟩ | ⟨i, p, ys, q1, q2, q3, q4⟩
      · exact .inl ⟨q1, q2⟩
      · exact .inr ⟨i + 1, p, ys, q1, q2, by rw [List.getElem?_cons_succ]; exact q3, q4⟩
  | [], [], _ :: _, _, _, h, _, _ => h.elim
  | [], _ :: _, _, _, _, h, _, _ => h.elim
  | b :: r, [], _, _, _, h, _, _ => by cases b <;> exact h.elim
  | b :: r, _ :: _, [], _, _, h, _, _ => by cases b <;> exact h.elim
theorem args_len : ∀ {br : List Bool} {vs : List V} {ds : List Dv}, ArgOks W HF H br vs ds → vs.length = br.length
  | [], [], [], _ => rfl
  | true :: r, v :: vs, d :: ds, h => congrArg (· + 1) (args_len (br := r) h.2)
  | false :: r, v :: vs, d :: ds, h => congrArg (· + 1) (args_len (br := r) h.2)
  | [], [], _ :: _, h => h.elim
  | [], _ :: _, _, h => h.elim
  | b :: r, [], _, h => by cases b <;> exact h.elim
  | b :: r, _ :: _, [], h => by cases b <;> exact h.elim
/-- the entry -/
theorem start_ok {N : List Str} {br : List Bool} {vs : List V} {ds : List Dv} {η : CF.Env} (sub : Same HF H) (ha : ArgOks W HF H br vs ds) (one : oneLent br = true) (e : initE br ds = some η) (hl : vs.length ≤ N.length) :
    SR ⟨W, HF, H, lentAt br vs⟩ HF (L2.start N vs) H (η ++ List.replicate (N.length - η.length) .no) := by
  obtain ⟨l, k⟩ := init_ok ha e
  have pick : ∀ i sv, (η ++ List.replicate (N.length - η.length) SV.no)[i]? = some sv → (sv = .no ∨ (InitOk W HF H br vs i sv ∧ (L2.start N vs)[i]? = (vs[i]?).map some)) := fun i sv q => by
    by_cases hi : i < η.length
    · rw [List.getElem?_append_left hi] at q
      refine .inr ⟨k i sv q, ?_⟩
      unfold L2.start
      rw [List.getElem?_append_left (by rw [List.length_map, ← l]; exact hi), List.getElem?_map]
    · rw [List.getElem?_append_right (by omega), List.getElem?_replicate] at q
      split at q
      · cases q
        exact .inl rfl
      · cases q
  refine ⟨sub, fun _ _ e => e, fun _ _ e _ => e, fun i p q => (lentAt_at ha q).1, fun i p q => (lentAt_at ha q).symm, fun _ _ e => .inl e, ?_, fun i sv q => ?_, fun i j a ⟨b1, x1, e1, q1⟩ ⟨b2, x2, e2, q2⟩ => ?_⟩
  · unfold L2.start
    rw [List.length_append, List.length_append, List.length_replicate, List.length_map, List.length_replicate, l]
  · rcases pick i sv q with rfl | ⟨h, hs⟩
    · trivial
    · cases sv with
      | no => trivial
      | dat d =>
        obtain ⟨v, e1, r⟩ := h
        exact ⟨v, by rw [hs, e1]; rfl, r⟩
      | lst b xs =>
        obtain ⟨rfl, p, us, e1, h1, h2, h3, h4⟩ := h
        exact ⟨p, us, by rw [hs, e1]; rfl, h1, h2, h3, by rw [if_pos rfl]; exact h4⟩
  · rcases pick i _ e1 with z | ⟨⟨_, p, us, _, _, _, _, h4⟩, _⟩
    · cases z
    rcases pick j _ e2 with z | ⟨⟨_, p', us', _, _, _, _, h4'⟩, _⟩
    · cases z
    exact lentAt_uniq one h4 h4'
end
/-- the module around the defs -/
structure ModOk (P : Program) (w : World) (K : PySem.W.Frag) (mg : Str → Option Value) (base : Heap) (k : Nat) (c : CI) (Γ : Tab) (W : Wd) : Prop where
  hK : W.K = K
  x : XEnv P K mg W
  xs : ∀ k ∈ c.xs, (W.cl k).isSome = true
  bi : ∀ x ∈ bis, mg x = none
  gl : ∀ x k, c.gl.lookup x = some k → ∃ u, mg x = some u ∧ RelV (cstV k) u
  fns : ∀ g n, c.fn[g]? = some n → (∃ (j : Nat) (f : Addr) (fd : FuncData) (ps : List Str), mg n.1 = some (.ref f) ∧ PySem.W.keepIn K (.ref f) = true ∧ L2.Binds K fd ps [] ∧ FnG P w K mg base CX0 j f fd ps (spM n.2.2 W (Γ g) n.2.1) ∧ j ≤ k) ∧ oneLent n.2.1 = true
theorem fn_ok {P : Program} {w : World} {K : PySem.W.Frag} {mg : Str → Option Value} {base : Heap} {k : Nat} {f : Addr} {x qual : Str} {st : Stmt} {fd : FuncData} {ps : List Str} {c : CI} {Γ : Tab} {W : Wd} {fu : Nat} {br : List Bool} {body : Sms}
    (Fu : Fun K x qual st f fd) (S : FnScope c.N ps (defScope st)) (hsc : c.sc = defScope st) (M : ModOk P w K mg base k c Γ W) (hb : br.length = ps.length) (one : oneLent br = true) (hc : chkSs c body (defBody st) = true) :
    FnG P w K mg base CX0 (k + 1) f fd ps (spM c.fr W (runFn Γ fu c.N.length br body) br) := by
  have hpl : ps.length ≤ c.N.length := by
    have := congrArg List.length S.pre
    rw [List.length_take] at this
    omega
  have C : ∀ (cdv : Value) (A : Around) (outer : List PySem.Env) (s : Shared) (H : Hp) (E : XK), RoomG k (A.deeper (envOfC qual (defScope st) s.heap.objs.size f cdv)) → CtxOk (cxOf CX0 P w K mg base c.N qual (defScope st) f cdv A outer s H E).nox c Γ W := fun cdv A outer s H E hr => {
    N := rfl
    nd := S.nd
    sc := hsc.symm
    K := M.hK
    calm := rfl
    hu := by
      have := hr.r.un
      show (A.deeper _).units + 200 < cLine
      omega
    hg := hr.g
    stn := fun _ _ => rfl
    dp := by
      have := hr.r.dp
      show (A.deeper _).depth + 1 < recursionLimit
      omega
    x := M.x
    xs := M.xs
    bi := M.bi
    gl := M.gl
    fns := fun g n e => by
      obtain ⟨⟨j, f, fd, ps, m1, m2, m3, m4, m5⟩, o⟩ := M.fns g n e
      exact ⟨⟨j, f, fd, ps, m1, m2, m3, m4, hr.mono m5⟩, o⟩ }
  have back : ∀ {HF H : Hp} {vs : List V} {ds : List Dv} {η' : CF.Env} {outs : List (List Dv)}, ArgOks W HF H br vs ds → outsE br η' = some outs → ∀ {σ' : L2.St} {H' HF' : Hp}, SR ⟨W, HF, H, lentAt br vs⟩ HF' σ' H' η' → BackOk W HF' H' (lentA br vs) outs := fun {HF H vs ds η' outs} ha ho {σ' H' HF'} S' => by
    rcases outs_ok ha one ho with ⟨q1, rfl⟩ | ⟨i, p, ys, q1, q2, q3, rfl⟩
    · rw [q1]
      trivial
    · rw [q1]
      obtain ⟨p', us, _, h1, h2, h3, h4⟩ := S'.slotL q3
      have h4' : lentAt br vs i = some p' := h4
      rw [q2] at h4'
      cases h4'
      exact ⟨us, h1, h2, h3⟩
  cases hm : c.fr with
  | false =>
    refine fnG_of Fu S (fun vs H Q E h => ?_) fun cdv A outer s H vs Q E hr hsp => ?_
    · obtain ⟨HF, ds, d, outs, _, ha, _⟩ := h
      rw [args_len ha, hb]
    obtain ⟨HF, ds, d, outs, sub, ha, hrun, kk⟩ := hsp
    unfold runFn at hrun
    split at hrun
    · cases hrun
    rename_i η0 e0
    let F : Fx := ⟨W, HF, H, lentAt br vs⟩
    have PB := (soundSs (F := F) (Γ := Γ) (fu := fu) body c _ (defBody st) hc (C cdv A outer s H E hr) rfl).nox
    rw [hm] at PB
    refine ⟨_, PB, HF, η0 ++ List.replicate (c.N.length - η0.length) .no, ?_⟩
    have S0 : SR F HF (L2.start c.N vs) H (η0 ++ List.replicate (c.N.length - η0.length) .no) := start_ok sub ha one e0 (by rw [args_len ha, hb]; exact hpl)
    have fin : ∀ {η' : CF.Env} {v : V} {d : Dv} {outs : List (List Dv)}, outsE br η' = some outs → (∀ v H' HF', Same HF HF' → Same HF' H' → (∀ a o, H a = some o → lentA br vs ≠ some a → H' a = some o) → (∀ a o, HF' a = some o → HF a = some o ∨ H a = none) → Rep W HF' v d → BackOk W HF' H' (lentA br vs) outs → Q v H') →
        ∀ {σ' : L2.St} {H' HF' : Hp}, SR F HF' σ' H' η' → Same HF HF' → Rep W HF' v d → Q v H' := fun {η' v d outs} ho kk {σ' H' HF'} S' g r =>
      kk v H' HF' g S'.sub (fun a o e n => S'.keep a o e fun i z => n (lentAt_one one z)) S'.newF r (back ha ho S')
    split at hrun
    · rename_i r η' er
      obtain ⟨outs', o1, o2⟩ := Option.map_eq_some_iff.mp hrun
      cases o2
      exact ⟨_, _, S0, er, (fun v σ' H' HF' S' g rv => fin o1 kk S' g rv : ∀ v σ' H' HF', SR F HF' σ' H' η' → Same HF HF' → Rep F.W HF' v _ → Q v H')⟩
    · rename_i η' er
      obtain ⟨outs', o1, o2⟩ := Option.map_eq_some_iff.mp hrun
      cases o2
      exact ⟨_, _, S0, er, fun σ' H' HF' S' g => fin o1 kk S' g .non⟩
    · cases hrun
  | true =>
    refine fnG_of Fu S (fun vs H Q E h => ?_) fun cdv A outer s H vs Q E hr hsp => ?_
    · obtain ⟨HF, ds, d, outs, _, ha, _⟩ := h
      rw [args_len ha, hb]
    obtain ⟨HF, ds, ys, outs, sub, ha, hrun, kk⟩ := hsp
    unfold runFn at hrun
    split at hrun
    · cases hrun
    rename_i η0 e0
    let F : Fx := ⟨W, HF, H, lentAt br vs⟩
    have PB := (soundSs (F := F) (Γ := Γ) (fu := fu) body c _ (defBody st) hc (C cdv A outer s H E hr) rfl).nox
    rw [hm] at PB
    refine ⟨_, PB, HF, η0 ++ List.replicate (c.N.length - η0.length) .no, ?_⟩
    have S0 : SR F HF (L2.start c.N vs) H (η0 ++ List.replicate (c.N.length - η0.length) .no) := start_ok sub ha one e0 (by rw [args_len ha, hb]; exact hpl)
    split at hrun
    · rename_i r η' er
      obtain ⟨outs', o1, o2⟩ := Option.map_eq_some_iff.mp hrun
      cases o2
      refine ⟨_, _, S0, er, (⟨ys, rfl, fun q us σ' H' HF' S' g h0 hq rs hF => ?_⟩ : ∃ xs, Dv.lst ys = .lst xs ∧ ∀ q vs σ' H' HF', SR F HF' σ' H' η' → Same HF HF' → F.H0 q = none → H' q = some (.lst vs) → Reps F.W HF' vs xs → HF' q = none → Q (.ref q) H')⟩
      exact kk q us H' HF' g S'.sub (fun a o e n => S'.keep a o e fun i z => n (lentAt_one one z)) S'.newF h0 hq rs hF (back ha o1 S')
    · rename_i η' er
      obtain ⟨outs', o1, o2⟩ := Option.map_eq_some_iff.mp hrun
      cases o2
    · cases hrun
end CF

set_option Elab.async false
set_option linter.all false
set_option maxRecDepth 100000
namespace CF
open PySem PySem.Spec PyProof.Rows L2

/-! ## the defs of a text together -/
abbrev Run := List Dv → Option (Dv × List (List Dv))
def tab (l : List Run) : Tab := fun g => (l[g]?).getD fun _ => none
structure DefIn (K : PySem.W.Frag) (mg : Str → Option Value) (x : Str) (st : Stmt) (ps : List Str) (f : Addr) (fd : FuncData) : Prop where
  fn : Fun K x x st f fd
  mg : mg x = some (.ref f)
  kp : PySem.W.keepIn K (.ref f) = true
  bd : L2.Binds K fd ps []
section
variable {P : Program} {w : World} {K : PySem.W.Frag} {mg : Str → Option Value} {base : Heap} {W : Wd}
def CalP (P : Program) (w : World) (K : PySem.W.Frag) (mg : Str → Option Value) (base : Heap) (W : Wd) (k : Nat) (n : Str × List Bool × Bool) (r : Run) : Prop :=
  (∃ (j : Nat) (f : Addr) (fd : FuncData) (ps : List Str), mg n.1 = some (.ref f) ∧ PySem.W.keepIn K (.ref f) = true ∧ L2.Binds K fd ps [] ∧ FnG P w K mg base CX0 j f fd ps (spM n.2.2 W r n.2.1) ∧ j ≤ k) ∧ oneLent n.2.1 = true
def CalsP (P : Program) (w : World) (K : PySem.W.Frag) (mg : Str → Option Value) (base : Heap) (W : Wd) (k : Nat) : List (Str × List Bool × Bool) → List Run → Prop
  | [], [] => True
  | n :: ns, r :: rs => CalP P w K mg base W k n r ∧ CalsP P w K mg base W k ns rs
  | _, _ => False
theorem CalP.mono {k k' : Nat} {n : Str × List Bool × Bool} {r : Run} (h : CalP P w K mg base W k n r) (l : k ≤ k') : CalP P w K mg base W k' n r := by
  obtain ⟨⟨j, f, fd, ps, a, b, c, d, e⟩, o⟩ := h
  exact ⟨⟨j, f, fd, ps, a, b, c, d, Nat.le_trans e l⟩, o⟩
theorem fns_of {k : Nat} : ∀ {ns : List (Str × List Bool × Bool)} {rs : List Run}, CalsP P w K mg base W k ns rs → ∀ g n, ns[g]? = some n → CalP P w K mg base W k n (tab rs g)
  | [], [], _, g, n, e => by simp at e
  | n :: ns, r :: rs, h, 0, m, e => by
    rw [List.getElem?_cons_zero] at e
    cases e
    exact h.1
  | n :: ns, r :: rs, h, g + 1, m, e => by
    rw [List.getElem?_cons_succ] at e
    exact fns_of h.2 g m e
  | [], _ :: _, h, _, _, _ => h.elim
  | _ :: _, [], h, _, _, _ => h.elim
/-- what all defs need -/
structure TxtOk (P : Program) (K : PySem.W.Frag) (mg : Str → Option Value) (W : Wd) (xs : List Str) (gl : List (Str × Const)) : Prop where
  hK : W.K = K
  x : XEnv P K mg W
  xs : ∀ k ∈ xs, (W.cl k).isSome = true
  bi : ∀ x ∈ bis, mg x = none
  gl : ∀ p ∈ gl, ∃ u, mg p.1 = some u ∧ RelV (cstV p.2) u
theorem lookup_mem {α β : Type} [BEq α] [LawfulBEq α] : ∀ {l : List (α × β)} {x : α} {y : β}, l.lookup x = some y → (x, y) ∈ l
  | [], _, _, h => by cases h
  | (a, b) :: l, x, y, h => by
    rw [List.lookup_cons] at h
    split at h
    · rename_i e
      cases h
      rw [eq_of_beq e]
      exact List.mem_cons_self
    · exact List.mem_cons_of_mem _ (lookup_mem h)
theorem cal_mk {x : Str} {st : Stmt} {ps : List Str} {f : Addr} {fd : FuncData} {c : CI} {k : Nat} {br : List Bool} {body : Sms} {fu n : Nat} {rs : List Run} {xs : List Str} {gl : List (Str × Const)} (T : TxtOk P K mg W xs gl) (D : DefIn K mg x st ps f fd)
    (S : FnScope c.N ps (defScope st)) (hc : chkSs c body (defBody st) = true) (hx : ∀ k ∈ c.xs, k ∈ xs) (hg : ∀ p ∈ c.gl, p ∈ gl) (hcal : CalsP P w K mg base W k c.fn rs) (hsc : c.sc = defScope st) (hb : br.length = ps.length) (one : oneLent br = true) (hn : c.N.length = n) :
    CalP P w K mg base W (k + 1) (x, br, c.fr) (runFn (tab rs) fu n br body) := by
  subst hn
  exact ⟨⟨k + 1, f, fd, ps, D.mg, D.kp, D.bd, fn_ok D.fn S hsc ⟨T.hK, T.x, fun k h => T.xs k (hx k h), T.bi, fun x k h => T.gl _ (hg _ (lookup_mem h)), fns_of hcal⟩ hb one hc, Nat.le_refl _⟩, one⟩
theorem FnG.weaken {CX : CXT} {k : Nat} {f : Addr} {fd : FuncData} {ps : List Str} {sp sp' : Sp} (h : FnG P w K mg base CX k f fd ps sp) (le : ∀ vs H Q E, sp' vs H Q E → sp vs H Q E) : FnG P w K mg base CX k f fd ps sp' :=
  ⟨fun vs H Q E q => h.len vs H Q E (le _ _ _ _ q), fun A outer s H args us vs Q E hr e0 hb r q => h.run A outer s H args us vs Q E hr e0 hb r (le _ _ _ _ q)⟩
def spL (K : PySem.W.Frag) : Sp := fun vs H Q _ => ∃ (a : Addr) (ns : List Int), vs = [.ref a] ∧ SqL K H a (ns.map V.int) ∧ ns.length ≤ 63 ∧ ∀ H', Q (.bl true) H'
theorem spL_le {K : PySem.W.Frag} {W : Wd} {r : Run} (hK : W.K = K) (h : ∀ ns : List Int, ns.length ≤ 63 → r [.scr ns] = some (.bl true, [])) : ∀ vs H Q E, spL K vs H Q E → spM false W r [false] vs H Q E := fun vs H Q E ⟨a, ns, e, hS, hl, k⟩ => by
  subst e
  refine ⟨H, [.scr ns], .bl true, [], fun _ _ e => e, ⟨.scr (by rw [hK]; exact hS), trivial⟩, h ns hl, fun v H' HF' _ _ _ _ r _ => ?_⟩
  cases r
  exact k H'
end
theorem walk {l : PySem.W.OpenLaw} {k : Nat} {q : Program} {loose : List Str} {XP : (Str → Option Value) → Heap → Prop} {YP : World → Heap → Prop} {d : DefRec} {K : Params → PySem.W.Frag} (hn : l.most = some 63) (hdf : d.params.defaults = []) (hr : RoomG k callerA)
    (hY : ∀ (w : World) (h : Heap), YP w h → (K w.params).In h)
    (F : ∀ (w : World) (mg : Str → Option Value) (fa : Addr) (h : Heap), (K w.params).In h → h.Ns mainGlobals mg → mg d.name = some (.ref fa) →
      ∃ fd : FuncData, (∀ (s : Shared) (u : Value), BindsTo s fd ⟨[u], []⟩ [("script", u)]) ∧ ∀ base : Heap, (K w.params).In base → base.Ns mainGlobals mg → FnG l.prog w (K w.params) mg base CX0 k fa fd ["script"] (spL (K w.params))) :
    PySem.W.WalkO q loose XP YP l.row.toRowW d [] (fun f vs => PySem.call f vs) :=
  walkG (sp := fun w => spL (K w.params)) hn (by rw [sizeLine_eq]; decide) hdf hr hY F fun w H a ns hl _ hS => ⟨a, ns, rfl, hS, hl, fun _ => rfl⟩

/-! ## the error classes by one look -/
def oexB (K : PySem.W.Frag) (C : Addr) : Bool := (match K.lookup C with
  | some ⟨.type "type", _, .cls cd, sl⟩ => (match cd.mro, sl.toList with
    | .ref C' :: bm, [_, _, _, _, some (.builtin n), _] => C' == C && n == "ValueError.__new__" && !cd.hasDel && cd.hasDict && PySem.HandSPX.refsVE bm
    | _, _ => false)
  | _ => false) && decide (PySem.W.findIn K (.ref C) "__setattr__" = some (some (.builtin "object.__setattr__"))) && decide (PySem.W.subIn K (.ref C) (.type "BaseException") = some true) && decide (PySem.W.typeIn K (.ref C) = some (.type "type")) && PySem.W.keepIn K (.ref C)
theorem oexB_ok {K : PySem.W.Frag} {C : Addr} (h : oexB K C = true) : OexC K C := by
  unfold oexB at h
  simp only [Bool.and_eq_true, decide_eq_true_eq] at h
  obtain ⟨⟨⟨⟨h1, h2⟩, h3⟩, h4⟩, h5⟩ := h
  refine ⟨?_, h2, h3, h4, h5⟩
  split at h1
  · rename_i dd cd sl ho
    split at h1
    · rename_i C' bm k0 k1 k2 k3 n k5 hm hs
      simp only [Bool.and_eq_true, beq_iff_eq, Bool.not_eq_true'] at h1
      obtain ⟨⟨⟨⟨rfl, rfl⟩, hdel⟩, hdct⟩, hr⟩ := h1
      obtain ⟨nm, bs, mro, ns, qn, hd, sn, sub, ab, col, del⟩ := cd
      dsimp only at hm hdel hdct
      subst hm hdel hdct
      have hsl : sl = #[k0, k1, k2, k3, some (.builtin "ValueError.__new__"), k5] := by
        obtain ⟨l⟩ := sl
        simp only at hs
        rw [hs]
      subst hsl
      exact ⟨nm, qn, ns, bs, bm, sn, sub, ab, col, dd, k0, k1, k2, k3, k5, ho, hr⟩
    · cases h1
  · cases h1
def clsB (K : PySem.W.Frag) (fI D : Addr) (p : Str × Addr) : Bool := oexB K p.2 && decide (PySem.W.nsIn K mainGlobals p.1 = some (some (.ref p.2))) &&
  decide (PySem.W.findIn K (.ref p.2) "__init__" = some (some (.ref fI))) && decide (PySem.W.typeIn K (.ref fI) = some (.type "function")) && decide (PySem.W.ks_superIn K p.2 D "__init__" = some (some (.builtin "ValueError.__init__"))) &&
  decide (PySem.W.subIn K (.ref p.2) (.type "ValueError") = some true) && decide (PySem.W.mroIn K p.2 (.ref D) = some true) && decide (PySem.W.findIn K (.ref p.2) "value" = some none) && decide (PySem.W.nsIn K cStatics "thirdparty.any" = some none) &&
  (match PySem.W.clsIn K p.2 with | some cd => decide (Str.ofString ((cd.name.toString.cutAt '.').getLastD "") = p.1) | none => false) && PySem.W.hasDictIn K p.2 && decide (PySem.W.findIn K (.ref p.2) "__getattribute__" = some (some (.builtin "BaseException.__getattribute__"))) &&
  decide (PySem.W.findIn K (.ref p.2) "__getattr__" = some none) && decide (PySem.W.findIn K (.ref p.2) "__class__" = some (some (.builtin "object.__class__"))) &&
  decide (PySem.W.specialIn K (.builtin "object.__class__") "__get__" = some (some (.builtin "getset_descriptor.__get__"))) && decide (PySem.W.takesIn K (.builtin "object.__class__") = some true) && decide (PySem.W.mroIn K p.2 (.type "object") = some true) &&
  decide (PySem.W.findIn K (.ref p.2) "__repr__" = some (some (.builtin "BaseException.__repr__"))) && decide (PySem.W.kitOne K (.ref p.2) (.type "ValueError") = some true)
def xB (K : PySem.W.Frag) (fI D : Addr) (cs : List (Str × Addr)) : Bool := cs.all (clsB K fI D) && cs.all fun a => cs.all fun b => decide (PySem.W.kitOne K (.ref a.2) (.ref b.2) = some (decide (a.1 = b.1) || decide (b.1 = ("CreaseError" : Str))))
theorem xenv_of {P : Program} {K : PySem.W.Frag} {mg : Str → Option Value} {h : Heap} {fI D : Addr} {cs : List (Str × Addr)} {W : Wd} (X : K.In h) (G : h.Ns mainGlobals mg) (F : XDef P K fI D) (hb : xB K fI D cs = true) (hW : W.cl = fun c => cs.lookup c) : XEnv P K mg W := by
  unfold xB at hb
  rw [Bool.and_eq_true] at hb
  obtain ⟨hb1, hb2⟩ := hb
  have one : ∀ c C, W.cl c = some C → (c, C) ∈ cs ∧ clsB K fI D (c, C) = true := fun c C e => by
    rw [hW] at e
    have m := lookup_mem e
    exact ⟨m, List.all_eq_true.mp hb1 _ m⟩
  refine ⟨fun c C e => ?_, fun c C e => ?_, fun k Ck c Cc e1 e2 => ?_, fun k Ck e => ?_⟩
  · obtain ⟨_, q⟩ := one c C e
    unfold clsB at q
    simp only [Bool.and_eq_true, decide_eq_true_eq] at q
    obtain ⟨⟨⟨⟨⟨⟨⟨⟨⟨⟨⟨⟨⟨⟨⟨⟨⟨⟨q1, q2⟩, q3⟩, q4⟩, q5⟩, q6⟩, q7⟩, q8⟩, q9⟩, q10⟩, q11⟩, q12⟩, q13⟩, q14⟩, q15⟩, q16⟩, q17⟩, q18⟩, q19⟩ := q
    refine ⟨?_, q11, q12, q13, (oexB_ok q1).exC, q14, q15, q16, q17, q18, q8⟩
    split at q10
    · rename_i cd hcd
      exact ⟨cd, hcd, of_decide_eq_true q10⟩
    · cases q10
  · obtain ⟨_, q⟩ := one c C e
    unfold clsB at q
    simp only [Bool.and_eq_true, decide_eq_true_eq] at q
    obtain ⟨⟨⟨⟨⟨⟨⟨⟨⟨⟨⟨⟨⟨⟨⟨⟨⟨⟨q1, q2⟩, q3⟩, q4⟩, q5⟩, q6⟩, q7⟩, q8⟩, q9⟩, q10⟩, q11⟩, q12⟩, q13⟩, q14⟩, q15⟩, q16⟩, q17⟩, q18⟩, q19⟩ := q
    exact ⟨PySem.W.mg_of X G q2, (oexB_ok q1).kC, fI, D, F, ⟨oexB_ok q1, q3, q4, q5, q6, q7, q8, q9⟩⟩
  · exact of_decide_eq_true (List.all_eq_true.mp (List.all_eq_true.mp hb2 _ (one k Ck e1).1) _ (one c Cc e2).1)
  · obtain ⟨_, q⟩ := one k Ck e
    unfold clsB at q
    simp only [Bool.and_eq_true, decide_eq_true_eq] at q
    exact q.2
def biB (K : PySem.W.Frag) : Bool := bis.all fun x => decide (PySem.W.nsIn K mainGlobals x = some none)
theorem biB_ok {K : PySem.W.Frag} {mg : Str → Option Value} {h : Heap} (X : K.In h) (G : h.Ns mainGlobals mg) (hb : biB K = true) : ∀ x ∈ bis, mg x = none := fun x hx => PySem.W.mg_none_of X G (of_decide_eq_true (List.all_eq_true.mp hb x hx))
theorem lookup_some {β : Type} : ∀ {l : List (Str × β)} {x : Str}, x ∈ l.map (·.1) → (l.lookup x).isSome = true
  | (a, b) :: l, x, h => by
    rw [List.lookup_cons]
    split
    · rfl
    · rename_i e
      rcases List.mem_cons.mp h with z | z
      · rw [z] at e
        simp at e
      · exact lookup_some z
  | [], _, h => by cases h
end CF

set_option Elab.async false
set_option linter.all false
set_option maxRecDepth 100000
namespace CF
open PySem L2
def top (i : Nat) : PySem.Stmt := PySem.Challenge.pw_creasedflat_k23_errors_each_its_own.main.body.getD i (.Pass ⟨0, 0, 0, 0⟩)
/-! _law_pot -/
abbrev s__law_pot : PySem.Stmt := top 27
def b__law_pot : Sms := (.cons (.set (.n 2) (.ite (.pr (.cmp .Lt) (.cons (.e (.var 1)) (.cons (.e (.pr .len (.cons (.e (.var 0)) .nil))) .nil))) (.pr .ix (.cons (.e (.var 0)) (.cons (.e (.var 1)) .nil))) (.pr (.bin .Add) (.cons (.e (.pr (.bin .Add) (.cons (.e (.pr (.bin .Mod) (.cons (.e (.pr .int (.cons (.e (.pr .sum (.cons (.e (.pr (.sl false true) (.cons (.e (.var 0)) (.cons (.e (.cst (.int 1))) .nil)))) .nil))) .nil))) (.cons (.e (.cst (.int 1000211))) .nil)))) (.cons (.e (.pr (.bin .Mult) (.cons (.e (.cst (.int 4639))) (.cons (.e (.var 1)) .nil)))) .nil)))) (.cons (.e (.cst (.int 3163))) .nil))))) (.cons (.set (.n 3) (.pr (.bin .Mult) (.cons (.e (.pr (.bin .Mod) (.cons (.e (.pr .int (.cons (.e (.pr .abs (.cons (.e (.var 2)) .nil))) .nil))) (.cons (.e (.pr (.bin .Pow) (.cons (.e (.pr (.bin .Pow) (.cons (.e (.cst (.int 10))) (.cons (.e (.cst (.int 60))) .nil)))) (.cons (.e (.cst (.int 5))) .nil)))) .nil)))) (.cons (.e (.pr .int (.cons (.e (.pr (.cmp .GtE) (.cons (.e (.pr .abs (.cons (.e (.var 2)) .nil))) (.cons (.e (.pr (.bin .Pow) (.cons (.e (.cst (.int 10))) (.cons (.e (.cst (.int 18))) .nil)))) .nil)))) .nil))) .nil)))) (.cons (.set (.n 4) (.pr (.bin .Mod) (.cons (.e (.pr .int (.cons (.e (.var 2)) .nil))) (.cons (.e (.cst (.int 2305843009213693951))) .nil)))) (.cons (.ret (.pr .lst (.cons (.e (.var 3)) (.cons (.e (.pr (.bin .Mod) (.cons (.e (.pr .int (.cons (.e (.pr (.bin .Add) (.cons (.e (.pr (.bin .Add) (.cons (.e (.pr (.bin .Mult) (.cons (.e (.var 4)) (.cons (.e (.cst (.int 72161))) .nil)))) (.cons (.e (.pr (.bin .Mult) (.cons (.e (.pr (.bin .Mult) (.cons (.e (.cst (.int 10853))) (.cons (.e (.var 1)) .nil)))) (.cons (.e (.var 1)) .nil)))) .nil)))) (.cons (.e (.cst (.int 2843))) .nil)))) .nil))) (.cons (.e (.cst (.int 2305843009213693921))) .nil)))) (.cons (.e (.cst (.int 0))) .nil))))) .nil))))
def c__law_pot : CI := { N := ["script", "place", "cell", "own", "small"], sc := defScope s__law_pot, st := (defScope s__law_pot).names, fn := [], gl := [], xs := [], fr := true }
theorem k__law_pot : chkSs c__law_pot b__law_pot (defBody s__law_pot) = true := by decide +kernel
theorem n__law_pot : FnScope c__law_pot.N ["script", "place"] (defScope s__law_pot) := ⟨rfl, rfl, rfl, by decide +kernel, rfl, by decide +kernel, by decide +kernel⟩
def r__law_pot : Run := runFn (tab []) 0 5 [false, false] b__law_pot
/-! _law_take -/
abbrev s__law_take : PySem.Stmt := top 28
def b__law_take : Sms := (.cons (.ite (.pr (.cmp .Gt) (.cons (.e (.pr .ix (.cons (.o 0) (.cons (.e (.cst (.int 0))) .nil)))) (.cons (.e (.cst (.int 0))) .nil))) (.cons (.set (.n 4) (.pr (.bin .Mod) (.cons (.e (.pr .int (.cons (.e (.pr .ix (.cons (.o 0) (.cons (.e (.cst (.int 0))) .nil)))) .nil))) (.cons (.e (.var 1)) .nil)))) (.cons (.put 0 (.cst (.int 0)) (.pr (.bin .FloorDiv) (.cons (.e (.pr .ix (.cons (.o 0) (.cons (.e (.cst (.int 0))) .nil)))) (.cons (.e (.var 1)) .nil)))) (.cons (.ret (.var 4)) .nil))) .nil) (.cons (.put 0 (.cst (.int 2)) (.pr (.bin .Add) (.cons (.e (.pr .ix (.cons (.o 0) (.cons (.e (.cst (.int 2))) .nil)))) (.cons (.e (.cst (.int 1))) .nil)))) (.cons (.set (.n 2) (.pr .ix (.cons (.e (.pr .lst (.cons (.e (.cst (.int 2147483647))) (.cons (.e (.cst (.int 2147483629))) (.cons (.e (.cst (.int 2147483587))) (.cons (.e (.cst (.int 2147483579))) (.cons (.e (.cst (.int 2147483563))) .nil))))))) (.cons (.e (.pr (.bin .Mod) (.cons (.e (.pr .int (.cons (.e (.pr .ix (.cons (.o 0) (.cons (.e (.cst (.int 2))) .nil)))) .nil))) (.cons (.e (.cst (.int 5))) .nil)))) .nil)))) (.cons (.set (.n 3) (.pr (.bin .Mod) (.cons (.e (.pr .int (.cons (.e (.pr (.bin .Pow) (.cons (.e (.pr .int (.cons (.e (.pr (.bin .Add) (.cons (.e (.pr (.bin .Add) (.cons (.e (.pr .ix (.cons (.o 0) (.cons (.e (.cst (.int 1))) .nil)))) (.cons (.e (.pr (.bin .Mult) (.cons (.e (.pr (.bin .Mult) (.cons (.e (.cst (.int 95257))) (.cons (.e (.pr .ix (.cons (.o 0) (.cons (.e (.cst (.int 2))) .nil)))) .nil)))) (.cons (.e (.pr .ix (.cons (.o 0) (.cons (.e (.cst (.int 2))) .nil)))) .nil)))) .nil)))) (.cons (.e (.cst (.int 3163))) .nil)))) .nil))) (.cons (.e (.cst (.int 3))) .nil)))) .nil))) (.cons (.e (.var 2)) .nil)))) (.cons (.set (.n 3) (.pr (.bin .Mod) (.cons (.e (.pr .int (.cons (.e (.pr (.bin .Mult) (.cons (.e (.var 3)) (.cons (.e (.pr (.bin .Add) (.cons (.e (.pr (.bin .Mod) (.cons (.e (.pr .int (.cons (.e (.var 3)) .nil))) (.cons (.e (.cst (.int 13441))) .nil)))) (.cons (.e (.pr (.bin .Mult) (.cons (.e (.cst (.int 419))) (.cons (.e (.pr .ix (.cons (.o 0) (.cons (.e (.cst (.int 2))) .nil)))) .nil)))) .nil)))) .nil)))) .nil))) (.cons (.e (.cst (.int 2305843009213693907))) .nil)))) (.cons (.ret (.pr (.bin .Mod) (.cons (.e (.pr .int (.cons (.e (.pr (.bin .FloorDiv) (.cons (.e (.var 3)) (.cons (.e (.cst (.int 229))) .nil)))) .nil))) (.cons (.e (.var 1)) .nil)))) .nil))))))
def c__law_take : CI := { N := ["pot", "upto", "prime", "blend", "digit"], sc := defScope s__law_take, st := (defScope s__law_take).names, fn := [], gl := [], xs := [], fr := false }
theorem k__law_take : chkSs c__law_take b__law_take (defBody s__law_take) = true := by decide +kernel
theorem n__law_take : FnScope c__law_take.N ["pot", "upto"] (defScope s__law_take) := ⟨rfl, rfl, rfl, by decide +kernel, rfl, by decide +kernel, by decide +kernel⟩
def r__law_take : Run := runFn (tab []) 0 5 [true, false] b__law_take
/-! _law_of -/
abbrev s__law_of : PySem.Stmt := top 29
def b__law_of : Sms := (.cons (.ret (.pr .ix (.cons (.e (.var 1)) (.cons (.e (.call 0 (.cons (.o 0) (.cons (.e (.pr .len (.cons (.e (.var 1)) .nil))) .nil)))) .nil)))) .nil)
def c__law_of : CI := { N := ["pot", "some"], sc := defScope s__law_of, st := (defScope s__law_of).names, fn := [("_law_take", [true, false], false)], gl := [], xs := [], fr := false }
theorem k__law_of : chkSs c__law_of b__law_of (defBody s__law_of) = true := by decide +kernel
theorem n__law_of : FnScope c__law_of.N ["pot", "some"] (defScope s__law_of) := ⟨rfl, rfl, rfl, by decide +kernel, rfl, by decide +kernel, by decide +kernel⟩
def r__law_of : Run := runFn (tab [r__law_take]) 0 2 [true, false] b__law_of
/-! _law_cells -/
abbrev s__law_cells : PySem.Stmt := top 30
def b__law_cells : Sms := (.cons (.ret (.pr .rngL1 (.cons (.e (.pr .max2 (.cons (.e (.cst (.int 1))) (.cons (.e (.pr .min2 (.cons (.e (.var 1)) (.cons (.e (.pr .len (.cons (.e (.var 0)) .nil))) .nil)))) .nil)))) .nil))) .nil)
def c__law_cells : CI := { N := ["script", "most"], sc := defScope s__law_cells, st := (defScope s__law_cells).names, fn := [], gl := [], xs := [], fr := false }
theorem k__law_cells : chkSs c__law_cells b__law_cells (defBody s__law_cells) = true := by decide +kernel
theorem n__law_cells : FnScope c__law_cells.N ["script", "most"] (defScope s__law_cells) := ⟨rfl, rfl, rfl, by decide +kernel, rfl, by decide +kernel, by decide +kernel⟩
def r__law_cells : Run := runFn (tab []) 0 2 [false, false] b__law_cells
/-! _law_odd -/
abbrev s__law_odd : PySem.Stmt := top 31
def b__law_odd : Sms := (.cons (.set (.n 1) (.pr .lst (.cons (.e (.cst .none)) (.cons (.e (.cst (.bool true))) (.cons (.e (.cst (.bool false))) (.cons (.e (.cst (.int 0))) (.cons (.e (.cst (.int 1))) (.cons (.e (.pr .neg (.cons (.e (.cst (.int 1))) .nil))) (.cons (.e (.cst (.int 33))) (.cons (.e (.pr (.bin .Pow) (.cons (.e (.cst (.int 10))) (.cons (.e (.cst (.int 20))) .nil)))) (.cons (.e (.cst (.str ""))) (.cons (.e (.cst (.str "m"))) (.cons (.e (.cst (.str "vm"))) (.cons (.e (.cst (.str "stuck"))) (.cons (.e (.pr .tup .nil)) (.cons (.e (.pr .lst .nil)) (.cons (.e (.pr .dct0 .nil)) (.cons (.e (.pr .tup (.cons (.e (.cst (.int 0))) .nil))) (.cons (.e (.pr .tup (.cons (.e (.pr .tup .nil)) .nil))) (.cons (.e (.pr .lst (.cons (.e (.cst (.int 1))) .nil))) (.cons (.e (.pr .tup (.cons (.e (.cst (.int 1))) (.cons (.e (.cst (.int 0))) .nil)))) .nil))))))))))))))))))))) (.cons (.set (.n 1) (.pr (.bin .Add) (.cons (.e (.var 1)) (.cons (.e (.pr .lst (.cons (.e (.pr .tup (.cons (.e (.cst (.int 0))) (.cons (.e (.cst (.int 1))) .nil)))) (.cons (.e (.pr .tup (.cons (.e (.cst .none)) .nil))) (.cons (.e (.pr (.dct1 "a") (.cons (.e (.cst (.int 1))) .nil))) (.cons (.e (.pr .tup (.cons (.e (.pr .tup (.cons (.e (.cst (.int 1))) .nil))) (.cons (.e (.pr .tup (.cons (.e (.cst (.int 2))) .nil))) .nil)))) (.cons (.e (.pr .tup (.cons (.e (.cst (.int 2))) (.cons (.e (.cst (.int 1))) .nil)))) (.cons (.e (.pr .tup (.cons (.e (.cst (.int 1))) (.cons (.e (.cst (.int 1))) (.cons (.e (.cst (.int 1))) .nil))))) (.cons (.e (.pr .tup (.cons (.e (.pr .tup (.cons (.e (.cst (.bool true))) .nil))) .nil))) (.cons (.e (.pr .tup (.cons (.e (.cst (.str "layers"))) (.cons (.e (.pr .tup .nil)) .nil)))) (.cons (.e (.pr .tup (.cons (.e (.cst (.int 2))) (.cons (.e (.cst (.int 1))) (.cons (.e (.cst (.int 0))) .nil))))) .nil))))))))))) .nil)))) (.cons (.ret (.call 0 (.cons (.o 0) (.cons (.e (.var 1)) .nil)))) .nil)))
def c__law_odd : CI := { N := ["pot", "some"], sc := defScope s__law_odd, st := (defScope s__law_odd).names, fn := [("_law_of", [true, false], false)], gl := [], xs := [], fr := false }
theorem k__law_odd : chkSs c__law_odd b__law_odd (defBody s__law_odd) = true := by decide +kernel
theorem n__law_odd : FnScope c__law_odd.N ["pot"] (defScope s__law_odd) := ⟨rfl, rfl, rfl, by decide +kernel, rfl, by decide +kernel, by decide +kernel⟩
def r__law_odd : Run := runFn (tab [r__law_of]) 0 2 [true] b__law_odd
/-! _law_all_made -/
abbrev s__law_all_made : PySem.Stmt := top 32
def b__law_all_made : Sms := (.cons (.set (.n 1) (.pr .lst (.cons (.e (.pr (.mk "BadInt") (.cons (.e (.var 0)) .nil))) (.cons (.e (.pr (.mk "BadStrip") (.cons (.e (.var 0)) .nil))) (.cons (.e (.pr (.mk "BadWord") (.cons (.e (.var 0)) .nil))) (.cons (.e (.pr (.mk "BadRing") (.cons (.e (.var 0)) .nil))) (.cons (.e (.pr (.mk "BadLayers") (.cons (.e (.var 0)) .nil))) (.cons (.e (.pr (.mk "BadStamps") (.cons (.e (.var 0)) .nil))) (.cons (.e (.pr (.mk "BadMap") (.cons (.e (.var 0)) .nil))) (.cons (.e (.pr (.mk "BadGrid") (.cons (.e (.var 0)) .nil))) (.cons (.e (.pr (.mk "BadRuler") (.cons (.e (.var 0)) .nil))) (.cons (.e (.pr (.mk "BadArcs") (.cons (.e (.var 0)) .nil))) (.cons (.e (.pr (.mk "BadMarks") (.cons (.e (.var 0)) .nil))) (.cons (.e (.pr (.mk "BadStep") (.cons (.e (.var 0)) .nil))) (.cons (.e (.pr (.mk "Unlike") (.cons (.e (.var 0)) .nil))) (.cons (.e (.pr (.mk "TooMany") (.cons (.e (.var 0)) .nil))) (.cons (.e (.pr (.mk "Full") (.cons (.e (.var 0)) .nil))) (.cons (.e (.pr (.mk "NothingToUndo") (.cons (.e (.var 0)) .nil))) (.cons (.e (.pr (.mk "NothingToRedo") (.cons (.e (.var 0)) .nil))) (.cons (.e (.pr (.mk "BadJournal") (.cons (.e (.var 0)) .nil))) (.cons (.e (.pr (.mk "BadLine") (.cons (.e (.var 0)) .nil))) (.cons (.e (.pr (.mk "BadTurns") (.cons (.e (.var 0)) .nil))) (.cons (.e (.pr (.mk "BadFolds") (.cons (.e (.var 0)) .nil))) (.cons (.e (.pr (.mk "BadGap") (.cons (.e (.var 0)) .nil))) (.cons (.e (.pr (.mk "BadNet") (.cons (.e (.var 0)) .nil))) (.cons (.e (.pr (.mk "BadBox") (.cons (.e (.var 0)) .nil))) .nil)))))))))))))))))))))))))) (.cons (.ret (.var 1)) .nil))
def c__law_all_made : CI := { N := ["value", "found"], sc := defScope s__law_all_made, st := (defScope s__law_all_made).names, fn := [], gl := [], xs := ["BadInt", "BadStrip", "BadWord", "BadRing", "BadLayers", "BadStamps", "BadMap", "BadGrid", "BadRuler", "BadArcs", "BadMarks", "BadStep", "Unlike", "TooMany", "Full", "NothingToUndo", "NothingToRedo", "BadJournal", "BadLine", "BadTurns", "BadFolds", "BadGap", "BadNet", "BadBox"], fr := false }
theorem k__law_all_made : chkSs c__law_all_made b__law_all_made (defBody s__law_all_made) = true := by decide +kernel
theorem n__law_all_made : FnScope c__law_all_made.N ["value"] (defScope s__law_all_made) := ⟨rfl, rfl, rfl, by decide +kernel, rfl, by decide +kernel, by decide +kernel⟩
def r__law_all_made : Run := runFn (tab []) 0 2 [false] b__law_all_made
/-! _law_lots -/
abbrev s__law_lots : PySem.Stmt := top 33
def b__law_lots : Sms := (.cons (.own 1 (.pr .lst .nil)) (.cons (.app 1 (.comp (.var 2) (.n 2) (.seq (.e (.var 0))) [(.pr (.isc "BadInt") (.cons (.e (.var 2)) .nil))] [2])) (.cons (.app 1 (.comp (.var 2) (.n 2) (.seq (.e (.var 0))) [(.pr (.isc "BadStrip") (.cons (.e (.var 2)) .nil))] [2])) (.cons (.app 1 (.comp (.var 2) (.n 2) (.seq (.e (.var 0))) [(.pr (.isc "BadWord") (.cons (.e (.var 2)) .nil))] [2])) (.cons (.app 1 (.comp (.var 2) (.n 2) (.seq (.e (.var 0))) [(.pr (.isc "BadRing") (.cons (.e (.var 2)) .nil))] [2])) (.cons (.app 1 (.comp (.var 2) (.n 2) (.seq (.e (.var 0))) [(.pr (.isc "BadLayers") (.cons (.e (.var 2)) .nil))] [2])) (.cons (.app 1 (.comp (.var 2) (.n 2) (.seq (.e (.var 0))) [(.pr (.isc "BadStamps") (.cons (.e (.var 2)) .nil))] [2])) (.cons (.app 1 (.comp (.var 2) (.n 2) (.seq (.e (.var 0))) [(.pr (.isc "BadMap") (.cons (.e (.var 2)) .nil))] [2])) (.cons (.app 1 (.comp (.var 2) (.n 2) (.seq (.e (.var 0))) [(.pr (.isc "BadGrid") (.cons (.e (.var 2)) .nil))] [2])) (.cons (.app 1 (.comp (.var 2) (.n 2) (.seq (.e (.var 0))) [(.pr (.isc "BadRuler") (.cons (.e (.var 2)) .nil))] [2])) (.cons (.app 1 (.comp (.var 2) (.n 2) (.seq (.e (.var 0))) [(.pr (.isc "BadArcs") (.cons (.e (.var 2)) .nil))] [2])) (.cons (.app 1 (.comp (.var 2) (.n 2) (.seq (.e (.var 0))) [(.pr (.isc "BadMarks") (.cons (.e (.var 2)) .nil))] [2])) (.cons (.app 1 (.comp (.var 2) (.n 2) (.seq (.e (.var 0))) [(.pr (.isc "BadStep") (.cons (.e (.var 2)) .nil))] [2])) (.cons (.app 1 (.comp (.var 2) (.n 2) (.seq (.e (.var 0))) [(.pr (.isc "Unlike") (.cons (.e (.var 2)) .nil))] [2])) (.cons (.app 1 (.comp (.var 2) (.n 2) (.seq (.e (.var 0))) [(.pr (.isc "TooMany") (.cons (.e (.var 2)) .nil))] [2])) (.cons (.app 1 (.comp (.var 2) (.n 2) (.seq (.e (.var 0))) [(.pr (.isc "Full") (.cons (.e (.var 2)) .nil))] [2])) (.cons (.app 1 (.comp (.var 2) (.n 2) (.seq (.e (.var 0))) [(.pr (.isc "NothingToUndo") (.cons (.e (.var 2)) .nil))] [2])) (.cons (.app 1 (.comp (.var 2) (.n 2) (.seq (.e (.var 0))) [(.pr (.isc "NothingToRedo") (.cons (.e (.var 2)) .nil))] [2])) (.cons (.app 1 (.comp (.var 2) (.n 2) (.seq (.e (.var 0))) [(.pr (.isc "BadJournal") (.cons (.e (.var 2)) .nil))] [2])) (.cons (.app 1 (.comp (.var 2) (.n 2) (.seq (.e (.var 0))) [(.pr (.isc "BadLine") (.cons (.e (.var 2)) .nil))] [2])) (.cons (.app 1 (.comp (.var 2) (.n 2) (.seq (.e (.var 0))) [(.pr (.isc "BadTurns") (.cons (.e (.var 2)) .nil))] [2])) (.cons (.app 1 (.comp (.var 2) (.n 2) (.seq (.e (.var 0))) [(.pr (.isc "BadFolds") (.cons (.e (.var 2)) .nil))] [2])) (.cons (.app 1 (.comp (.var 2) (.n 2) (.seq (.e (.var 0))) [(.pr (.isc "BadGap") (.cons (.e (.var 2)) .nil))] [2])) (.cons (.app 1 (.comp (.var 2) (.n 2) (.seq (.e (.var 0))) [(.pr (.isc "BadNet") (.cons (.e (.var 2)) .nil))] [2])) (.cons (.app 1 (.comp (.var 2) (.n 2) (.seq (.e (.var 0))) [(.pr (.isc "BadBox") (.cons (.e (.var 2)) .nil))] [2])) (.cons (.ret (.var 1)) .nil))))))))))))))))))))))))))
def c__law_lots : CI := { N := ["told", "found", "one"], sc := defScope s__law_lots, st := (defScope s__law_lots).names, fn := [], gl := [], xs := ["BadBox", "BadNet", "BadGap", "BadFolds", "BadTurns", "BadLine", "BadJournal", "NothingToRedo", "NothingToUndo", "Full", "TooMany", "Unlike", "BadStep", "BadMarks", "BadArcs", "BadRuler", "BadGrid", "BadMap", "BadStamps", "BadLayers", "BadRing", "BadWord", "BadStrip", "BadInt"], fr := false }
theorem k__law_lots : chkSs c__law_lots b__law_lots (defBody s__law_lots) = true := by decide +kernel
theorem n__law_lots : FnScope c__law_lots.N ["told"] (defScope s__law_lots) := ⟨rfl, rfl, rfl, by decide +kernel, rfl, by decide +kernel, by decide +kernel⟩
def r__law_lots : Run := runFn (tab []) 0 3 [false] b__law_lots
/-! _law_right -/
abbrev s__law_right : PySem.Stmt := top 34
def b__law_right : Sms := (.cons (.set (.n 1) (.call 2 (.cons (.o 0) .nil))) (.cons (.set (.n 2) (.call 1 (.cons (.e (.var 1)) .nil))) (.cons (.ite (.not (.pr .all (.cons (.e (.comp (.and (.pr (.isc "CreaseError") (.cons (.e (.var 5)) .nil)) (.pr (.isv "ValueError") (.cons (.e (.var 5)) .nil))) (.n 5) (.seq (.e (.var 2))) [] [5])) .nil))) (.cons (.ret (.cst (.bool false))) .nil) .nil) (.cons (.ite (.not (.pr .all (.cons (.e (.comp (.pr (.cmp .Eq) (.cons (.e (.pr .repr (.cons (.e (.pr .attr (.cons (.e (.var 5)) .nil))) .nil))) (.cons (.e (.pr .repr (.cons (.e (.var 1)) .nil))) .nil))) (.n 5) (.seq (.e (.var 2))) [] [5])) .nil))) (.cons (.ret (.cst (.bool false))) .nil) .nil) (.cons (.set (.n 3) (.call 0 (.cons (.e (.var 2)) .nil))) (.cons (.ite (.or (.not (.pr .all (.cons (.e (.comp (.pr (.cmp .Eq) (.cons (.e (.pr .len (.cons (.e (.var 6)) .nil))) (.cons (.e (.cst (.int 1))) .nil))) (.n 6) (.seq (.e (.var 3))) [] [6])) .nil))) (.pr (.cmp .NotEq) (.cons (.e (.comp (.pr .repr (.cons (.e (.pr .ix (.cons (.e (.var 6)) (.cons (.e (.cst (.int 0))) .nil)))) .nil)) (.n 6) (.seq (.e (.var 3))) [] [6])) (.cons (.e (.comp (.pr .repr (.cons (.e (.var 5)) .nil)) (.n 5) (.seq (.e (.var 2))) [] [5])) .nil)))) (.cons (.ret (.cst (.bool false))) .nil) .nil) (.cons (.set (.n 4) (.pr (.mk "CreaseError") (.cons (.e (.var 1)) .nil))) (.cons (.ret (.and (.pr (.isv "ValueError") (.cons (.e (.var 4)) .nil)) (.and (.pr (.cmp .Eq) (.cons (.e (.pr .repr (.cons (.e (.pr .attr (.cons (.e (.var 4)) .nil))) .nil))) (.cons (.e (.pr .repr (.cons (.e (.var 1)) .nil))) .nil))) (.pr (.cmp .Eq) (.cons (.e (.call 0 (.cons (.e (.pr .lst (.cons (.e (.var 4)) .nil))) .nil))) (.cons (.e (.pr (.bin .Mult) (.cons (.e (.pr .lst (.cons (.e (.pr .lst .nil)) .nil))) (.cons (.e (.pr .len (.cons (.e (.var 2)) .nil))) .nil)))) .nil)))))) .nil))))))))
def c__law_right : CI := { N := ["pot", "value", "told", "lots", "bare", "one", "lot"], sc := defScope s__law_right, st := (defScope s__law_right).names, fn := [("_law_lots", [false], false), ("_law_all_made", [false], false), ("_law_odd", [true], false)], gl := [], xs := ["CreaseError"], fr := false }
theorem k__law_right : chkSs c__law_right b__law_right (defBody s__law_right) = true := by decide +kernel
theorem n__law_right : FnScope c__law_right.N ["pot"] (defScope s__law_right) := ⟨rfl, rfl, rfl, by decide +kernel, rfl, by decide +kernel, by decide +kernel⟩
def r__law_right : Run := runFn (tab [r__law_lots, r__law_all_made, r__law_odd]) 0 7 [true] b__law_right
/-! law -/
abbrev s_law : PySem.Stmt := top 35
def b_law : Sms := (.cons (.ret (.pr .all (.cons (.e (.comp (.callT 0 (.callF 1 (.cons (.e (.var 0)) (.cons (.e (.var 1)) .nil)))) (.n 1) (.seq (.e (.call 2 (.cons (.e (.var 0)) (.cons (.e (.cst (.int 3))) .nil))))) [] [1])) .nil))) .nil)
def c_law : CI := { N := ["script", "place"], sc := defScope s_law, st := (defScope s_law).names, fn := [("_law_right", [true], false), ("_law_pot", [false, false], true), ("_law_cells", [false, false], false)], gl := [], xs := [], fr := false }
theorem k_law : chkSs c_law b_law (defBody s_law) = true := by decide +kernel
theorem n_law : FnScope c_law.N ["script"] (defScope s_law) := ⟨rfl, rfl, rfl, by decide +kernel, rfl, by decide +kernel, by decide +kernel⟩
def r_law : Run := runFn (tab [r__law_right, r__law_pot, r__law_cells]) 0 2 [false] b_law
end CF

set_option Elab.async false
set_option linter.all false
set_option maxRecDepth 100000
namespace CF
open PySem L2
theorem mulOk_of {i j : Int} (a b : Nat) (ha : i.natAbs < 2 ^ a) (hb : j.natAbs < 2 ^ b) (h0 : 0 < a) (h1 : 0 < b) (h : a + b ≤ 1000000) : mulOk i j = true := by
  have := wide_mul ha hb h0 h1 h
  exact decide_eq_true this
theorem take_own {own p1 p2 n : Int} (h : 0 < own) (hn : 0 < n) (hl : n.natAbs.log2 < 9000) : r__law_take [.lst [.int own, .int p1, .int p2], .int n] = some (.int (own % n), [[.int (own / n), .int p1, .int p2]]) := by
  simp [r__law_take, runFn, b__law_take, initE, evSs, evS, evE, evO, evOs, finOs, finO, ownL, rdVar, cstD, prD, prS, pr1, pr2, binD, cmpD, orD, ixD, L2.atI, L2.ixN, intD, setTg, free, outsE, h, hn, hl]
end CF

set_option Elab.async false
set_option linter.all false
set_option maxRecDepth 100000
namespace CF
open PySem L2
theorem mulOk_le {i j : Int} (x y : Nat) (hi : i.natAbs ≤ x) (hj : j.natAbs ≤ y) (hx : x.log2 < 400000) (hy : y.log2 < 400000) : mulOk i j = true := by
  have l : ∀ {u v : Nat}, u ≤ v → u.log2 ≤ v.log2 := fun {u v} h => by
    by_cases hu : u = 0
    · subst hu
      rw [Nat.log2_zero]
      exact Nat.zero_le _
    · have hv : v ≠ 0 := by omega
      exact (Nat.le_log2 hv).mpr (Nat.le_trans ((Nat.le_log2 hu).mp (Nat.le_refl _)) h)
  have h1 := l hi
  have h2 := l hj
  exact decide_eq_true (by omega)
theorem take_cnt {own p1 p2 n : Int} (h : ¬ 0 < own) (hn : 0 < n) (h1 : 0 ≤ p1) (h1' : p1 < 2305843009213693951) (h2 : 0 ≤ p2) (h2' : p2 < 1000000000) : ∃ d, r__law_take [.lst [.int own, .int p1, .int p2], .int n] = some (.int d, [[.int own, .int p1, .int (p2 + 1)]]) ∧ 0 ≤ d ∧ d < n := by
  have m1 : mulOk 95257 (p2 + 1) = true := mulOk_le 95257 1000000001 (by omega) (by omega) (by decide +kernel) (by decide +kernel)
  have q0 : 0 ≤ 95257 * (p2 + 1) := by omega
  have q1 : 95257 * (p2 + 1) ≤ 95257 * 1000000000 := by omega
  have m2 : mulOk (95257 * (p2 + 1)) (p2 + 1) = true := mulOk_le (95257 * 1000000000) 1000000001 (by omega) (by omega) (by decide +kernel) (by decide +kernel)
  have m3 : mulOk 419 (p2 + 1) = true := mulOk_le 419 1000000001 (by omega) (by omega) (by decide +kernel) (by decide +kernel)
  have r0 : 0 ≤ 95257 * (p2 + 1) * (p2 + 1) := Int.mul_nonneg q0 (by omega)
  have r1 : 95257 * (p2 + 1) * (p2 + 1) ≤ 95257 * 1000000000 * 1000000000 := Int.mul_le_mul q1 (by omega) (by omega) (by decide)
  have pw : ((p1 + 95257 * (p2 + 1) * (p2 + 1) + 3163).natAbs.log2 + 1) * 3 ≤ 134217728 := by
    have hb : (p1 + 95257 * (p2 + 1) * (p2 + 1) + 3163).natAbs < 2 ^ 100 := by
      have : (95257 * 1000000000 * 1000000000 : Int) = 95257000000000000000000 := by decide
      rw [this] at r1
      omega
    by_cases hz : (p1 + 95257 * (p2 + 1) * (p2 + 1) + 3163).natAbs = 0
    · rw [hz, Nat.log2_zero]
      decide
    · have := (Nat.log2_lt hz).mpr hb
      omega
  have hm : ∀ b : Int, 0 ≤ b → b < 2147483648 → mulOk b (b % 13441 + 419 * (p2 + 1)) = true := fun b b0 b1 => mulOk_le 2147483648 1000000000000 (by omega) (by omega) (by decide +kernel) (by decide +kernel)
  have l229 : Nat.log2 229 < 9000 := by decide +kernel
  have hr : (p2 + 1) % 5 = 0 ∨ (p2 + 1) % 5 = 1 ∨ (p2 + 1) % 5 = 2 ∨ (p2 + 1) % 5 = 3 ∨ (p2 + 1) % 5 = 4 := by omega
  have key : ∀ x : Int, 0 ≤ x % n ∧ x % n < n := fun x => ⟨Int.emod_nonneg _ (by omega), Int.emod_lt_of_pos _ hn⟩
  have kb : ∀ (x p : Int), 0 < p → p < 2147483648 → mulOk (x % p) (x % p % 13441 + 419 * (p2 + 1)) = true := fun x p p0 p1 => hm _ (Int.emod_nonneg _ (by omega)) (Int.lt_trans (Int.emod_lt_of_pos _ p0) p1)
  rcases hr with hr | hr | hr | hr | hr
  all_goals
    generalize hy : r__law_take [.lst [.int own, .int p1, .int p2], .int n] = y
    simp [r__law_take, runFn, b__law_take, initE, evSs, evS, evE, evO, evOs, finOs, finO, ownL, rdVar, cstD, prD, prS, pr1, pr2, binD, cmpD, orD, ixD, L2.atI, L2.ixN, intD, setTg, free, outsE, h, hn, hr, m1, m2, m3, pw, kb, short, l229] at hy
    subst hy
    exact ⟨_, rfl, key _⟩
end CF

set_option Elab.async false
set_option linter.all false
set_option maxRecDepth 100000
namespace CF
open PySem L2
def odds : List Dv := [.non, .bl true, .bl false, .int 0, .int 1, .int (-1), .int 33, .int 100000000000000000000, .str "", .str "m", .str "vm", .str "stuck", .tup [], .lst [], .dct [] [], .tup [.int 0], .tup [.tup []], .lst [.int 1], .tup [.int 1, .int 0], .tup [.int 0, .int 1], .tup [.non], .dct [.str "a"] [.int 1], .tup [.tup [.int 1], .tup [.int 2]], .tup [.int 2, .int 1], .tup [.int 1, .int 1, .int 1], .tup [.tup [.bl true]], .tup [.str "layers", .tup []], .tup [.int 2, .int 1, .int 0]]
theorem of_eq {pot p2 : List Dv} {xs : List Dv} {d : Int} {x : Dv} (h : r__law_take [.lst pot, .int xs.length] = some (.int d, [p2])) (hx : L2.atI xs d = some x) : r__law_of [.lst pot, .lst xs] = some (x, [p2]) := by
  simp [r__law_of, runFn, b__law_of, initE, evSs, evS, evE, evO, evOs, finOs, finO, ownL, rdVar, cstD, prD, prS, pr1, pr2, lenD, ixD, intD, setTg, free, outsE, tab, backOs, h, hx]
theorem odd_eq {pot p2 : List Dv} {x : Dv} (h : r__law_of [.lst pot, .lst odds] = some (x, [p2])) : r__law_odd [.lst pot] = some (x, [p2]) := by
  unfold odds at h
  have l10 : (Nat.log2 10 + 1) * 20 ≤ 134217728 := by decide +kernel
  simp [r__law_odd, runFn, b__law_odd, initE, evSs, evS, evE, evO, evOs, finOs, finO, ownL, rdVar, cstD, prD, prS, pr1, pr2, negD, binD, lenD, ixD, intD, setTg, free, outsE, tab, backOs, short, h, l10]
end CF

set_option Elab.async false
set_option linter.all false
set_option maxRecDepth 100000
namespace CF
open PySem L2
/-- the def behind the drawn value -/
def rest : Sms := match b__law_right with
  | .cons _ ss => ss
  | .nil => .nil
def isT : Option (Fl × Env) → Bool
  | some (.ret (.bl true), .lst true _ :: _) => true
  | _ => false
def potOf : Option (Fl × Env) → Option (List Dv)
  | some (.ret (.bl true), .lst true p :: _) => some p
  | _ => none
def restAt (pot : List Dv) (v : Dv) : Option (List Dv) := potOf (evSs (tab [r__law_lots, r__law_all_made, r__law_odd]) 0 rest [.lst true pot, .dat v, .no, .no, .no, .no, .no])
theorem rest_0 (pot : List Dv) : restAt pot (.non) = some pot := by kernel_rfl
theorem rest_1 (pot : List Dv) : restAt pot (.bl true) = some pot := by kernel_rfl
theorem rest_2 (pot : List Dv) : restAt pot (.bl false) = some pot := by kernel_rfl
theorem rest_3 (pot : List Dv) : restAt pot (.int 0) = some pot := by kernel_rfl
theorem rest_4 (pot : List Dv) : restAt pot (.int 1) = some pot := by kernel_rfl
theorem rest_5 (pot : List Dv) : restAt pot (.int (-1)) = some pot := by kernel_rfl
theorem rest_6 (pot : List Dv) : restAt pot (.int 33) = some pot := by kernel_rfl
theorem rest_7 (pot : List Dv) : restAt pot (.int 100000000000000000000) = some pot := by kernel_rfl
theorem rest_8 (pot : List Dv) : restAt pot (.str "") = some pot := by kernel_rfl
theorem rest_9 (pot : List Dv) : restAt pot (.str "m") = some pot := by kernel_rfl
theorem rest_10 (pot : List Dv) : restAt pot (.str "vm") = some pot := by kernel_rfl
theorem rest_11 (pot : List Dv) : restAt pot (.str "stuck") = some pot := by kernel_rfl
theorem rest_12 (pot : List Dv) : restAt pot (.tup []) = some pot := by kernel_rfl
theorem rest_13 (pot : List Dv) : restAt pot (.lst []) = some pot := by kernel_rfl
theorem rest_14 (pot : List Dv) : restAt pot (.dct [] []) = some pot := by kernel_rfl
theorem rest_15 (pot : List Dv) : restAt pot (.tup [.int 0]) = some pot := by kernel_rfl
theorem rest_16 (pot : List Dv) : restAt pot (.tup [.tup []]) = some pot := by kernel_rfl
theorem rest_17 (pot : List Dv) : restAt pot (.lst [.int 1]) = some pot := by kernel_rfl
theorem rest_18 (pot : List Dv) : restAt pot (.tup [.int 1, .int 0]) = some pot := by kernel_rfl
theorem rest_19 (pot : List Dv) : restAt pot (.tup [.int 0, .int 1]) = some pot := by kernel_rfl
theorem rest_20 (pot : List Dv) : restAt pot (.tup [.non]) = some pot := by kernel_rfl
theorem rest_21 (pot : List Dv) : restAt pot (.dct [.str "a"] [.int 1]) = some pot := by kernel_rfl
theorem rest_22 (pot : List Dv) : restAt pot (.tup [.tup [.int 1], .tup [.int 2]]) = some pot := by kernel_rfl
theorem rest_23 (pot : List Dv) : restAt pot (.tup [.int 2, .int 1]) = some pot := by kernel_rfl
theorem rest_24 (pot : List Dv) : restAt pot (.tup [.int 1, .int 1, .int 1]) = some pot := by kernel_rfl
theorem rest_25 (pot : List Dv) : restAt pot (.tup [.tup [.bl true]]) = some pot := by kernel_rfl
theorem rest_26 (pot : List Dv) : restAt pot (.tup [.str "layers", .tup []]) = some pot := by kernel_rfl
theorem rest_27 (pot : List Dv) : restAt pot (.tup [.int 2, .int 1, .int 0]) = some pot := by kernel_rfl
theorem rest_at {pot : List Dv} : ∀ {i : Nat} {v : Dv}, odds[i]? = some v → restAt pot v = some pot
  | 0, _, h => by cases h; exact rest_0 pot
  | 1, _, h => by cases h; exact rest_1 pot
  | 2, _, h => by cases h; exact rest_2 pot
  | 3, _, h => by cases h; exact rest_3 pot
  | 4, _, h => by cases h; exact rest_4 pot
  | 5, _, h => by cases h; exact rest_5 pot
  | 6, _, h => by cases h; exact rest_6 pot
  | 7, _, h => by cases h; exact rest_7 pot
  | 8, _, h => by cases h; exact rest_8 pot
  | 9, _, h => by cases h; exact rest_9 pot
  | 10, _, h => by cases h; exact rest_10 pot
  | 11, _, h => by cases h; exact rest_11 pot
  | 12, _, h => by cases h; exact rest_12 pot
  | 13, _, h => by cases h; exact rest_13 pot
  | 14, _, h => by cases h; exact rest_14 pot
  | 15, _, h => by cases h; exact rest_15 pot
  | 16, _, h => by cases h; exact rest_16 pot
  | 17, _, h => by cases h; exact rest_17 pot
  | 18, _, h => by cases h; exact rest_18 pot
  | 19, _, h => by cases h; exact rest_19 pot
  | 20, _, h => by cases h; exact rest_20 pot
  | 21, _, h => by cases h; exact rest_21 pot
  | 22, _, h => by cases h; exact rest_22 pot
  | 23, _, h => by cases h; exact rest_23 pot
  | 24, _, h => by cases h; exact rest_24 pot
  | 25, _, h => by cases h; exact rest_25 pot
  | 26, _, h => by cases h; exact rest_26 pot
  | 27, _, h => by cases h; exact rest_27 pot
  | _ + 28, _, h => by cases h
theorem rest_one {pot : List Dv} {i : Nat} {v : Dv} (h : odds[i]? = some v) : ∃ η, evSs (tab [r__law_lots, r__law_all_made, r__law_odd]) 0 rest [.lst true pot, .dat v, .no, .no, .no, .no, .no] = some (.ret (.bl true), .lst true pot :: η) := by
  have h3 := rest_at (pot := pot) h
  unfold restAt potOf at h3
  split at h3
  · rename_i p η e
    cases h3
    exact ⟨η, e⟩
  · cases h3
theorem right_eq {pot p2 : List Dv} {i : Nat} {v : Dv} (ho : r__law_odd [.lst pot] = some (v, [p2])) (h : odds[i]? = some v) : r__law_right [.lst pot] = some (.bl true, [p2]) := by
  obtain ⟨η, e⟩ := rest_one (pot := p2) h
  have e1 : evSs (tab [r__law_lots, r__law_all_made, r__law_odd]) 0 b__law_right [.lst true pot, .no, .no, .no, .no, .no, .no] = evSs (tab [r__law_lots, r__law_all_made, r__law_odd]) 0 rest [.lst true p2, .dat v, .no, .no, .no, .no, .no] := by
    show (match evS (tab [r__law_lots, r__law_all_made, r__law_odd]) 0 (.set (.n 1) (.call 2 (.cons (.o 0) .nil))) [.lst true pot, .no, .no, .no, .no, .no, .no] with
      | some (.nx, η1) => evSs (tab [r__law_lots, r__law_all_made, r__law_odd]) 0 rest η1
      | r => r) = _
    simp [evS, evE, evO, evOs, finOs, finO, ownL, tab, ho, backOs, setTg, free]
  simp [r__law_right, runFn, initE, e1, e, outsE]
end CF

set_option Elab.async false
set_option linter.all false
set_option maxRecDepth 100000
namespace CF
open PySem L2
def potRest : Sms := match b__law_pot with
  | .cons _ ss => ss
  | .nil => .nil
def potCell : Ex := match b__law_pot with
  | .cons (.set _ e) _ => e
  | _ => .cst .none
theorem pot_rest {s : Dv} {place cell : Int} (h0 : 0 ≤ place) (h1 : place < 100) : ∃ own p1 η, evSs (tab []) 0 potRest [.dat s, .dat (.int place), .dat (.int cell), .no, .no] = some (.ret (.lst [.int own, .int p1, .int 0]), η) ∧ outsE [false, false] η = some [] ∧ 0 ≤ p1 ∧ p1 < 2305843009213693951 := by
  have l1 : (Nat.log2 10 + 1) * 60 ≤ 134217728 := by decide +kernel
  have l2 : (Nat.log2 (10 ^ 60) + 1) * 5 ≤ 134217728 := by decide +kernel
  have l2' : (Nat.log2 1000000000000000000000000000000000000000000000000000000000000 + 1) * 5 ≤ 134217728 := by decide +kernel
  have l3 : (Nat.log2 10 + 1) * 18 ≤ 134217728 := by decide +kernel
  have m0 : ∀ x : Int, mulOk (x % 1000000000000000000000000000000000000000000000000000000000000000000000000000000000000000000000000000000000000000000000000000000000000000000000000000000000000000000000000000000000000000000000000000000000000000000000000000000000000000000000000000000000000000000000000000000000000000000000000000000000000) 0 = true := fun x => mulOk_le 1000000000000000000000000000000000000000000000000000000000000000000000000000000000000000000000000000000000000000000000000000000000000000000000000000000000000000000000000000000000000000000000000000000000000000000000000000000000000000000000000000000000000000000000000000000000000000000000000000000000000 1 (by omega) (by decide) (by decide +kernel) (by decide +kernel)
  have m1 : ∀ x : Int, mulOk (x % 1000000000000000000000000000000000000000000000000000000000000000000000000000000000000000000000000000000000000000000000000000000000000000000000000000000000000000000000000000000000000000000000000000000000000000000000000000000000000000000000000000000000000000000000000000000000000000000000000000000000000) 1 = true := fun x => mulOk_le 1000000000000000000000000000000000000000000000000000000000000000000000000000000000000000000000000000000000000000000000000000000000000000000000000000000000000000000000000000000000000000000000000000000000000000000000000000000000000000000000000000000000000000000000000000000000000000000000000000000000000 1 (by omega) (by decide) (by decide +kernel) (by decide +kernel)
  have m2 : ∀ x : Int, mulOk (x % 2305843009213693951) 72161 = true := fun x => mulOk_le 2305843009213693951 72161 (by omega) (by decide) (by decide +kernel) (by decide +kernel)
  have m3 : mulOk 10853 place = true := mulOk_le 10853 100 (by decide) (by omega) (by decide +kernel) (by decide +kernel)
  have m4 : mulOk (10853 * place) place = true := mulOk_le 1085300 100 (by omega) (by omega) (by decide +kernel) (by decide +kernel)
  have e5 : (10 : Int) ^ 60 = 1000000000000000000000000000000000000000000000000000000000000 := by decide +kernel
  have e18 : (10 : Int) ^ 18 = 1000000000000000000 := by decide +kernel
  by_cases hb : (10 : Int) ^ 18 ≤ cell.natAbs
  all_goals
    generalize hy : evSs (tab []) 0 potRest [.dat s, .dat (.int place), .dat (.int cell), .no, .no] = y
    rw [e18] at hb
    simp [potRest, b__law_pot, evSs, evS, evE, evO, evOs, finOs, finO, ownL, rdVar, cstD, prD, prS, pr1, pr2, absD, intD, binD, cmpD, orD, setTg, free, short, l1, l2, l2', l3, m0, m1, m2, m3, m4, hb] at hy
    subst hy
    exact ⟨_, _, _, rfl, rfl, Int.emod_nonneg _ (by decide), Int.lt_trans (Int.emod_lt_of_pos _ (by decide)) (by decide)⟩
end CF

set_option Elab.async false
set_option linter.all false
set_option maxRecDepth 100000
namespace CF
open PySem L2
theorem intsOf_map : ∀ ns : List Int, intsOf (ns.map Dv.int) = some ns
  | [] => rfl
  | n :: ns => by
    show (intsOf (ns.map Dv.int)).map (n :: ·) = _
    rw [intsOf_map ns]
    rfl
theorem atI_in {α : Type} {xs : List α} {i : Int} (h0 : 0 ≤ i) (h1 : i < xs.length) : ∃ x, L2.atI xs i = some x := by
  obtain ⟨k, rfl⟩ := Int.eq_ofNat_of_zero_le h0
  have hk : k < xs.length := by omega
  exact ⟨xs[k], L2.atI_nat (List.getElem?_eq_getElem hk)⟩
theorem pot_cell {ns : List Int} {place : Int} (h0 : 0 ≤ place) (h1 : place < 100) : ∃ cell, evE (tab []) potCell [.dat (.scr ns), .dat (.int place), .no, .no, .no] = some (.int cell, [.dat (.scr ns), .dat (.int place), .no, .no, .no]) := by
  have m5 : mulOk 4639 place = true := mulOk_le 4639 100 (by decide) (by omega) (by decide +kernel) (by decide +kernel)
  by_cases hp : place < ns.length
  · obtain ⟨x, hx⟩ := atI_in h0 hp
    exact ⟨x, by simp [potCell, b__law_pot, evE, evO, evOs, finOs, finO, ownL, rdVar, cstD, prD, prS, pr1, pr2, lenD, ixD, cmpD, orD, hp, hx]⟩
  · exact ⟨_, by simp [potCell, b__law_pot, evE, evO, evOs, finOs, finO, ownL, rdVar, cstD, prD, prS, pr1, pr2, lenD, ixD, cmpD, orD, hp, slD, asInt, sumD, lstOf, intsOf_map, intD, binD, m5]; rfl⟩
theorem pot_eq {ns : List Int} {place : Int} (h0 : 0 ≤ place) (h1 : place < 100) : ∃ own p1, r__law_pot [.scr ns, .int place] = some (.lst [.int own, .int p1, .int 0], []) ∧ 0 ≤ p1 ∧ p1 < 2305843009213693951 := by
  obtain ⟨cell, hc⟩ := pot_cell (ns := ns) h0 h1
  obtain ⟨own, p1, η, hr, ho, b0, b1⟩ := pot_rest (s := .scr ns) (cell := cell) h0 h1
  refine ⟨own, p1, ?_, b0, b1⟩
  have e1 : evSs (tab []) 0 b__law_pot [.dat (.scr ns), .dat (.int place), .no, .no, .no] = evSs (tab []) 0 potRest [.dat (.scr ns), .dat (.int place), .dat (.int cell), .no, .no] := by
    show (match evS (tab []) 0 (.set (.n 2) potCell) [.dat (.scr ns), .dat (.int place), .no, .no, .no] with
      | some (.nx, η1) => evSs (tab []) 0 potRest η1
      | r => r) = _
    simp [evS, hc, setTg, free]
  simp [r__law_pot, runFn, initE, e1, hr, ho]
theorem cells_eq {ns : List Int} (hl : ns.length ≤ 63) : ∃ n : Nat, n ≤ 3 ∧ r__law_cells [.scr ns, .int 3] = some (.lst ((List.range n).map fun (k : Nat) => Dv.int (k : Int)), []) := by
  have key : ∀ m : Int, 1 ≤ m → m ≤ 3 → ∃ n : Nat, n ≤ 3 ∧ rngL 0 m = some (.lst ((List.range n).map fun (k : Nat) => Dv.int (k : Int))) := fun m a b => by
    have : m = 1 ∨ m = 2 ∨ m = 3 := by omega
    rcases this with rfl | rfl | rfl
    · exact ⟨1, by decide, rfl⟩
    · exact ⟨2, by decide, rfl⟩
    · exact ⟨3, by decide, rfl⟩
  obtain ⟨n, h1, h2⟩ := key (max 1 (min 3 (ns.length : Int))) (by omega) (by omega)
  refine ⟨n, h1, ?_⟩
  simp [r__law_cells, runFn, b__law_cells, initE, evSs, evS, evE, evO, evOs, finOs, finO, ownL, rdVar, cstD, prD, prS, pr1, pr2, lenD, maxD, minD, rng1D, h2, outsE]
theorem take_ok {own p1 p2 n : Int} (hn : 0 < n) (hl : n.natAbs.log2 < 9000) (h1 : 0 ≤ p1) (h1' : p1 < 2305843009213693951) (h2 : 0 ≤ p2) (h2' : p2 < 1000000000) : ∃ d own' p2', r__law_take [.lst [.int own, .int p1, .int p2], .int n] = some (.int d, [[.int own', .int p1, .int p2']]) ∧ 0 ≤ d ∧ d < n ∧ (p2' = p2 ∨ p2' = p2 + 1) := by
  by_cases h : 0 < own
  · exact ⟨_, _, _, take_own h hn hl, Int.emod_nonneg _ (by omega), Int.emod_lt_of_pos _ hn, .inl rfl⟩
  · obtain ⟨d, e, a, b⟩ := take_cnt h hn h1 h1' h2 h2'
    exact ⟨d, _, _, e, a, b, .inr rfl⟩
theorem right_ok {own p1 : Int} (h1 : 0 ≤ p1) (h1' : p1 < 2305843009213693951) : ∃ p2, r__law_right [.lst [.int own, .int p1, .int 0]] = some (.bl true, [p2]) := by
  have hlen : odds.length = 28 := by decide +kernel
  obtain ⟨d, own', p2', e, a, b, _⟩ := take_ok (own := own) (p1 := p1) (p2 := 0) (n := 28) (by decide) (by decide +kernel) h1 h1' (by decide) (by decide)
  obtain ⟨k, rfl⟩ := Int.eq_ofNat_of_zero_le a
  have hk : k < odds.length := by omega
  have hx : odds[k]? = some odds[k] := List.getElem?_eq_getElem hk
  refine ⟨_, right_eq (odd_eq (of_eq (d := (k : Int)) (x := odds[k]) (by rw [hlen]; exact e) (L2.atI_nat hx))) hx⟩
theorem law_true {ns : List Int} (hl : ns.length ≤ 63) : r_law [.scr ns] = some (.bl true, []) := by
  obtain ⟨n, hn, hc⟩ := cells_eq hl
  have one : ∀ k : Nat, k < 3 → ∃ p2, evE (tab [r__law_right, r__law_pot, r__law_cells]) (.callT 0 (.callF 1 (.cons (.e (.var 0)) (.cons (.e (.var 1)) .nil)))) [.dat (.scr ns), .dat (.int k)] = some (.bl true, [.dat (.scr ns), .dat (.int k)]) ∧ p2 = (0 : Int) := fun k hk => by
    obtain ⟨own, p1, e, b0, b1⟩ := pot_eq (ns := ns) (place := k) (by omega) (by omega)
    obtain ⟨p2, r⟩ := right_ok (own := own) b0 b1
    exact ⟨0, by simp [evE, evO, evOs, finOs, finO, rdVar, tab, e, backOs, r], rfl⟩
  have loop : ∀ (ks : List Nat) (acc : List Dv), (∀ k ∈ ks, k < 3) → acc.length + ks.length ≤ 1000 → compL (testL []) (evE (tab [r__law_right, r__law_pot, r__law_cells]) (.callT 0 (.callF 1 (.cons (.e (.var 0)) (.cons (.e (.var 1)) .nil))))) (.n 1) [1] (ks.map fun (k : Nat) => Dv.int (k : Int)) acc [.dat (.scr ns), .no] = some (acc ++ ks.map fun _ => Dv.bl true, [.dat (.scr ns), .no]) := by
    intro ks
    induction ks with
    | nil =>
      intro acc _ _
      simp [compL]
    | cons k ks ih =>
      intro acc h hl
      obtain ⟨_, e, _⟩ := one k (h k List.mem_cons_self)
      rw [List.length_cons] at hl
      have := ih (acc ++ [.bl true]) (fun j hj => h j (List.mem_cons_of_mem _ hj)) (by rw [List.length_append, List.length_singleton]; omega)
      have hlt : acc.length < 16777216 := by omega
      rw [List.append_assoc] at this
      have ht : testL [] = fun η : CF.Env => some (true, η) := rfl
      rw [ht] at this ⊢
      simp only [List.map_cons, compL, setTg, free]
      simp [e, noOwn, wipeE, hlt]
      exact this
  have lp := loop (List.range n) [] (fun k hk => by rw [List.mem_range] at hk; omega) (by rw [List.length_range]; simp; omega)
  have al : allD (.lst ((List.range n).map fun _ => Dv.bl true)) = some (.bl true) := by
    have : n = 0 ∨ n = 1 ∨ n = 2 ∨ n = 3 := by omega
    rcases this with rfl | rfl | rfl | rfl <;> rfl
  have ec : evE (tab [r__law_right, r__law_pot, r__law_cells]) (.comp (.callT 0 (.callF 1 (.cons (.e (.var 0)) (.cons (.e (.var 1)) .nil)))) (.n 1) (.seq (.e (.call 2 (.cons (.e (.var 0)) (.cons (.e (.cst (.int 3))) .nil))))) [] [1]) [.dat (.scr ns), .no] = some (.lst ((List.range n).map fun _ => Dv.bl true), [.dat (.scr ns), .no]) := by
    have ei : evI (tab [r__law_right, r__law_pot, r__law_cells]) (.seq (.e (.call 2 (.cons (.e (.var 0)) (.cons (.e (.cst (.int 3))) .nil))))) [.dat (.scr ns), .no] = some ((List.range n).map fun (k : Nat) => Dv.int (k : Int), [.dat (.scr ns), .no]) := by
      simp [evI, evE, evO, evOs, finOs, finO, rdVar, cstD, tab, hc, backOs, seqOf]
    rw [evE, ei]
    simp only [evTs]
    have l2 : compL (testL []) (evE (tab [r__law_right, r__law_pot, r__law_cells]) (.callT 0 (.callF 1 (.cons (.e (.var 0)) (.cons (.e (.var 1)) .nil))))) (.n 1) [1] ((List.range n).map fun (k : Nat) => Dv.int (k : Int)) [] (wipeE [.dat (.scr ns), .no] [1]) = some ((List.range n).map fun _ => Dv.bl true, [.dat (.scr ns), .no]) := lp
    rw [l2]
    rfl
  have es : evSs (tab [r__law_right, r__law_pot, r__law_cells]) 0 b_law [.dat (.scr ns), .no] = some (.ret (.bl true), [.dat (.scr ns), .no]) := by
    have ea : evE (tab [r__law_right, r__law_pot, r__law_cells]) (.pr .all (.cons (.e (.comp (.callT 0 (.callF 1 (.cons (.e (.var 0)) (.cons (.e (.var 1)) .nil)))) (.n 1) (.seq (.e (.call 2 (.cons (.e (.var 0)) (.cons (.e (.cst (.int 3))) .nil))))) [] [1])) .nil)) [.dat (.scr ns), .no] = some (.bl true, [.dat (.scr ns), .no]) := by
      rw [evE, evOs, evO, ec]
      simp only [evOs, finOs, finO]
      show (allD (.lst ((List.range n).map fun _ => Dv.bl true))).map (·, _) = _
      rw [al]
      rfl
    show (match evS (tab [r__law_right, r__law_pot, r__law_cells]) 0 (.ret _) _ with
      | some (.nx, η1) => evSs (tab [r__law_right, r__law_pot, r__law_cells]) 0 .nil η1
      | r => r) = _
    rw [evS, ea]
    rfl
  show (match initE [false] [.scr ns] with
    | none => none
    | some η => match evSs (tab [r__law_right, r__law_pot, r__law_cells]) 0 b_law (η ++ List.replicate (2 - η.length) SV.no) with
      | some (.ret d, η') => (outsE [false] η').map (d, ·)
      | some (.nx, η') => (outsE [false] η').map (.non, ·)
      | _ => none) = _
  show (match evSs (tab [r__law_right, r__law_pot, r__law_cells]) 0 b_law [.dat (.scr ns), .no] with
      | some (.ret d, η') => (outsE [false] η').map (d, ·)
      | some (.nx, η') => (outsE [false] η').map (.non, ·)
      | _ => none) = _
  rw [es]
  rfl
end CF

set_option Elab.async false
set_option linter.all false
set_option maxRecDepth 100000
namespace CF
open PySem L2
/-! the head -/
def xsAll : List Str := ["CreaseError", "BadInt", "BadStrip", "BadWord", "BadRing", "BadLayers", "BadStamps", "BadMap", "BadGrid", "BadRuler", "BadArcs", "BadMarks", "BadStep", "Unlike", "TooMany", "Full", "NothingToUndo", "NothingToRedo", "BadJournal", "BadLine", "BadTurns", "BadFolds", "BadGap", "BadNet", "BadBox"]
def glAll : List (Str × Const) := []
section
variable {P : Program} {w : World} {K : PySem.W.Frag} {mg : Str → Option Value} {base : Heap} {W : Wd}
theorem all_fn (T : TxtOk P K mg W xsAll glAll) {f__law_pot : Addr} {d__law_pot : FuncData} (D__law_pot : DefIn K mg "_law_pot" s__law_pot ["script", "place"] f__law_pot d__law_pot) {f__law_take : Addr} {d__law_take : FuncData} (D__law_take : DefIn K mg "_law_take" s__law_take ["pot", "upto"] f__law_take d__law_take) {f__law_of : Addr} {d__law_of : FuncData} (D__law_of : DefIn K mg "_law_of" s__law_of ["pot", "some"] f__law_of d__law_of) {f__law_cells : Addr} {d__law_cells : FuncData} (D__law_cells : DefIn K mg "_law_cells" s__law_cells ["script", "most"] f__law_cells d__law_cells) {f__law_odd : Addr} {d__law_odd : FuncData} (D__law_odd : DefIn K mg "_law_odd" s__law_odd ["pot"] f__law_odd d__law_odd) {f__law_all_made : Addr} {d__law_all_made : FuncData} (D__law_all_made : DefIn K mg "_law_all_made" s__law_all_made ["value"] f__law_all_made d__law_all_made) {f__law_lots : Addr} {d__law_lots : FuncData} (D__law_lots : DefIn K mg "_law_lots" s__law_lots ["told"] f__law_lots d__law_lots) {f__law_right : Addr} {d__law_right : FuncData} (D__law_right : DefIn K mg "_law_right" s__law_right ["pot"] f__law_right d__law_right) {f_law : Addr} {d_law : FuncData} (D_law : DefIn K mg "law" s_law ["script"] f_law d_law) : FnG P w K mg base CX0 5 f_law d_law ["script"] (spM false W r_law [false]) := by
  have G__law_pot := cal_mk (P := P) (w := w) (base := base) (k := 0) (br := [false, false]) (fu := 0) (n := 5) (rs := []) T D__law_pot n__law_pot k__law_pot (by decide +kernel) (by decide +kernel) trivial rfl rfl rfl rfl
  have G__law_take := cal_mk (P := P) (w := w) (base := base) (k := 0) (br := [true, false]) (fu := 0) (n := 5) (rs := []) T D__law_take n__law_take k__law_take (by decide +kernel) (by decide +kernel) trivial rfl rfl rfl rfl
  have G__law_of := cal_mk (P := P) (w := w) (base := base) (k := 1) (br := [true, false]) (fu := 0) (n := 2) (rs := [r__law_take]) T D__law_of n__law_of k__law_of (by decide +kernel) (by decide +kernel) ⟨G__law_take.mono (by decide), trivial⟩ rfl rfl rfl rfl
  have G__law_cells := cal_mk (P := P) (w := w) (base := base) (k := 0) (br := [false, false]) (fu := 0) (n := 2) (rs := []) T D__law_cells n__law_cells k__law_cells (by decide +kernel) (by decide +kernel) trivial rfl rfl rfl rfl
  have G__law_odd := cal_mk (P := P) (w := w) (base := base) (k := 2) (br := [true]) (fu := 0) (n := 2) (rs := [r__law_of]) T D__law_odd n__law_odd k__law_odd (by decide +kernel) (by decide +kernel) ⟨G__law_of.mono (by decide), trivial⟩ rfl rfl rfl rfl
  have G__law_all_made := cal_mk (P := P) (w := w) (base := base) (k := 0) (br := [false]) (fu := 0) (n := 2) (rs := []) T D__law_all_made n__law_all_made k__law_all_made (by decide +kernel) (by decide +kernel) trivial rfl rfl rfl rfl
  have G__law_lots := cal_mk (P := P) (w := w) (base := base) (k := 0) (br := [false]) (fu := 0) (n := 3) (rs := []) T D__law_lots n__law_lots k__law_lots (by decide +kernel) (by decide +kernel) trivial rfl rfl rfl rfl
  have G__law_right := cal_mk (P := P) (w := w) (base := base) (k := 3) (br := [true]) (fu := 0) (n := 7) (rs := [r__law_lots, r__law_all_made, r__law_odd]) T D__law_right n__law_right k__law_right (by decide +kernel) (by decide +kernel) ⟨G__law_lots.mono (by decide), G__law_all_made.mono (by decide), G__law_odd.mono (by decide), trivial⟩ rfl rfl rfl rfl
  exact fn_ok (fu := 0) D_law.fn n_law rfl ⟨T.hK, T.x, fun k h => T.xs k ((by decide +kernel : ∀ k ∈ c_law.xs, k ∈ xsAll) k h), T.bi, fun x k h => T.gl _ ((by decide +kernel : ∀ p ∈ c_law.gl, p ∈ glAll) _ (lookup_mem h)), fns_of (rs := [r__law_right, r__law_pot, r__law_cells]) ⟨G__law_right.mono (by decide), G__law_pot.mono (by decide), G__law_cells.mono (by decide), trivial⟩⟩ rfl rfl k_law
end
abbrev sIni : PySem.Stmt := inClass (top 1) 0
abbrev bIni : List PySem.Stmt := xBody ⟨5, 8, 5, 13⟩ ⟨5, 8, 5, 15⟩ ⟨5, 8, 5, 24⟩ ⟨5, 25, 5, 30⟩ ⟨5, 8, 5, 31⟩ ⟨5, 8, 5, 31⟩ ⟨6, 8, 6, 12⟩ ⟨6, 8, 6, 18⟩ ⟨6, 21, 6, 26⟩ ⟨6, 8, 6, 26⟩
theorem all_mk {P : Program} {w : World} {K : PySem.W.Frag} {h : Heap} {mg : Str → Option Value} {fa : Addr} (X : K.In h) (G : h.Ns mainGlobals mg) (hfa : mg "law" = some (.ref fa)) {f0 : Addr} {od0 an0 : Option Addr} {sl0 : Array (Option Value)} {oc0 kV0 dc0 pm0 cd0 ct0 : Value} (a0 : PySem.W.nsIn K mainGlobals "_law_pot" = some (some (.ref f0))) (l0 : K.lookup f0 = some ⟨oc0, od0, .func (PySem.W.fnOf "_law_pot" "_law_pot" (defArgs s__law_pot) (defBody s__law_pot) (defScope s__law_pot) .none kV0 dc0 pm0 an0 cd0 ct0), sl0⟩) (e0 : PySem.W.codeIn K cd0 "_law_pot" = true) (k0 : PySem.W.keepIn K (.ref f0) = true) {f1 : Addr} {od1 an1 : Option Addr} {sl1 : Array (Option Value)} {oc1 kV1 dc1 pm1 cd1 ct1 : Value} (a1 : PySem.W.nsIn K mainGlobals "_law_take" = some (some (.ref f1))) (l1 : K.lookup f1 = some ⟨oc1, od1, .func (PySem.W.fnOf "_law_take" "_law_take" (defArgs s__law_take) (defBody s__law_take) (defScope s__law_take) .none kV1 dc1 pm1 an1 cd1 ct1), sl1⟩) (e1 : PySem.W.codeIn K cd1 "_law_take" = true) (k1 : PySem.W.keepIn K (.ref f1) = true) {f2 : Addr} {od2 an2 : Option Addr} {sl2 : Array (Option Value)} {oc2 kV2 dc2 pm2 cd2 ct2 : Value} (a2 : PySem.W.nsIn K mainGlobals "_law_of" = some (some (.ref f2))) (l2 : K.lookup f2 = some ⟨oc2, od2, .func (PySem.W.fnOf "_law_of" "_law_of" (defArgs s__law_of) (defBody s__law_of) (defScope s__law_of) .none kV2 dc2 pm2 an2 cd2 ct2), sl2⟩) (e2 : PySem.W.codeIn K cd2 "_law_of" = true) (k2 : PySem.W.keepIn K (.ref f2) = true) {f3 : Addr} {od3 an3 : Option Addr} {sl3 : Array (Option Value)} {oc3 kV3 dc3 pm3 cd3 ct3 : Value} (a3 : PySem.W.nsIn K mainGlobals "_law_cells" = some (some (.ref f3))) (l3 : K.lookup f3 = some ⟨oc3, od3, .func (PySem.W.fnOf "_law_cells" "_law_cells" (defArgs s__law_cells) (defBody s__law_cells) (defScope s__law_cells) .none kV3 dc3 pm3 an3 cd3 ct3), sl3⟩) (e3 : PySem.W.codeIn K cd3 "_law_cells" = true) (k3 : PySem.W.keepIn K (.ref f3) = true) {f4 : Addr} {od4 an4 : Option Addr} {sl4 : Array (Option Value)} {oc4 kV4 dc4 pm4 cd4 ct4 : Value} (a4 : PySem.W.nsIn K mainGlobals "_law_odd" = some (some (.ref f4))) (l4 : K.lookup f4 = some ⟨oc4, od4, .func (PySem.W.fnOf "_law_odd" "_law_odd" (defArgs s__law_odd) (defBody s__law_odd) (defScope s__law_odd) .none kV4 dc4 pm4 an4 cd4 ct4), sl4⟩) (e4 : PySem.W.codeIn K cd4 "_law_odd" = true) (k4 : PySem.W.keepIn K (.ref f4) = true) {f5 : Addr} {od5 an5 : Option Addr} {sl5 : Array (Option Value)} {oc5 kV5 dc5 pm5 cd5 ct5 : Value} (a5 : PySem.W.nsIn K mainGlobals "_law_all_made" = some (some (.ref f5))) (l5 : K.lookup f5 = some ⟨oc5, od5, .func (PySem.W.fnOf "_law_all_made" "_law_all_made" (defArgs s__law_all_made) (defBody s__law_all_made) (defScope s__law_all_made) .none kV5 dc5 pm5 an5 cd5 ct5), sl5⟩) (e5 : PySem.W.codeIn K cd5 "_law_all_made" = true) (k5 : PySem.W.keepIn K (.ref f5) = true) {f6 : Addr} {od6 an6 : Option Addr} {sl6 : Array (Option Value)} {oc6 kV6 dc6 pm6 cd6 ct6 : Value} (a6 : PySem.W.nsIn K mainGlobals "_law_lots" = some (some (.ref f6))) (l6 : K.lookup f6 = some ⟨oc6, od6, .func (PySem.W.fnOf "_law_lots" "_law_lots" (defArgs s__law_lots) (defBody s__law_lots) (defScope s__law_lots) .none kV6 dc6 pm6 an6 cd6 ct6), sl6⟩) (e6 : PySem.W.codeIn K cd6 "_law_lots" = true) (k6 : PySem.W.keepIn K (.ref f6) = true) {f7 : Addr} {od7 an7 : Option Addr} {sl7 : Array (Option Value)} {oc7 kV7 dc7 pm7 cd7 ct7 : Value} (a7 : PySem.W.nsIn K mainGlobals "_law_right" = some (some (.ref f7))) (l7 : K.lookup f7 = some ⟨oc7, od7, .func (PySem.W.fnOf "_law_right" "_law_right" (defArgs s__law_right) (defBody s__law_right) (defScope s__law_right) .none kV7 dc7 pm7 an7 cd7 ct7), sl7⟩) (e7 : PySem.W.codeIn K cd7 "_law_right" = true) (k7 : PySem.W.keepIn K (.ref f7) = true) {f8 : Addr} {od8 an8 : Option Addr} {sl8 : Array (Option Value)} {oc8 kV8 dc8 pm8 cd8 ct8 : Value} (a8 : PySem.W.nsIn K mainGlobals "law" = some (some (.ref f8))) (l8 : K.lookup f8 = some ⟨oc8, od8, .func (PySem.W.fnOf "law" "law" (defArgs s_law) (defBody s_law) (defScope s_law) .none kV8 dc8 pm8 an8 cd8 ct8), sl8⟩) (e8 : PySem.W.codeIn K cd8 "law" = true) (k8 : PySem.W.keepIn K (.ref f8) = true)  {x0 : Addr} (c0 : PySem.W.nsIn K mainGlobals "CreaseError" = some (some (.ref x0))) {x1 : Addr} (c1 : PySem.W.nsIn K mainGlobals "BadInt" = some (some (.ref x1))) {x2 : Addr} (c2 : PySem.W.nsIn K mainGlobals "BadStrip" = some (some (.ref x2))) {x3 : Addr} (c3 : PySem.W.nsIn K mainGlobals "BadWord" = some (some (.ref x3))) {x4 : Addr} (c4 : PySem.W.nsIn K mainGlobals "BadRing" = some (some (.ref x4))) {x5 : Addr} (c5 : PySem.W.nsIn K mainGlobals "BadLayers" = some (some (.ref x5))) {x6 : Addr} (c6 : PySem.W.nsIn K mainGlobals "BadStamps" = some (some (.ref x6))) {x7 : Addr} (c7 : PySem.W.nsIn K mainGlobals "BadMap" = some (some (.ref x7))) {x8 : Addr} (c8 : PySem.W.nsIn K mainGlobals "BadGrid" = some (some (.ref x8))) {x9 : Addr} (c9 : PySem.W.nsIn K mainGlobals "BadRuler" = some (some (.ref x9))) {x10 : Addr} (c10 : PySem.W.nsIn K mainGlobals "BadArcs" = some (some (.ref x10))) {x11 : Addr} (c11 : PySem.W.nsIn K mainGlobals "BadMarks" = some (some (.ref x11))) {x12 : Addr} (c12 : PySem.W.nsIn K mainGlobals "BadStep" = some (some (.ref x12))) {x13 : Addr} (c13 : PySem.W.nsIn K mainGlobals "Unlike" = some (some (.ref x13))) {x14 : Addr} (c14 : PySem.W.nsIn K mainGlobals "TooMany" = some (some (.ref x14))) {x15 : Addr} (c15 : PySem.W.nsIn K mainGlobals "Full" = some (some (.ref x15))) {x16 : Addr} (c16 : PySem.W.nsIn K mainGlobals "NothingToUndo" = some (some (.ref x16))) {x17 : Addr} (c17 : PySem.W.nsIn K mainGlobals "NothingToRedo" = some (some (.ref x17))) {x18 : Addr} (c18 : PySem.W.nsIn K mainGlobals "BadJournal" = some (some (.ref x18))) {x19 : Addr} (c19 : PySem.W.nsIn K mainGlobals "BadLine" = some (some (.ref x19))) {x20 : Addr} (c20 : PySem.W.nsIn K mainGlobals "BadTurns" = some (some (.ref x20))) {x21 : Addr} (c21 : PySem.W.nsIn K mainGlobals "BadFolds" = some (some (.ref x21))) {x22 : Addr} (c22 : PySem.W.nsIn K mainGlobals "BadGap" = some (some (.ref x22))) {x23 : Addr} (c23 : PySem.W.nsIn K mainGlobals "BadNet" = some (some (.ref x23))) {x24 : Addr} (c24 : PySem.W.nsIn K mainGlobals "BadBox" = some (some (.ref x24))) {fI cda cc : Addr} {odI anI cdd cld : Option Addr} {slI ccs csl : Array (Option Value)} {ocI kVI dcI pmI ctI ccl cl : Value} {vs : Array Value} {file : Str} {tf : Tok} {cdD : ClassData} (i1 : PySem.W.findIn K (.ref x0) "__init__" = some (some (.ref fI))) (i2 : K.lookup fI = some ⟨ocI, odI, .func (PySem.W.ksFn "__init__" "CreaseError.__init__" (defArgs sIni) bIni (defScope sIni) .none kVI dcI pmI anI (.ref cda) ctI cc), slI⟩) (i3 : PySem.W.codeIn K (.ref cda) "CreaseError.__init__" = true) (i4 : K.lookup cda = some ⟨ccl, cdd, .fields vs, ccs⟩) (i5 : vs[2]? = some (.str file tf)) (i6 : ((P.main.file : Str) == file) = true) (i7 : (P.main.scope.names.lookup ("super" : Str)).isSome = false) (i8 : K.lookup cc = some ⟨cl, cld, .cell (some (.ref x0)), csl⟩) (i9 : PySem.W.clsIn K x0 = some cdD) (xb : xB K fI x0 [("CreaseError", x0), ("BadInt", x1), ("BadStrip", x2), ("BadWord", x3), ("BadRing", x4), ("BadLayers", x5), ("BadStamps", x6), ("BadMap", x7), ("BadGrid", x8), ("BadRuler", x9), ("BadArcs", x10), ("BadMarks", x11), ("BadStep", x12), ("Unlike", x13), ("TooMany", x14), ("Full", x15), ("NothingToUndo", x16), ("NothingToRedo", x17), ("BadJournal", x18), ("BadLine", x19), ("BadTurns", x20), ("BadFolds", x21), ("BadGap", x22), ("BadNet", x23), ("BadBox", x24)] = true) (bi : biB K = true) : ∃ fd : FuncData, (∀ (s : Shared) (v : Value), BindsTo s fd ⟨[v], []⟩ [("script", v)]) ∧ ∀ base : Heap, K.In base → base.Ns mainGlobals mg → FnG P w K mg base CX0 5 fa fd ["script"] (spL K) := by
  cases hfa.symm.trans (PySem.W.mg_of X G a8)
  let cs : List (Str × Addr) := [("CreaseError", x0), ("BadInt", x1), ("BadStrip", x2), ("BadWord", x3), ("BadRing", x4), ("BadLayers", x5), ("BadStamps", x6), ("BadMap", x7), ("BadGrid", x8), ("BadRuler", x9), ("BadArcs", x10), ("BadMarks", x11), ("BadStep", x12), ("Unlike", x13), ("TooMany", x14), ("Full", x15), ("NothingToUndo", x16), ("NothingToRedo", x17), ("BadJournal", x18), ("BadLine", x19), ("BadTurns", x20), ("BadFolds", x21), ("BadGap", x22), ("BadNet", x23), ("BadBox", x24)]
  let W : Wd := ⟨K, fun c => cs.lookup c⟩
  have FX : XDef P K fI x0 := ⟨⟨ocI, ctI, .none, kVI, dcI, pmI, anI, odI, slI, "__init__", "CreaseError.__init__", defArgs sIni, defScope sIni, cda, cc, ⟨5, 8, 5, 13⟩, ⟨5, 8, 5, 15⟩, ⟨5, 8, 5, 24⟩, ⟨5, 25, 5, 30⟩, ⟨5, 8, 5, 31⟩, ⟨5, 8, 5, 31⟩, ⟨6, 8, 6, 12⟩, ⟨6, 8, 6, 18⟩, ⟨6, 21, 6, 26⟩, ⟨6, 8, 6, 26⟩, _, vs, file, tf, ccl, cl, cdd, cld, ccs, csl, cdD, i2, i3, rfl, rfl, fun _ _ _ => .of_eq rfl, rfl, rfl, rfl, rfl, by decide +kernel, rfl, rfl, rfl, i4, i5, i6, i7, i8, i9, _, fun _ => rfl⟩⟩
  have EX : XEnv P K mg W := xenv_of X G FX xb rfl
  have T : TxtOk P K mg W xsAll glAll := by
    refine ⟨rfl, EX, fun k h => lookup_some (l := cs) h, biB_ok X G bi, fun p hp => (List.not_mem_nil hp).elim⟩
  have F0 := fun_mk (st := s__law_pot) l0 e0 k0
  have B0 := F0.binds (ps := ["script", "place"]) fun _ _ _ _ _ _ us hl => match us, hl with | [_, _], _ => rfl
  have F1 := fun_mk (st := s__law_take) l1 e1 k1
  have B1 := F1.binds (ps := ["pot", "upto"]) fun _ _ _ _ _ _ us hl => match us, hl with | [_, _], _ => rfl
  have F2 := fun_mk (st := s__law_of) l2 e2 k2
  have B2 := F2.binds (ps := ["pot", "some"]) fun _ _ _ _ _ _ us hl => match us, hl with | [_, _], _ => rfl
  have F3 := fun_mk (st := s__law_cells) l3 e3 k3
  have B3 := F3.binds (ps := ["script", "most"]) fun _ _ _ _ _ _ us hl => match us, hl with | [_, _], _ => rfl
  have F4 := fun_mk (st := s__law_odd) l4 e4 k4
  have B4 := F4.binds (ps := ["pot"]) fun _ _ _ _ _ _ us hl => match us, hl with | [_], _ => rfl
  have F5 := fun_mk (st := s__law_all_made) l5 e5 k5
  have B5 := F5.binds (ps := ["value"]) fun _ _ _ _ _ _ us hl => match us, hl with | [_], _ => rfl
  have F6 := fun_mk (st := s__law_lots) l6 e6 k6
  have B6 := F6.binds (ps := ["told"]) fun _ _ _ _ _ _ us hl => match us, hl with | [_], _ => rfl
  have F7 := fun_mk (st := s__law_right) l7 e7 k7
  have B7 := F7.binds (ps := ["pot"]) fun _ _ _ _ _ _ us hl => match us, hl with | [_], _ => rfl
  have F8 := fun_mk (st := s_law) l8 e8 k8
  have B8 := F8.binds (ps := ["script"]) fun _ _ _ _ _ _ us hl => match us, hl with | [_], _ => rfl
  exact ⟨_, fun s v => .of_eq rfl, fun base _ _ => FnG.weaken (all_fn T ⟨F0, PySem.W.mg_of X G a0, k0, B0⟩ ⟨F1, PySem.W.mg_of X G a1, k1, B1⟩ ⟨F2, PySem.W.mg_of X G a2, k2, B2⟩ ⟨F3, PySem.W.mg_of X G a3, k3, B3⟩ ⟨F4, PySem.W.mg_of X G a4, k4, B4⟩ ⟨F5, PySem.W.mg_of X G a5, k5, B5⟩ ⟨F6, PySem.W.mg_of X G a6, k6, B6⟩ ⟨F7, PySem.W.mg_of X G a7, k7, B7⟩ ⟨F8, PySem.W.mg_of X G a8, k8, B8⟩) (spL_le rfl fun ns hl => law_true hl)⟩
end CF
open PySem PySem.W PyProof.Rows in
set_option maxRecDepth 100000 in
set_option maxHeartbeats 0 in
theorem PySem.Challenge.cw_creasedflat_k23_errors_each_its_own_holds : PySem.Challenge.rw_creasedflat_k23_errors_each_its_own.Holds := by
  w_on; o_law; k_head; (case hw => w_witness2)
  k_fill
  refine CF.walk (l := PySem.Challenge.rw_creasedflat_k23_errors_each_its_own) (k := 5) rfl rfl ⟨⟨rfl, by decide, by decide⟩, rfl⟩ (fun w h Y => PySem.W.kIn_of Y) ?F
  case F =>
    intro w mg fa h KX G hmg
    refine' CF.all_mk KX G hmg ?a0 ?l0 ?e0 ?k0 ?a1 ?l1 ?e1 ?k1 ?a2 ?l2 ?e2 ?k2 ?a3 ?l3 ?e3 ?k3 ?a4 ?l4 ?e4 ?k4 ?a5 ?l5 ?e5 ?k5 ?a6 ?l6 ?e6 ?k6 ?a7 ?l7 ?e7 ?k7 ?a8 ?l8 ?e8 ?k8 ?c0 ?c1 ?c2 ?c3 ?c4 ?c5 ?c6 ?c7 ?c8 ?c9 ?c10 ?c11 ?c12 ?c13 ?c14 ?c15 ?c16 ?c17 ?c18 ?c19 ?c20 ?c21 ?c22 ?c23 ?c24 ?i1 ?i2 ?i3 ?i4 ?i5 ?i6 ?i7 ?i8 ?i9 ?xb ?bi
    (case a0 => k_is)
    (case l0 => k_is)
    (case e0 => k_is)
    (case k0 => k_is)
    (case a1 => k_is)
    (case l1 => k_is)
    (case e1 => k_is)
    (case k1 => k_is)
    (case a2 => k_is)
    (case l2 => k_is)
    (case e2 => k_is)
    (case k2 => k_is)
    (case a3 => k_is)
    (case l3 => k_is)
    (case e3 => k_is)
    (case k3 => k_is)
    (case a4 => k_is)
    (case l4 => k_is)
    (case e4 => k_is)
    (case k4 => k_is)
    (case a5 => k_is)
    (case l5 => k_is)
    (case e5 => k_is)
    (case k5 => k_is)
    (case a6 => k_is)
    (case l6 => k_is)
    (case e6 => k_is)
    (case k6 => k_is)
    (case a7 => k_is)
    (case l7 => k_is)
    (case e7 => k_is)
    (case k7 => k_is)
    (case a8 => k_is)
    (case l8 => k_is)
    (case e8 => k_is)
    (case k8 => k_is)
    (case c0 => k_is)
    (case c1 => k_is)
    (case c2 => k_is)
    (case c3 => k_is)
    (case c4 => k_is)
    (case c5 => k_is)
    (case c6 => k_is)
    (case c7 => k_is)
    (case c8 => k_is)
    (case c9 => k_is)
    (case c10 => k_is)
    (case c11 => k_is)
    (case c12 => k_is)
    (case c13 => k_is)
    (case c14 => k_is)
    (case c15 => k_is)
    (case c16 => k_is)
    (case c17 => k_is)
    (case c18 => k_is)
    (case c19 => k_is)
    (case c20 => k_is)
    (case c21 => k_is)
    (case c22 => k_is)
    (case c23 => k_is)
    (case c24 => k_is)
    (case i1 => k_is)
    (case i2 => k_is)
    (case i3 => k_is)
    (case i4 => k_is)
    (case i5 => first | rfl | kernel_rfl)
    (case i6 => first | rfl | kernel_rfl)
    (case i7 => first | rfl | kernel_rfl)
    (case i8 => k_is)
    (case i9 => k_is)
    (case xb => kernel_rfl)
    (case bi => kernel_rfl)

