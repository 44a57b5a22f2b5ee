import PyProof.Rows.All
import Wide.All
import OpenK.AllK
import Wide.FinOn
import HandS.ForMost
import HandS.Wide
import KE.KExcInit
import KE.KExcSuper
import KE.DataEq
import KE.DataCmp
import KE.SortData
import KE.DataIsa
import KE.DataAny
import KE.KDictKeyed
import HandS.TupSets
import HandS.Zip
import HandS.Star
import HandS.TupAny
import HandS.TupMul
import KE.DataMinMax
import HandS.ExcValue
import HandS.IsInst
import HandS.Style
import HandS.Conv
import HandS.RaiseMore
import HandS.Text
import PyProof.CollectStr
import PyProof.TupleOfSeq
import KE.KDictZip
import HandS.ExcInit
import KE.KExcIs
import HandS.ExcField
import PyProof.ExcStrAll.ValueError
import PySem.Challenge.RW_creasedflat_k61_whole_paths_of_words
set_option Elab.async false
set_option linter.all false
set_option maxRecDepth 100000
namespace CF
open PySem L2

/-! ## pure data -/
inductive Dv where
  | non | bl (b : Bool) | int (i : Int) | str (s : Str)
  | tup (xs : List Dv) | lst (xs : List Dv) | dct (ks vs : List Dv)
  | scr (ns : List Int)
  | exc (c : Str) (v : Dv)

/-- what the world gives: the written part, the addresses of the own exception classes -/
structure Wd where
  K : PySem.W.Frag
  cl : Str → Option Addr
  P : Program
  w : World

/-- an exception object at a: its class, its args, its dict -/
def ExH (a C t dx : Addr) : HO := .ext fun h => ∃ c2 : Value, h.get? a = some (PySem.W.excObj C t (some dx) c2)

mutual
inductive Rep (W : Wd) (H : Hp) : V → Dv → Prop
  | non : Rep W H .non .non
  | bl (b) : Rep W H (.bl b) (.bl b)
  | int (i) : Rep W H (.int i) (.int i)
  | str (s) : Rep W H (.str s) (.str s)
  | tup {a vs ds} : SqT W.K H a vs → Reps W H vs ds → Rep W H (.ref a) (.tup ds)
  | lst {a vs ds} : H a = some (.lst vs) → Reps W H vs ds → Rep W H (.ref a) (.lst ds)
  | dct {a kvs ks ds} : H a = some (.dK kvs) → Reps W H (kvs.map fun p => kV p.1) ks → Reps W H (kvs.map fun p => p.2) ds → Rep W H (.ref a) (.dct ks ds)
  | scr {a ns} : SqL W.K H a (ns.map V.int) → Rep W H (.ref a) (.scr ns)
  | exc {a c C t dx v d} : W.cl c = some C → H a = some (ExH a C t dx) → H t = some (.tup [v]) → H dx = some (.xd [("value", v)]) → Rep W H v d → Rep W H (.ref a) (.exc c d)
inductive Reps (W : Wd) (H : Hp) : List V → List Dv → Prop
  | nil : Reps W H [] []
  | cons {v vs d ds} : Rep W H v d → Reps W H vs ds → Reps W H (v :: vs) (d :: ds)
end

theorem Same.sqT {K : PySem.W.Frag} {H H' : Hp} {a : Addr} {xs : List V} (e : Same H H') (h : SqT K H a xs) : SqT K H' a xs := by
  rcases h with (h | ⟨o, h⟩) | h
  · exact .inl (.inl (e _ _ h))
  · exact .inl (.inr ⟨o, e _ _ h⟩)
  · exact .inr h
mutual
theorem Rep.mono {W : Wd} {H H' : Hp} (s : Same H H') : ∀ {v : V} {d : Dv}, Rep W H v d → Rep W H' v d
  | _, _, .non => .non
  | _, _, .bl b => .bl b
  | _, _, .int i => .int i
  | _, _, .str x => .str x
  | _, _, .tup h r => .tup (Same.sqT s h) (Reps.mono s r)
  | _, _, .lst h r => .lst (s _ _ h) (Reps.mono s r)
  | _, _, .dct h r q => .dct (s _ _ h) (Reps.mono s r) (Reps.mono s q)
  | _, _, .scr h => .scr (s.seq h)
  | _, _, .exc h1 h2 h3 h4 r => .exc h1 (s _ _ h2) (s _ _ h3) (s _ _ h4) (Rep.mono s r)
theorem Reps.mono {W : Wd} {H H' : Hp} (s : Same H H') : ∀ {vs : List V} {ds : List Dv}, Reps W H vs ds → Reps W H' vs ds
  | _, _, .nil => .nil
  | _, _, .cons h r => .cons (Rep.mono s h) (Reps.mono s r)
end
section
variable {W : Wd} {H : Hp}
theorem Reps.length : ∀ {vs : List V} {ds : List Dv}, Reps W H vs ds → vs.length = ds.length
  | _, _, .nil => rfl
  | _, _, .cons _ r => congrArg (· + 1) r.length
theorem Reps.get : ∀ {vs : List V} {ds : List Dv}, Reps W H vs ds → ∀ {i : Nat} {d : Dv}, ds[i]? = some d → ∃ v, vs[i]? = some v ∧ Rep W H v d
  | _, _, .nil, i, d, e => by simp at e
  | _, _, .cons h r, 0, d, e => by
    simp at e
    subst e
    exact ⟨_, rfl, h⟩
  | _, _, .cons h r, i + 1, d, e => by
    obtain ⟨v, e1, e2⟩ := r.get (i := i) (d := d) (by simpa using e)
    exact ⟨v, by simpa using e1, e2⟩
theorem Reps.get' : ∀ {vs : List V} {ds : List Dv}, Reps W H vs ds → ∀ {i : Nat} {v : V}, vs[i]? = some v → ∃ d, ds[i]? = some d ∧ Rep W H v d
  | _, _, .nil, i, d, e => by simp at e
  | _, _, .cons h r, 0, d, e => by
    simp at e
    subst e
    exact ⟨_, rfl, h⟩
  | _, _, .cons h r, i + 1, d, e => by
    obtain ⟨v, e1, e2⟩ := r.get' (i := i) (v := d) (by simpa using e)
    exact ⟨v, by simpa using e1, e2⟩
theorem Reps.append : ∀ {vs ws : List V} {ds es : List Dv}, Reps W H vs ds → Reps W H ws es → Reps W H (vs ++ ws) (ds ++ es)
  | _, _, _, _, .nil, s => s
  | _, _, _, _, .cons h r, s => .cons h (r.append s)
theorem Reps.take : ∀ {vs : List V} {ds : List Dv}, Reps W H vs ds → ∀ n : Nat, Reps W H (vs.take n) (ds.take n)
  | _, _, _, 0 => .nil
  | _, _, .nil, _ + 1 => .nil
  | _, _, .cons h r, n + 1 => .cons h (r.take n)
theorem Reps.drop : ∀ {vs : List V} {ds : List Dv}, Reps W H vs ds → ∀ n : Nat, Reps W H (vs.drop n) (ds.drop n)
  | _, _, r, 0 => r
  | _, _, .nil, _ + 1 => .nil
  | _, _, .cons h r, n + 1 => r.drop n
theorem Reps.set : ∀ {vs : List V} {ds : List Dv} {v : V} {d : Dv}, Reps W H vs ds → Rep W H v d → ∀ i : Nat, Reps W H (vs.set i v) (ds.set i d)
  | _, _, _, _, .nil, _, _ => .nil
  | _, _, _, _, .cons _ r, h, 0 => .cons h r
  | _, _, _, _, .cons h0 r, h, i + 1 => .cons h0 (r.set h i)
theorem Reps.reverse : ∀ {vs : List V} {ds : List Dv}, Reps W H vs ds → Reps W H vs.reverse ds.reverse
  | _, _, .nil => .nil
  | _, _, .cons h r => by
    rw [List.reverse_cons, List.reverse_cons]
    exact r.reverse.append (.cons h .nil)
theorem Reps.snoc {vs : List V} {ds : List Dv} {v : V} {d : Dv} (r : Reps W H vs ds) (h : Rep W H v d) : Reps W H (vs ++ [v]) (ds ++ [d]) := r.append (.cons h .nil)
theorem Reps.eraseIdx : ∀ {vs : List V} {ds : List Dv}, Reps W H vs ds → ∀ i : Nat, Reps W H (vs.eraseIdx i) (ds.eraseIdx i)
  | _, _, .nil, _ => .nil
  | _, _, .cons _ r, 0 => r
  | _, _, .cons h r, i + 1 => .cons h (r.eraseIdx i)
theorem Reps.rep {vs : List V} {ds : List Dv} (r : Reps W H vs ds) : ∀ n : Nat, Reps W H (List.replicate n vs).flatten (List.replicate n ds).flatten
  | 0 => .nil
  | n + 1 => by
    rw [List.replicate_succ, List.replicate_succ, List.flatten_cons, List.flatten_cons]
    exact r.append (r.rep n)
theorem Reps.ints : ∀ {vs : List V} {ns : List Int}, Reps W H vs (ns.map Dv.int) → vs = ns.map V.int
  | [], [], _ => rfl
  | v :: vs, n :: ns, .cons h r => by
    cases h
    rw [List.map_cons, r.ints]
theorem Reps.of_ints : ∀ ns : List Int, Reps W H (ns.map V.int) (ns.map Dv.int)
  | [] => .nil
  | n :: ns => .cons (.int n) (Reps.of_ints ns)
end

/-! ## a def's slots -/
inductive SV where
  | no
  | dat (d : Dv)
  | lst (br : Bool) (xs : List Dv)
  | dic (kvs : List (Dv × Dv))
/-- is it a thing of the def's own, that it changes -/
def SV.own : SV → Bool
  | .lst _ _ => true
  | .dic _ => true
  | _ => false
abbrev Env := List SV

/-! ## a dict of the def's own -/
mutual
def keyOf : Dv → Option NestedKey
  | .non => some .none
  | .bl b => some (.num (if b then 1 else 0))
  | .int i => some (.num i)
  | .str s => some (.text s)
  | .tup xs => (keysOf xs).map .tup
  | _ => none
def keysOf : List Dv → Option (List NestedKey)
  | [] => some []
  | x :: xs => match keyOf x, keysOf xs with
    | some k, some ks => some (k :: ks)
    | _, _ => none
end
/-- the dict at a: key, the key's place, what it leads to -/
def DicO (W : Wd) (a : Addr) (rs : List (NestedKey × Addr × V)) : HO := .ext fun h => (a == sysModules) = false ∧ ∃ xs : List (NestedKey × Addr × Value), Paired (fun p q => p.1 = q.1 ∧ p.2.1 = q.2.1 ∧ L2.RelV p.2.2 q.2.2) rs xs ∧
  ∃ o es ep, h.get? a = some o ∧ o.ExactDict ∧ o.data = .dict es ep ∧ es.toList = xs.map (entryOfKey (nestedKind W.P W.w)) ∧ (xs.map (·.1)).Nodup
inductive DRel (W : Wd) (HF : Hp) : List (NestedKey × Addr × V) → List (Dv × Dv) → Prop
  | nil : DRel W HF [] []
  | cons {k a v rs d e kvs} : Rep W HF (.ref a) d → keyOf d = some k → k.depth ≤ 8 → Rep W HF v e → DRel W HF rs kvs → DRel W HF ((k, a, v) :: rs) ((d, e) :: kvs)
theorem DRel.mono {W : Wd} {H H' : Hp} (s : Same H H') : ∀ {rs : List (NestedKey × Addr × V)} {kvs : List (Dv × Dv)}, DRel W H rs kvs → DRel W H' rs kvs
  | _, _, .nil => .nil
  | _, _, .cons h1 h2 hd h3 r => .cons (h1.mono s) h2 hd (h3.mono s) (r.mono s)

/-- what a run of a def begins with: the frozen part and the heap at the entry; the places of the lists that are lent -/
structure Fx where
  W : Wd
  HF0 : Hp
  H0 : Hp
  M0 : Nat → Option Addr

def SlotOk (F : Fx) (HF H : Hp) (i : Nat) : SV → Option V → Prop
  | .no, _ => True
  | .dat d, ov => ∃ v, ov = some v ∧ Rep F.W HF v d
  | .lst br xs, ov => ∃ p vs, ov = some (.ref p) ∧ H p = some (.lst vs) ∧ Reps F.W HF vs xs ∧ HF p = none ∧ (if br = true then F.M0 i = some p else F.H0 p = none)
  | .dic kvs, ov => ∃ p rs, ov = some (.ref p) ∧ H p = some (DicO F.W p rs) ∧ DRel F.W HF rs kvs ∧ HF p = none ∧ F.H0 p = none
def OwnAt (η : Env) (σ : St) (i : Nat) (a : Addr) : Prop := ∃ sv : SV, η[i]? = some sv ∧ sv.own = true ∧ σ[i]? = some (some (.ref a))

structure SR (F : Fx) (HF : Hp) (σ : St) (H : Hp) (η : Env) : Prop where
  sub : Same HF H
  grow : Same F.HF0 HF
  keep : ∀ a o, F.H0 a = some o → (∀ i, F.M0 i ≠ some a) → H a = some o
  ent : ∀ i p, F.M0 i = some p → ∃ vs, F.H0 p = some (.lst vs)
  mt : ∀ i p, F.M0 i = some p → HF p = none ∧ ∃ vs, H p = some (.lst vs)
  newF : ∀ a o, HF a = some o → F.HF0 a = some o ∨ F.H0 a = none
  len : η.length = σ.length
  slot : ∀ i sv, η[i]? = some sv → SlotOk F HF H i sv (σ[i]?.join)
  apart : ∀ i j a, OwnAt η σ i a → OwnAt η σ j a → i = j

section
variable {F : Fx} {HF HF' : Hp} {σ : St} {H H' : Hp} {η : Env}
theorem Same.upd_new {H : Hp} {p : Addr} {o : HO} (h : H p = none) : Same H (upd H p o) := fun b u e => by
  rw [upd_ne (ne_of_none e h)]
  exact e
theorem Same.upd_both {HF H : Hp} {p : Addr} {o : HO} (s : Same HF H) (h : HF p = none) : Same HF (upd H p o) := fun b u e => by
  rw [upd_ne (ne_of_none e h)]
  exact s _ _ e
theorem Same.upd2 {HF H : Hp} {p : Addr} {o : HO} (s : Same HF H) : Same (upd HF p o) (upd H p o) := fun b u e => by
  by_cases hb : b = p
  · subst hb
    rw [upd_same] at e ⊢
    exact e
  · rw [upd_ne hb] at e ⊢
    exact s _ _ e
theorem SlotOk.mono {i : Nat} {sv : SV} {ov : Option V} (h : SlotOk F HF H i sv ov) (sF : Same HF HF') (own : ∀ p o, H p = some o → HF p = none → HF' p = none ∧ H' p = some o) : SlotOk F HF' H' i sv ov := by
  cases sv with
  | no => trivial
  | dat d =>
    obtain ⟨v, e, r⟩ := h
    exact ⟨v, e, r.mono sF⟩
  | lst br xs =>
    obtain ⟨p, vs, e, h1, h2, h3, h4⟩ := h
    obtain ⟨k1, k2⟩ := own p _ h1 h3
    exact ⟨p, vs, e, k2, h2.mono sF, k1, h4⟩
  | dic kvs =>
    obtain ⟨p, rs, e, h1, h2, h3, h4⟩ := h
    obtain ⟨k1, k2⟩ := own p _ h1 h3
    exact ⟨p, rs, e, k2, h2.mono sF, k1, h4⟩
/-- what was there at the entry is there -/
theorem SR.dom (S : SR F HF σ H η) {a : Addr} (h : H a = none) : F.H0 a = none := by
  cases e : F.H0 a with
  | none => rfl
  | some o =>
    by_cases hm : ∃ i, F.M0 i = some a
    · obtain ⟨i, hi⟩ := hm
      obtain ⟨_, vs, q⟩ := S.mt i a hi
      rw [h] at q
      cases q
    · have q := S.keep a o e fun i z => hm ⟨i, z⟩
      rw [h] at q
      cases q
/-- the heap grows, what is frozen too -/
theorem SR.ext (S : SR F HF σ H η) (sF : Same HF HF') (sH : Same H H') (sub : Same HF' H') (new : ∀ a o, HF' a = some o → HF a = some o ∨ H a = none) : SR F HF' σ H' η where
  sub := sub
  grow := S.grow.trans sF
  keep := fun a o e m => sH _ _ (S.keep a o e m)
  ent := S.ent
  mt := fun i p e => by
    obtain ⟨h1, vs, h2⟩ := S.mt i p e
    refine ⟨?_, vs, sH _ _ h2⟩
    cases q : HF' p with
    | none => rfl
    | some o =>
      rcases new p o q with z | z
      · rw [h1] at z
        cases z
      · rw [h2] at z
        cases z
  newF := fun a o e => by
    rcases new a o e with z | z
    · exact S.newF a o z
    · exact .inr (S.dom z)
  len := S.len
  slot := fun i sv e => (S.slot i sv e).mono sF fun p vs h1 h2 => by
    refine ⟨?_, sH _ _ h1⟩
    cases q : HF' p with
    | none => rfl
    | some o =>
      rcases new p o q with z | z
      · rw [h2] at z
        cases z
      · rw [h1] at z
        cases z
  apart := S.apart
/-- a new object, frozen at once -/
theorem SR.alloc (S : SR F HF σ H η) {p : Addr} {o : HO} (h : H p = none) : SR F (upd HF p o) σ (upd H p o) η ∧ Same HF (upd HF p o) := by
  have hF : HF p = none := S.sub.free h
  refine ⟨S.ext (Same.upd_new hF) (Same.upd_new h) (Same.upd2 S.sub) fun a u e => ?_, Same.upd_new hF⟩
  by_cases ha : a = p
  · subst ha
    exact .inr h
  · rw [upd_ne ha] at e
    exact .inl e
/-- a new object, not frozen -/
theorem SR.allocOwn (S : SR F HF σ H η) {p : Addr} {o : HO} (h : H p = none) : SR F HF σ (upd H p o) η :=
  S.ext (fun _ _ e => e) (Same.upd_new h) (fun b u e => by rw [upd_ne (ne_of_none (S.sub _ _ e) h)]; exact S.sub _ _ e) fun _ _ e => .inl e
theorem SR.slotV (S : SR F HF σ H η) {i : Nat} {d : Dv} (e : η[i]? = some (.dat d)) : ∃ v, σ[i]? = some (some v) ∧ Rep F.W HF v d := by
  obtain ⟨v, e1, r⟩ := S.slot i _ e
  refine ⟨v, ?_, r⟩
  cases q : σ[i]? with
  | none =>
    rw [q] at e1
    cases e1
  | some ov =>
    rw [q] at e1
    exact congrArg some e1
theorem SR.slotL (S : SR F HF σ H η) {i : Nat} {br : Bool} {xs : List Dv} (e : η[i]? = some (.lst br xs)) : ∃ p vs, σ[i]? = some (some (.ref p)) ∧ H p = some (.lst vs) ∧ Reps F.W HF vs xs ∧ HF p = none ∧ (if br = true then F.M0 i = some p else F.H0 p = none) := by
  obtain ⟨p, vs, e1, r⟩ := S.slot i _ e
  refine ⟨p, vs, ?_, r⟩
  cases q : σ[i]? with
  | none =>
    rw [q] at e1
    cases e1
  | some ov =>
    rw [q] at e1
    exact congrArg some e1
theorem own_unset {i j : Nat} {a : Addr} {sv : SV} {ov : Option V} (n : sv.own = false) (h : OwnAt (η.set i sv) (σ.set i ov) j a) : OwnAt η σ j a := by
  obtain ⟨sw, e, o, q⟩ := h
  by_cases hj : j = i
  · subst hj
    have hl : j < η.length := by
      have := (List.getElem?_eq_some_iff.mp e).1
      rw [List.length_set] at this
      exact this
    rw [List.getElem?_set_self hl] at e
    cases e
    rw [n] at o
    cases o
  · rw [List.getElem?_set_ne (Ne.symm hj)] at e q
    exact ⟨sw, e, o, q⟩
theorem own_dat {i j : Nat} {a : Addr} {sv : SV} (n : sv.own = false) (h : OwnAt (η.set i sv) σ j a) : OwnAt η σ j a := by
  obtain ⟨sw, e, o, q⟩ := h
  by_cases hj : j = i
  · subst hj
    have hl : j < η.length := by
      have := (List.getElem?_eq_some_iff.mp e).1
      rw [List.length_set] at this
      exact this
    rw [List.getElem?_set_self hl] at e
    cases e
    rw [n] at o
    cases o
  · rw [List.getElem?_set_ne (Ne.symm hj)] at e
    exact ⟨sw, e, o, q⟩
theorem own_upd {i j : Nat} {a : Addr} {sv0 sv : SV} (e0 : η[i]? = some sv0) (o0 : sv0.own = true) (h : OwnAt (η.set i sv) σ j a) : OwnAt η σ j a := by
  obtain ⟨sw, e, o, q⟩ := h
  by_cases hj : j = i
  · subst hj
    exact ⟨sv0, e0, o0, q⟩
  · rw [List.getElem?_set_ne (Ne.symm hj)] at e
    exact ⟨sw, e, o, q⟩
/-- a frozen value in a slot -/
theorem SR.setDat (S : SR F HF σ H η) {i : Nat} {v : V} {d : Dv} (r : Rep F.W HF v d) (hi : i < σ.length) : SR F HF (σ.set i (some v)) H (η.set i (.dat d)) where
  sub := S.sub
  grow := S.grow
  keep := S.keep
  ent := S.ent
  mt := S.mt
  newF := S.newF
  len := by rw [List.length_set, List.length_set, S.len]
  slot := fun j sv e => by
    by_cases h : j = i
    · subst h
      rw [List.getElem?_set_self (by rw [S.len]; exact hi)] at e
      cases e
      rw [List.getElem?_set_self hi]
      exact ⟨v, rfl, r⟩
    · rw [List.getElem?_set_ne (Ne.symm h)] at e ⊢
      exact S.slot j sv e
  apart := fun j k a h1 h2 => S.apart j k a (own_unset rfl h1) (own_unset rfl h2)
theorem SR.slotD (S : SR F HF σ H η) {i : Nat} {kvs : List (Dv × Dv)} (e : η[i]? = some (.dic kvs)) : ∃ p rs, σ[i]? = some (some (.ref p)) ∧ H p = some (DicO F.W p rs) ∧ DRel F.W HF rs kvs ∧ HF p = none ∧ F.H0 p = none := by
  obtain ⟨p, rs, e1, r⟩ := S.slot i _ e
  refine ⟨p, rs, ?_, r⟩
  cases q : σ[i]? with
  | none =>
    rw [q] at e1
    cases e1
  | some ov =>
    rw [q] at e1
    exact congrArg some e1
theorem some_join {i : Nat} {v : V} (h : σ[i]?.join = some v) : σ[i]? = some (some v) := by
  cases q : σ[i]? with
  | none =>
    rw [q] at h
    cases h
  | some ov =>
    rw [q] at h
    exact congrArg some h
theorem SR.ownAt (S : SR F HF σ H η) {i : Nat} {a : Addr} (h : OwnAt η σ i a) : (∃ o, H a = some o) ∧ HF a = none := by
  obtain ⟨sv, e, o, q⟩ := h
  cases sv with
  | no => cases o
  | dat d => cases o
  | lst br xs =>
    obtain ⟨p, vs, q', hp, _, hF, _⟩ := S.slotL e
    rw [q] at q'
    cases q'
    exact ⟨⟨_, hp⟩, hF⟩
  | dic kvs =>
    obtain ⟨p, vs, q', hp, _, hF, _⟩ := S.slotD e
    rw [q] at q'
    cases q'
    exact ⟨⟨_, hp⟩, hF⟩
/-- a thing of its own in a slot -/
theorem SR.setNew (S : SR F HF σ H η) {i : Nat} {p : Addr} {sv : SV} (hs : SlotOk F HF H i sv (some (.ref p))) (hno : ∀ j, ¬ OwnAt η σ j p) (hi : i < σ.length) : SR F HF (σ.set i (some (.ref p))) H (η.set i sv) where
  sub := S.sub
  grow := S.grow
  keep := S.keep
  ent := S.ent
  mt := S.mt
  newF := S.newF
  len := by rw [List.length_set, List.length_set, S.len]
  slot := fun j sw e => by
    by_cases h : j = i
    · subst h
      rw [List.getElem?_set_self (by rw [S.len]; exact hi)] at e
      cases e
      rw [List.getElem?_set_self hi]
      exact hs
    · rw [List.getElem?_set_ne (Ne.symm h)] at e ⊢
      exact S.slot j sw e
  apart := fun j k a h1 h2 => by
    have no : ∀ j, OwnAt (η.set i sv) (σ.set i (some (.ref p))) j a → j ≠ i → OwnAt η σ j a := fun j h hj => by
      obtain ⟨sw, e, o, q⟩ := h
      rw [List.getElem?_set_ne (Ne.symm hj)] at e q
      exact ⟨sw, e, o, q⟩
    have at_i : OwnAt (η.set i sv) (σ.set i (some (.ref p))) i a → a = p := fun h => by
      obtain ⟨sw, e, o, q⟩ := h
      rw [List.getElem?_set_self hi] at q
      cases q
      rfl
    by_cases hj : j = i
    · by_cases hk : k = i
      · rw [hj, hk]
      · rw [hj] at h1
        rw [at_i h1] at h2 no
        exact absurd (no k h2 hk) (hno k)
    · by_cases hk : k = i
      · rw [hk] at h2
        rw [at_i h2] at h1 no
        exact absurd (no j h1 hj) (hno j)
      · exact S.apart j k a (no j h1 hj) (no k h2 hk)
/-- a list of its own in a slot -/
theorem SR.setOwn (S : SR F HF σ H η) {i : Nat} {p : Addr} {vs : List V} {xs : List Dv} (h : H p = some (.lst vs)) (r : Reps F.W HF vs xs) (hF : HF p = none) (h0 : F.H0 p = none) (hno : ∀ j, ¬ OwnAt η σ j p) (hi : i < σ.length) : SR F HF (σ.set i (some (.ref p))) H (η.set i (.lst false xs)) :=
  S.setNew (sv := .lst false xs) ⟨p, vs, rfl, h, r, hF, by rw [if_neg Bool.false_ne_true]; exact h0⟩ hno hi
/-- the object of a slot's own thing is changed -/
theorem SR.updAt (S : SR F HF σ H η) {i : Nat} {sv0 sv : SV} {p : Addr} {o : HO} (e : η[i]? = some sv0) (o0 : sv0.own = true) (q : σ[i]? = some (some (.ref p))) (hF : HF p = none) (h0 : F.H0 p = none ∨ (F.M0 i = some p ∧ ∃ ws, o = .lst ws))
    (hs : SlotOk F HF (upd H p o) i sv (some (.ref p))) : SR F HF σ (upd H p o) (η.set i sv) := by
  have hi : i < η.length := (List.getElem?_eq_some_iff.mp e).1
  refine ⟨fun b u z => ?_, S.grow, fun a u z m => ?_, S.ent, fun j p' z => ?_, S.newF, by rw [List.length_set, S.len], fun j sw z => ?_, fun j k a h1 h2 => S.apart j k a (own_upd e o0 h1) (own_upd e o0 h2)⟩
  · rw [upd_ne (ne_of_none z hF)]
    exact S.sub _ _ z
  · have : a ≠ p := by
      rintro rfl
      rcases h0 with h0 | ⟨h0, _⟩
      · rw [z] at h0
        cases h0
      · exact m i h0
    rw [upd_ne this]
    exact S.keep a u z m
  · obtain ⟨h1, us, h2⟩ := S.mt j p' z
    refine ⟨h1, ?_⟩
    by_cases hpp : p' = p
    · subst hpp
      rcases h0 with h0 | ⟨_, ws, rfl⟩
      · obtain ⟨vs, h3⟩ := S.ent j p' z
        rw [h0] at h3
        cases h3
      · exact ⟨ws, upd_same⟩
    · exact ⟨us, by rw [upd_ne hpp]; exact h2⟩
  · by_cases hj : j = i
    · subst hj
      rw [List.getElem?_set_self hi] at z
      cases z
      rw [q]
      exact hs
    · rw [List.getElem?_set_ne (Ne.symm hj)] at z
      have s := S.slot j sw z
      have ne : ∀ {p2 : Addr}, σ[j]?.join = some (.ref p2) → sw.own = true → p2 ≠ p := fun {p2} s1 so w => hj (S.apart j i p2 ⟨_, z, so, some_join s1⟩ ⟨_, e, o0, by rw [w]; exact q⟩)
      cases sw with
      | no => trivial
      | dat d => exact s
      | lst b2 x2 =>
        obtain ⟨p2, v2, s1, s2, s3, s4, s5⟩ := s
        exact ⟨p2, v2, s1, by rw [upd_ne (ne s1 rfl)]; exact s2, s3, s4, s5⟩
      | dic kvs =>
        obtain ⟨p2, v2, s1, s2, s3, s4, s5⟩ := s
        exact ⟨p2, v2, s1, by rw [upd_ne (ne s1 rfl)]; exact s2, s3, s4, s5⟩
/-- a slot's own list is changed -/
theorem SR.updOwn (S : SR F HF σ H η) {i : Nat} {br : Bool} {xs ys : List Dv} {p : Addr} {ws : List V} (e : η[i]? = some (.lst br xs)) (q : σ[i]? = some (some (.ref p))) (r : Reps F.W HF ws ys) :
    SR F HF σ (upd H p (.lst ws)) (η.set i (.lst br ys)) := by
  obtain ⟨p', vs, q', hp, _, hF, hb⟩ := S.slotL e
  rw [q] at q'
  cases q'
  refine S.updAt e rfl q hF ?_ ⟨p, ws, rfl, upd_same, r, hF, hb⟩
  cases br with
  | true => exact .inr ⟨hb, ws, rfl⟩
  | false => exact .inl hb
/-- a slot's own dict is changed -/
theorem SR.updDic (S : SR F HF σ H η) {i : Nat} {kvs kws : List (Dv × Dv)} {p : Addr} {rs : List (NestedKey × Addr × V)} (e : η[i]? = some (.dic kvs)) (q : σ[i]? = some (some (.ref p))) (r : DRel F.W HF rs kws) :
    SR F HF σ (upd H p (DicO F.W p rs)) (η.set i (.dic kws)) := by
  obtain ⟨p', vs, q', hp, _, hF, h0⟩ := S.slotD e
  rw [q] at q'
  cases q'
  exact S.updAt e rfl q hF (.inl h0) ⟨p, rs, rfl, upd_same, r, hF, h0⟩
/-- a slot's own list is frozen -/
theorem SR.freeze (S : SR F HF σ H η) {i : Nat} {xs : List Dv} {p : Addr} {vs : List V} (e : η[i]? = some (.lst false xs)) (q : σ[i]? = some (some (.ref p))) (hp : H p = some (.lst vs)) :
    SR F (upd HF p (.lst vs)) σ H (η.set i (.dat (.lst xs))) ∧ Same HF (upd HF p (.lst vs)) ∧ Rep F.W (upd HF p (.lst vs)) (.ref p) (.lst xs) := by
  obtain ⟨p', vs', q', hp', r, hF, hb⟩ := S.slotL e
  rw [q] at q'
  cases q'
  rw [hp] at hp'
  cases hp'
  have h0 : F.H0 p = none := hb
  have hi : i < η.length := (List.getElem?_eq_some_iff.mp e).1
  have sF : Same HF (upd HF p (.lst vs)) := Same.upd_new hF
  have rp : Rep F.W (upd HF p (.lst vs)) (.ref p) (.lst xs) := .lst upd_same (r.mono sF)
  refine ⟨⟨fun b u z => ?_, S.grow.trans sF, S.keep, S.ent, fun j p' z => ?_, fun a o z => ?_, by rw [List.length_set, S.len], fun j sv z => ?_, fun j k a h1 h2 => S.apart j k a (own_dat rfl h1) (own_dat rfl h2)⟩, sF, rp⟩
  · by_cases hb : b = p
    · subst hb
      rw [upd_same] at z
      cases z
      exact hp
    · rw [upd_ne hb] at z
      exact S.sub _ _ z
  · obtain ⟨h1, us, h2⟩ := S.mt j p' z
    refine ⟨?_, us, h2⟩
    have : p' ≠ p := by
      rintro rfl
      obtain ⟨ws, w⟩ := S.ent j p' z
      rw [h0] at w
      cases w
    rw [upd_ne this]
    exact h1
  · by_cases ha : a = p
    · subst ha
      exact .inr h0
    · rw [upd_ne ha] at z
      exact S.newF a o z
  · by_cases hj : j = i
    · subst hj
      rw [List.getElem?_set_self hi] at z
      cases z
      rw [q]
      exact ⟨_, rfl, rp⟩
    · rw [List.getElem?_set_ne (Ne.symm hj)] at z
      have s := S.slot j sv z
      have ne : ∀ {p2 : Addr}, σ[j]?.join = some (.ref p2) → sv.own = true → p2 ≠ p := fun {p2} s1 so w => hj (S.apart j i p2 ⟨_, z, so, some_join s1⟩ ⟨_, e, rfl, by rw [w]; exact q⟩)
      cases sv with
      | no => trivial
      | dat d =>
        obtain ⟨v, s1, s2⟩ := s
        exact ⟨v, s1, s2.mono sF⟩
      | lst b2 x2 =>
        obtain ⟨p2, v2, s1, s2, s3, s4, s5⟩ := s
        exact ⟨p2, v2, s1, s2, s3.mono sF, by rw [upd_ne (ne s1 rfl)]; exact s4, s5⟩
      | dic kvs =>
        obtain ⟨p2, v2, s1, s2, s3, s4, s5⟩ := s
        exact ⟨p2, v2, s1, s2, s3.mono sF, by rw [upd_ne (ne s1 rfl)]; exact s4, s5⟩
end
end CF

set_option Elab.async false
set_option linter.all false
set_option maxRecDepth 100000
namespace CF
open PySem PySem.Spec PyProof.Rows L2

/-! ## calls, where no text is being shown (guards) -/
structure RoomG (k : Nat) (A : Around) : Prop where
  r : Room k A
  g : A.guards = some []
theorem RoomG.mono {j k : Nat} {A : Around} (h : RoomG k A) (l : j ≤ k) : RoomG j A := ⟨h.r.mono l, h.g⟩
theorem RoomG.deeper {k : Nat} {A : Around} (h : RoomG (k + 1) A) (env : PySem.Env) : RoomG k (A.deeper env) := ⟨h.r.deeper env, h.g⟩

/-- the def at f keeps the promise sp, called where RoomG says -/
structure FnG (P : Program) (w : World) (K : PySem.W.Frag) (mg : Str → Option Value) (base : Heap) (CX : CXT) (k : Nat) (f : Addr) (fd : FuncData) (ps : List Str) (sp : Sp) : Prop where
  len : ∀ vs H Q E, sp vs H Q E → vs.length = ps.length
  run : ∀ (A : Around) (outer : List PySem.Env) (s : Shared) (H : Hp) (args : Args) (us : List Value) (vs : List V) (Q : VK) (E : XK), RoomG k A → Env0 P w K mg base A outer s H →
    BindsTo s fd args (ps.zip us) → Vals vs us → sp vs H Q E → codeAny (model P w) A (.call (.ref f) args) (CR CX outer P w H s Q E) s

section
variable {X : Cx} {CX : CXT} {k : Nat} {f : Addr} {fd : FuncData} {ps : List Str} {sp : Sp} {dvs : List V} {ds : List Value} {E : XK} {x : Str} {p pos : Pos} {e : Expr} {es : List Expr} {kws : List Keyword} {t tk : TA}
theorem callback {pins : List (Addr × Obj)} {σ : L2.St} {H : Hp} {s : Shared} {Q : VK} {c : Code} (I : Inv X pins σ H s) (hx : Passes CX X E)
    (h : codeAny (model X.prog X.w) X.A c (CR CX X.stack X.prog X.w H s Q E) s) : codeAny (model X.prog X.w) X.A c (fun r s' => match r with
      | .ok (.ret u) => EP X pins σ Q u s'
      | .ok _ => False
      | .error e => X.xe e s') s := codeAny_mono h fun r s' q => by
  cases r with
  | error e => exact hx pins σ H s e s' I q
  | ok fl =>
    cases fl with
    | ret u => exact I.after q
    | next => exact (q : False).elim
    | brk => exact (q : False).elim
    | cont => exact (q : False).elim
theorem runG {pins : List (Addr × Obj)} {σ : L2.St} {H : Hp} {s : Shared} {Q : VK} {us : List Value} {vs : List V} (F : FnG X.prog X.w X.K X.mg X.base CX k f fd ps sp) (hr : RoomG k X.A) (hb : Binds X.K fd ps ds) (hd : Vals dvs ds) (hx : Passes CX X E)
    (I : Inv X pins σ H s) (r : Vals vs us) (h : sp (vs ++ dvs) H Q E) : wpAny (model X.prog X.w) X.A (call (.ref f) us) (EP X pins σ Q) X.xe s := by
  have r2 : Vals (vs ++ dvs) (us ++ ds) := r.append hd
  have n : (us ++ ds).length = ps.length := r2.length.symm.trans (F.len _ _ _ _ h)
  refine wpAny_call (codeAny_mono (callback I hx (F.run X.A X.stack s H ⟨us, []⟩ (us ++ ds) (vs ++ dvs) Q E hr I.env0 (hb s us I.kIn n) r2 h)) fun r s' q => ?_)
  cases r with
  | error e => exact q
  | ok fl => cases fl <;> first | exact q | exact (q : False).elim
theorem runGK {pins : List (Addr × Obj)} {σ : L2.St} {H : Hp} {s : Shared} {Q : VK} {us ws : List Value} {vs zs : List V} {ks : List Str} {g : List Value → List Value → List Value} {gV : List V → List V → List V}
    (F : FnG X.prog X.w X.K X.mg X.base CX k f fd ps sp) (hr : RoomG k X.A) (hb : KBinds X.K fd ps ks g gV) (hx : Passes CX X E)
    (I : Inv X pins σ H s) (r : Vals vs us) (rz : Vals zs ws) (h : sp (gV vs zs) H Q E) : wpAny (model X.prog X.w) X.A (call (.ref f) us (ks.zip ws)) (EP X pins σ Q) X.xe s := by
  have r2 := hb.rel r rz
  have n : (g us ws).length = ps.length := r2.length.symm.trans (F.len _ _ _ _ h)
  refine wpAny_call (codeAny_mono (callback I hx (F.run X.A X.stack s H ⟨us, ks.zip ws⟩ (g us ws) (gV vs zs) Q E hr I.env0 (hb.to s us ws I.kIn n) r2 h)) fun r s' q => ?_)
  cases r with
  | error e => exact q
  | ok fl => cases fl <;> first | exact q | exact (q : False).elim
theorem pe_callG (F : FnG X.prog X.w X.K X.mg X.base CX k f fd ps sp) (hr : RoomG k X.A) (hg : Gl X x) (hm : X.mg x = some (.ref f)) (hk : PySem.W.keepIn X.K (.ref f) = true) (hb : Binds X.K fd ps ds) (hd : Vals dvs ds) (hx : Passes CX X E)
    (ha : PA X (e :: es) t) (hdb : (x == ("__debug__" : Str)) = false) (he : starEach (e :: es) X.env = (false, eval e X.env) :: starEach es X.env) (hpl : (backTo pos (starEach es X.env)).any (·.1) = false) :
    PE X (.Call (.Name x p) (e :: es) [] pos) (tCall sp dvs E t) where
  run := fun pins s σ H Q I h => by
    refine wpAny_Call_Name_kw (ld_glob I hg hm ?_ hdb)
    exact PySem.W.callWith_K (h₀ := X.base) I.ok.mod.kin hk (thn (ha.run pos pins s σ H _ I h) fun us s1 ⟨vs, H1, I1, r, q⟩ => ⟨I1.kIn, runG F hr hb hd hx I1 r q⟩) he hpl
theorem pe_callG0 (F : FnG X.prog X.w X.K X.mg X.base CX k f fd ps sp) (hr : RoomG k X.A) (hg : Gl X x) (hm : X.mg x = some (.ref f)) (hk : PySem.W.keepIn X.K (.ref f) = true) (hb : Binds X.K fd ps ds) (hd : Vals dvs ds) (hx : Passes CX X E)
    (hdb : (x == ("__debug__" : Str)) = false) : PE X (.Call (.Name x p) [] [] pos) (tCall sp dvs E tNil) where
  run := fun pins s σ H Q I h => wpAny_Call_Name_kw (ld_glob I hg hm (PySem.W.callWith_K0 I.kIn hk (runG (us := []) F hr hb hd hx I .nil h)) hdb)
theorem pe_callGK {ks : List Str} {g : List Value → List Value → List Value} {gV : List V → List V → List V} (F : FnG X.prog X.w X.K X.mg X.base CX k f fd ps sp) (hr : RoomG k X.A) (hg : Gl X x) (hm : X.mg x = some (.ref f)) (hk : PySem.W.keepIn X.K (.ref f) = true) (hb : KBinds X.K fd ps ks g gV) (hx : Passes CX X E)
    (ha : PA X (e :: es) t) (hkw : PK X kws tk) (hall : (backToKw pos (keywordEach kws X.env)).all (·.1.isSome) = true) (hks : (backToKw pos (keywordEach kws X.env)).filterMap (·.1) = ks)
    (hdb : (x == ("__debug__" : Str)) = false) (he : starEach (e :: es) X.env = (false, eval e X.env) :: starEach es X.env)
    (hpl : ((backTo pos (starEach (e :: es) X.env)).any (·.1) || (backToKw pos (keywordEach kws X.env)).any (·.1.isNone)) = false) :
    PE X (.Call (.Name x p) (e :: es) kws pos) (tCallK sp gV E t tk) where
  run := fun pins s σ H Q I h => by
    refine wpAny_Call_Name_kw (ld_glob I hg hm ?_ hdb)
    refine PySem.W.callWith_KW (h₀ := X.base) I.ok.mod.kin hk hall (thn (ha.run pos pins s σ H _ I h) fun us s1 ⟨vs, H1, I1, r, q⟩ => ?_) hpl he
    refine thn (hkw.run pos pins s1 σ H1 _ I1 q) fun ws s2 ⟨zs, H2, I2, rz, q2⟩ => ⟨I2.kIn, ?_⟩
    rw [hks]
    exact runGK F hr hb hx I2 r rz q2
end

/-- a def by its body -/
theorem fnG_of {CX : CXT} {P : Program} {w : World} {K : PySem.W.Frag} {mg : Str → Option Value} {base : Heap} {k : Nat} {f : Addr} {x qual : Str} {st : Stmt} {fd : FuncData} {N ps : List Str} {sp : Sp} (F : Fun K x qual st f fd) (S : FnScope N ps (defScope st))
    (len : ∀ vs H Q E, sp vs H Q E → vs.length = ps.length)
    (hbody : ∀ (cdv : Value) (A : Around) (outer : List PySem.Env) (s : Shared) (H : Hp) (vs : List V) (Q : VK) (E : XK), RoomG k (A.deeper (envOfC qual (defScope st) s.heap.objs.size f cdv)) → sp vs H Q E →
      ∃ t, PSs (cxOf CX P w K mg base N qual (defScope st) f cdv A outer s H E) (defBody st) t ∧ t { nx := fun _ H' => Q .non H', rt := Q } (start N vs) H) :
    FnG P w K mg base CX (k + 1) f fd ps sp where
  len := len
  run := fun A outer s H args us vs Q E hr e0 hb r hsp => by
    obtain ⟨oc, od, kV, doc, pm, an, cdv, ct, osl, rfl, lk, hcd⟩ := F.ex
    have keep0 := fun b o e => (e0.bs b o e).1
    have names : ∀ y ∈ ps.zip us, (defScope st).names.lookup y.1 = some .local ∨ ((defScope st).names.lookup y.1 = some .cell ∧ ((cellsFrom (s.heap.objs.size + 1) (defScope st).names []).lookup y.1).isSome = true) := by
      rintro ⟨n, v⟩ hy
      exact (S.par n (List.of_mem_zip hy).1).imp id fun q => ⟨q, PySem.W.cellsFrom_some _ _ _ (.inl q)⟩
    have KX : K.In s.heap := e0.mod.kin.keeps keep0
    refine codeAny_call_function hr.r.depth (KX _ _ lk) rfl S.co S.gen rfl (PySem.W.codeRec_of KX hcd) (hb _ _ _ _ (wpAny_newFunctionEnv_cells S.kind names fun env he s1 x => ?_))
    subst he
    obtain ⟨t, ht, hq⟩ := hbody cdv A outer s H vs Q E (hr.deeper _) hsp
    have I : Inv (cxOf CX P w K mg base N qual (defScope st) f cdv A outer s H E) [] (start N vs) H s1 := inv_start S hr.r.hd e0 (len _ _ _ _ hsp) r x
    refine ⟨(e0.mod.nolimit.keeps keep0).keeps x.toInCall.keep, codeAny_func (wpAny_mono (ht.run [] s1 (start N vs) H _ I hq) (fun fl s' hs => ?_) fun e s' hs => hs)⟩
    cases fl with
    | ret u =>
      obtain ⟨v, σ', H', J, rv, q⟩ := hs
      exact ⟨v, H', J.os, J.bare, J.base, J.hok, rv, q⟩
    | next =>
      obtain ⟨σ', H', J, q⟩ := hs
      exact ⟨V.non, H', J.os, J.bare, J.base, J.hok, rfl, q⟩
    | brk => exact hs.elim fun _ z => z.elim fun _ z => z.2.elim
    | cont => exact hs.elim fun _ z => z.elim fun _ z => z.2.elim

/-- the law called at the heap behind the top -/
theorem lawG {P : Program} {w : World} {K : PySem.W.Frag} {mg mb : Str → Option Value} {k : Nat} {fa a : Addr} {fd : FuncData} {x : Str} {sp : Sp} {s₁ : Shared} {vs : List Value} {ns : List Int}
    (KX : K.In s₁.heap) (hns : s₁.heap.Ns mainGlobals mg) (hb : s₁.heap.Ns builtinsNs mb) (hbb : ∀ x : Str, x ≠ "__name__" → mb x = bootBuiltins x) (hlim : s₁.heap.NoLimit) (hg : s₁.gens = #[])
    (ha : s₁.heap.get? a = some { cls := .type "list", data := .seq vs.toArray }) (hi : IntsAre vs ns) (hl : ns.length ≤ sizeLine) (hr : RoomG k callerA)
    (F : ∀ base : Heap, K.In base → base.Ns mainGlobals mg → FnG P w K mg base CX0 k fa fd [x] sp) (hbind : ∀ (s : Shared) (u : Value), BindsTo s fd ⟨[u], []⟩ [(x, u)])
    (hsp : ∀ H : Hp, Only H → SqL K H a (ns.map V.int) → sp [.ref a] H (fun v _ => v = .bl true) fun _ _ _ => False) :
    codeAny (model P w) callerA (.call (.ref fa) ⟨[.ref a], []⟩) (fun r s' => r = .ok (.ret (.bool true)) ∧ OldK s₁.heap s'.heap ∧ s'.os = s₁.os ∧ AllBare s'.gens) s₁ := by
  have rv := vals_ints hi
  have lv : vs.length = ns.length := hi.length
  have core : ∀ H : Hp, Only H → SqL K H a (ns.map V.int) → HOk P w H s₁.heap → (∀ b, H b ≠ none → b = a ∧ K.lookup a = none) →
      codeAny (model P w) callerA (.call (.ref fa) ⟨[.ref a], []⟩) (fun r s' => r = .ok (.ret (.bool true)) ∧ OldK s₁.heap s'.heap ∧ s'.os = s₁.os ∧ AllBare s'.gens) s₁ := by
    intro H hO hS ok hA
    have free : ∀ {b : Addr}, (b = a → K.lookup a = none → False) → H b = none := fun {b} h => by
      cases q : H b with
      | none => rfl
      | some u =>
        obtain ⟨e1, e2⟩ := hA b (by rw [q]; exact fun z => nomatch z)
        exact (h e1 e2).elim
    have ns2 : ∀ {b : Addr} {m : Str → Option Value}, s₁.heap.Ns b m → (hidT s₁.heap H).Ns b m := fun {b m} ⟨o, es, ep, e, d, r⟩ => by
      refine ⟨o, es, ep, hidT_get e (free fun z _ => ?_), d, r⟩
      subst z
      rw [ha] at e
      cases e
      cases d
    have inK : K.In (hidT s₁.heap H) := fun b o e => hidT_get (KX b o e) (free fun z q => by
      subst z
      rw [q] at e
      cases e)
    have hM : Mod K mg (hidT s₁.heap H) := ⟨inK, ns2 hns, ⟨mb, ns2 hb, hbb⟩, hlim.elim fun mc z => ⟨mc, ns2 z.1, z.2⟩⟩
    have e0 : Env0 P w K mg (hidT s₁.heap H) callerA [] s₁ H := ⟨rfl, hM, fun b o e => of_hidT e, Nat.le_of_eq (hidT_size _ _), trivial, fun b z => (List.not_mem_nil (show b ∈ ([] : List Addr) from z)).elim, ok, .of_eq hg⟩
    refine codeAny_mono ((F _ inK (ns2 hns)).run callerA [] s₁ H ⟨[.ref a], []⟩ [.ref a] [.ref a] _ _ hr e0 (hbind s₁ (.ref a)) (.cons rfl .nil) (hsp H hO hS)) fun r s' h => ?_
    cases r with
    | error e => exact (h : False).elim
    | ok fl =>
      cases fl with
      | next => exact (h : False).elim
      | brk => exact (h : False).elim
      | cont => exact (h : False).elim
      | ret u =>
        obtain ⟨v, H', os, bare, un, ok', r', q⟩ := h
        cases (q : v = .bl true)
        cases (r' : u = Value.bool true)
        refine ⟨rfl, OldK.of_keep fun b o e => ?_, os, bare⟩
        rcases hO b with z | ⟨ob, xs, z⟩
        · exact un.keep b o e z (fun z => (List.not_mem_nil (show b ∈ ([] : List Addr) from z)).elim) fun z => (List.not_mem_nil z).elim
        · obtain ⟨e1, _⟩ := ok b _ z
          obtain ⟨e2, _⟩ := ok' b _ (un.frzs b ob _ z)
          rw [e] at e1
          cases e1
          exact e2
  cases hk : K.lookup a with
  | some o =>
    have e := KX a o hk
    rw [ha] at e
    cases e
    exact core (fun _ => none) (fun _ => .inl rfl) (.inr ⟨_, vs.toArray, _, hk, rfl, rfl, rfl, by rw [List.size_toArray, lv]; exact hl, by simpa using rv⟩) (fun b u z => nomatch (show (none : Option HO) = some u from z)) fun b z => absurd rfl z
  | none =>
    let Hs : Hp := fun b => if b = a then some (.frz { cls := .type "list", data := .seq vs.toArray } (.lst (ns.map V.int))) else none
    have yes : Hs a = some (.frz { cls := .type "list", data := .seq vs.toArray } (.lst (ns.map V.int))) := if_pos rfl
    have no : ∀ {b : Addr}, b ≠ a → Hs b = none := fun {b} h => if_neg h
    refine core Hs (fun b => ?_) (.inl (.inr ⟨_, yes⟩)) (fun b u z => ?_) fun b z => ⟨?_, hk⟩
    · by_cases hb : b = a
      · rw [hb, yes]
        exact .inr ⟨_, _, rfl⟩
      · exact .inl (no hb)
    · by_cases hb : b = a
      · rw [hb, yes] at z
        cases z
        rw [hb]
        exact ⟨ha, by rw [List.length_map]; exact hl, vs, _, rv, ha⟩
      · rw [no hb] at z
        cases z
    · by_cases hb : b = a
      · exact hb
      · exact absurd (no hb) z

/-- what the head leaves, by the law's promise -/
theorem walkG {l : PySem.W.OpenLaw} {n k : Nat} {q : Program} {loose : List Str} {XP : (Str → Option Value) → Heap → Prop} {YP : World → Heap → Prop} {d : DefRec} {K : Params → PySem.W.Frag} {sp : World → Sp} {x : Str}
    (hn : l.most = some n) (hn2 : n ≤ sizeLine) (hdf : d.params.defaults = []) (hr : RoomG k callerA)
    (hY : ∀ (w : World) (h : Heap), YP w h → (K w.params).In h)
    (F : ∀ (w : World) (mg : Str → Option Value) (fa : Addr) (h : Heap), (K w.params).In h → h.Ns mainGlobals mg → mg d.name = some (.ref fa) →
      ∃ fd : FuncData, (∀ (s : Shared) (u : Value), BindsTo s fd ⟨[u], []⟩ [(x, u)]) ∧
        ∀ base : Heap, (K w.params).In base → base.Ns mainGlobals mg → FnG l.prog w (K w.params) mg base CX0 k fa fd [x] (sp w))
    (hsp : ∀ (w : World) (H : Hp) (a : Addr) (ns : List Int), ns.length ≤ n → Only H → SqL (K w.params) H a (ns.map V.int) → sp w [.ref a] H (fun v _ => v = .bl true) fun _ _ _ => False) :
    PySem.W.WalkO q loose XP YP l.row.toRowW d [] (fun f vs => PySem.call f vs) := by
  refine Att.attach_call hn hdf fun w s₀ s₁ mg mb fa o pm cd doc a vs ns G Y _ _ _ hmg hobj hints hlen hg => ?_
  obtain ⟨fd, hb, hF⟩ := F w mg fa _ (hY w _ Y) G.T.g hmg
  exact lawG (hY w _ Y) G.T.g G.T.b G.T.builtins G.T.nolimit hg hobj hints (Nat.le_trans hlen hn2) hr hF hb fun H hO hS => hsp w H a ns hlen hO hS
end CF

set_option Elab.async false
set_option linter.all false
set_option maxRecDepth 100000
namespace CF
open PySem

/-! ## data: looks, equality, order, texts -/
namespace Dv
mutual
def toP : Dv → PyData
  | .non => .none
  | .bl b => .bool b
  | .int i => .int i
  | .str s => .str s
  | .tup xs => .tuple (toPs xs)
  | .lst xs => .list (toPs xs)
  | .dct ks vs => .dict ((toPs ks).zip (toPs vs))
  | .scr ns => .list (ns.map PyData.int)
  | .exc _ _ => .none
def toPs : List Dv → List PyData
  | [] => []
  | x :: xs => toP x :: toPs xs
end
mutual
/-- no dict, no error lies within -/
def plain : Dv → Bool
  | .non => true
  | .bl _ => true
  | .int _ => true
  | .str _ => true
  | .tup xs => plains xs
  | .lst xs => plains xs
  | .dct _ _ => false
  | .scr _ => false
  | .exc _ _ => false
def plains : List Dv → Bool
  | [] => true
  | x :: xs => plain x && plains xs
end
mutual
def depth : Dv → Nat
  | .non => 0
  | .bl _ => 0
  | .int _ => 0
  | .str _ => 0
  | .tup xs => depths xs + 1
  | .lst xs => depths xs + 1
  | .dct _ _ => 0
  | .scr _ => 0
  | .exc _ _ => 0
def depths : List Dv → Nat
  | [] => 0
  | x :: xs => max (depth x) (depths xs)
end
mutual
def beq : Dv → Dv → Bool
  | .non, .non => true
  | .bl a, .bl b => a == b
  | .bl a, .int j => (if a then 1 else 0) == j
  | .int i, .bl b => i == (if b then 1 else 0)
  | .int i, .int j => i == j
  | .str x, .str y => x == y
  | .lst xs, .lst ys => beqs xs ys
  | .tup xs, .tup ys => beqs xs ys
  | _, _ => false
def beqs : List Dv → List Dv → Bool
  | [], [] => true
  | x :: xs, y :: ys => beq x y && beqs xs ys
  | _, _ => false
end
mutual
theorem toP_plain : ∀ d : Dv, d.plain = true → d.toP.plain = true
  | .non, _ => rfl
  | .bl _, _ => rfl
  | .int _, _ => rfl
  | .str _, _ => rfl
  | .tup xs, h => by
    simp only [plain] at h
    simp only [toP, PyData.plain]
    exact toPs_plain xs h
  | .lst xs, h => by
    simp only [plain] at h
    simp only [toP, PyData.plain]
    exact toPs_plain xs h
  | .dct _ _, h => nomatch h
  | .scr _, h => nomatch h
  | .exc _ _, h => nomatch h
theorem toPs_plain : ∀ xs : List Dv, plains xs = true → PyData.plainAll (toPs xs) = true
  | [], _ => rfl
  | x :: xs, h => by
    simp only [plains, Bool.and_eq_true] at h
    simp only [toPs, PyData.plainAll, toP_plain x h.1, toPs_plain xs h.2, Bool.and_self]
end
mutual
theorem toP_depth : ∀ d : Dv, d.plain = true → d.toP.depth = d.depth
  | .non, _ => rfl
  | .bl _, _ => rfl
  | .int _, _ => rfl
  | .str _, _ => rfl
  | .tup xs, h => by
    simp only [plain] at h
    simp only [toP, PyData.depth, depth]
    exact congrArg (· + 1) (toPs_depth xs h)
  | .lst xs, h => by
    simp only [plain] at h
    simp only [toP, PyData.depth, depth]
    exact congrArg (· + 1) (toPs_depth xs h)
  | .dct _ _, h => nomatch h
  | .scr _, h => nomatch h
  | .exc _ _, h => nomatch h
theorem toPs_depth : ∀ xs : List Dv, plains xs = true → PyData.depthAll (toPs xs) = depths xs
  | [], _ => rfl
  | x :: xs, h => by
    simp only [plains, Bool.and_eq_true] at h
    simp only [toPs, PyData.depthAll, depths, toP_depth x h.1, toPs_depth xs h.2]
end
mutual
theorem eqv_beq : ∀ x y : Dv, x.plain = true → y.plain = true → PyData.eqv x.toP y.toP = beq x y
  | .non, y, _, h => by cases y <;> first | rfl | cases h
  | .bl _, y, _, h => by cases y <;> first | rfl | cases h
  | .int _, y, _, h => by cases y <;> first | rfl | cases h
  | .str _, y, _, h => by cases y <;> first | rfl | cases h
  | .tup xs, y, hx, h => by
    cases y with
    | tup ys =>
      simp only [plain] at hx h
      simp only [toP, PyData.eqv, beq]
      exact eqvs_beqs xs ys hx h
    | _ => first | rfl | cases h
  | .lst xs, y, hx, h => by
    cases y with
    | lst ys =>
      simp only [plain] at hx h
      simp only [toP, PyData.eqv, beq]
      exact eqvs_beqs xs ys hx h
    | _ => first | rfl | cases h
  | .dct _ _, _, h, _ => nomatch h
  | .scr _, _, h, _ => nomatch h
  | .exc _ _, _, h, _ => nomatch h
theorem eqvs_beqs : ∀ xs ys : List Dv, plains xs = true → plains ys = true → PyData.eqvAll (toPs xs) (toPs ys) = beqs xs ys
  | [], [], _, _ => rfl
  | [], _ :: _, _, _ => rfl
  | _ :: _, [], _, _ => rfl
  | x :: xs, y :: ys, hx, hy => by
    simp only [plains, Bool.and_eq_true] at hx hy
    simp only [toPs, PyData.eqvAll, beqs, eqv_beq x y hx.1 hy.1, eqvs_beqs xs ys hx.2 hy.2]
end
theorem toPs_map : ∀ xs : List Dv, toPs xs = xs.map toP
  | [] => rfl
  | x :: xs => by rw [toPs, toPs_map xs, List.map_cons]
theorem any_beq (xs : List Dv) (d : Dv) (hx : plains xs = true) (hd : d.plain = true) : (toPs xs).any (fun y => PyData.eqv y d.toP) = xs.any fun y => beq y d := by
  induction xs with
  | nil => rfl
  | cons x xs ih =>
    simp only [plains, Bool.and_eq_true] at hx
    simp only [toPs, List.any_cons, eqv_beq x d hx.1 hd, ih hx.2]

mutual
/-- no list, no dict, no error within -/
def bare : Dv → Bool
  | .non => true
  | .bl _ => true
  | .int _ => true
  | .str _ => true
  | .tup xs => bares xs
  | .lst _ => false
  | .dct _ _ => false
  | .scr _ => false
  | .exc _ _ => false
def bares : List Dv → Bool
  | [] => true
  | x :: xs => bare x && bares xs
end
def shows (d : PyData) : Bool := d.showable && decide (d.shown.length ≤ 16777216) && decide (d.depth ≤ 100)
/-- what repr shows, but of an error -/
def lookP (d : Dv) : Option PyData := match d with
  | .dct ks vs => if bares ks && bares vs && decide (ks.length = vs.length) then some (toP (.dct ks vs)) else none
  | d => if d.plain then some d.toP else none
/-- repr -/
def reprD (d : Dv) : Option Str := match d with
  | .exc c v => (lookP v).bind fun p => if shows p && decide (c.length ≤ 1000) && decide (p.shown.length ≤ 1000000) then some (c ++ ("(" : Str) ++ p.shown ++ (")" : Str)) else none
  | d => (lookP d).bind fun p => if shows p then some p.shown else none
end Dv

/-! ## the small language -/
inductive Ty where | int | bool | str | tuple | list | dict deriving DecidableEq
inductive Pr where
  | bin (o : Operator) | cmp (o : CmpOp)
  | neg | isN (neg : Bool)
  | tup | lst
  | ix | sl (lo hi : Bool) | rev
  | len | int | str | repr | abs | sum | all | any | sorted
  | list | tuple | rngL1 | rngL2
  | min2 | max2 | min1 | max1
  | isi (t : Ty) | isc (c : Str) | isv (n : String)
  | mk (c : Str) | attr
  | join | upper | index | count
  | tupS (fl : List Bool) | lstS (fl : List Bool) | lenset | isT (b : Bool)
  | dct0 | dct1 (k : Str)
  deriving DecidableEq

inductive Tg where
  | n (i : Nat)
  | two (a b : Tg)
  | three (a b c : Tg)
  | four (a b c d : Tg)

mutual
inductive Ex where
  | var (i : Nat)
  | cst (c : Const)
  | glb (x : Str) (k : Const)
  | pr (p : Pr) (as : Ops)
  | and (a b : Ex)
  | or (a b : Ex)
  | not (a : Ex)
  | ite (c a b : Ex)
  | chain (o1 o2 : CmpOp) (a b c : Op)
  | call (g : Nat) (as : Ops)
  | callK (g : Nat) (as ks : Ops) (names : List Str)
  | callF (g : Nat) (as : Ops)
  | callT (g : Nat) (a : Ex)
  | comp (elt : Ex) (tg : Tg) (it : It) (ifs : List Ex) (own : List Nat)
  | dget (i : Nat) (k : Ex)
  | din (neg : Bool) (i : Nat) (k : Ex)
inductive Op where
  | o (i : Nat)
  | e (x : Ex)
inductive Ops where
  | nil
  | cons (a : Op) (as : Ops)
inductive It where
  | seq (a : Op)
  | rng1 (a : Ex)
  | rng2 (a b : Ex)
  | zip (a b : Op)
  | enum (a : Op)
  | ez (a b : Op)
end
mutual
inductive Sm where
  | set (tg : Tg) (e : Ex)
  | own (i : Nat) (e : Ex)
  | par (ts : List (Nat × Bool)) (es : List Ex)
  | aug (i : Nat) (o : Operator) (e : Ex)
  | put (i : Nat) (k e : Ex)
  | dnew (i : Nat)
  | dput (i : Nat) (k e : Ex)
  | app (i : Nat) (e : Ex)
  | ext (i : Nat) (a : Op)
  | ex (e : Ex)
  | ret (e : Ex)
  | retN
  | ite (c : Ex) (a b : Sms)
  | for_ (tg : Tg) (it : It) (b : Sms)
  | while_ (c : Ex) (b : Sms)
  | brk | cont | pass
  | never
inductive Sms where
  | nil
  | cons (s : Sm) (ss : Sms)
end

/-! ## what an operation on data gives -/
def mulOk (i j : Int) : Bool := decide (i.natAbs.log2 + j.natAbs.log2 < 1000000)
def short (n : Nat) : Bool := decide (n ≤ 16777216)
def cutD {α : Type} (xs : List α) (lo hi : Option Int) : List α := (xs.drop (HT.sIx xs.length 0 lo)).take (HT.sIx xs.length xs.length hi - HT.sIx xs.length 0 lo)
def strCut (s : Str) (lo hi : Option Int) : Str := L2.cutS s lo hi

def binD : Operator → Dv → Dv → Option Dv
  | .Add, .int i, .int j => some (.int (i + j))
  | .Add, .str x, .str y => if short (x.length + y.length) then some (.str (x ++ y)) else none
  | .Add, .lst xs, .lst ys => if short (xs.length + ys.length) then some (.lst (xs ++ ys)) else none
  | .Add, .tup xs, .tup ys => if short (xs.length + ys.length) then some (.tup (xs ++ ys)) else none
  | .Sub, .int i, .int j => some (.int (i - j))
  | .Mult, .int i, .int j => if mulOk i j then some (.int (i * j)) else none
  | .Mult, .lst xs, .int k => if decide (0 ≤ k) && decide (k ≤ 16777216) && short (xs.length * k.toNat) then some (.lst (List.replicate k.toNat xs).flatten) else none
  | .Mult, .tup xs, .int k => if decide (2 ≤ k) && decide (k ≤ 1000) && decide (xs.length ≤ 1000) && decide (0 < xs.length) then some (.tup (List.replicate k.toNat xs).flatten) else none
  | .Mod, .int i, .int j => if 0 < j then some (.int (i % j)) else none
  | .FloorDiv, .int i, .int j => if 0 < j ∧ j.natAbs.log2 < 9000 then some (.int (i / j)) else none
  | .Pow, .int i, .int j => if 0 ≤ j ∧ (i.natAbs.log2 + 1) * j.toNat ≤ 2 ^ 27 then some (.int (i ^ j.toNat)) else none
  | _, _, _ => none

def eqD (x y : Dv) : Option Bool := if x.plain && y.plain && decide (min x.depth y.depth ≤ 100) then some (Dv.beq x y) else none
def inD (x : Dv) (xs : List Dv) : Option Bool := if x.plain && Dv.plains xs && decide (min (Dv.depths xs) x.depth ≤ 100) then some (xs.any fun y => Dv.beq y x) else none
def ltD (x y : Dv) : Option Bool := if x.plain && y.plain && PySem.W.alike x.toP y.toP && decide (min x.depth y.depth ≤ 100) && (match x with | .non => false | _ => true) then some (PySem.W.dataLt x.toP y.toP) else none
def orD (f : Int → Int → Bool) (g : Option Bool) : Dv → Dv → Option Bool
  | .int i, .int j => some (f i j)
  | _, _ => g
/-- one sign in a text -/
def inS : Str → Str → Option Bool
  | s, z => match s.cps.toList with
    | [c] => some (decide (c ∈ z.cps.toList))
    | _ => none
def inQ (x y : Dv) : Option Bool := match y with
  | .lst xs => inD x xs
  | .tup xs => inD x xs
  | .str z => (match x with | .str s => inS s z | _ => none)
  | _ => none
def cmpD (o : CmpOp) (x y : Dv) : Option Bool := match o with
  | .Eq => eqD x y
  | .NotEq => (eqD x y).map (!·)
  | .Lt => orD (fun i j => decide (i < j)) (ltD x y) x y
  | .LtE => orD (fun i j => decide (i ≤ j)) ((ltD y x).map (!·)) x y
  | .Gt => orD (fun i j => decide (j < i)) (ltD y x) x y
  | .GtE => orD (fun i j => decide (j ≤ i)) ((ltD x y).map (!·)) x y
  | .In => inQ x y
  | .NotIn => (inQ x y).map (!·)
  | .Is => none
  | .IsNot => none
def ixD : Dv → Dv → Option Dv
  | .lst xs, .int i => L2.atI xs i
  | .tup xs, .int i => L2.atI xs i
  | .scr ns, .int i => (L2.atI ns i).map .int
  | .str s, .int i => if short s.length then (L2.atI s.cps.toList i).map fun c => .str ⟨#[c]⟩ else none
  | _, _ => none
def slD : Dv → Option Int → Option Int → Option Dv
  | .lst xs, lo, hi => some (.lst (cutD xs lo hi))
  | .tup xs, lo, hi => some (.tup (cutD xs lo hi))
  | .scr ns, lo, hi => some (.lst ((cutD ns lo hi).map .int))
  | .str s, lo, hi => if short s.length then some (.str (strCut s lo hi)) else none
  | _, _, _ => none
def isTy : Ty → Dv → Bool
  | .int, .int _ => true
  | .int, .bl _ => true
  | .bool, .bl _ => true
  | .str, .str _ => true
  | .tuple, .tup _ => true
  | .list, .lst _ => true
  | .list, .scr _ => true
  | .dict, .dct _ _ => true
  | _, _ => false
def intsOf : List Dv → Option (List Int)
  | [] => some []
  | .int i :: r => (intsOf r).map (i :: ·)
  | _ => none
def blsOf : List Dv → Option (List Bool)
  | [] => some []
  | .bl i :: r => (blsOf r).map (i :: ·)
  | _ => none
def strsOf : List Dv → Option (List Str)
  | [] => some []
  | .str i :: r => (strsOf r).map (i :: ·)
  | _ => none
def seqOf : Dv → Option (List Dv)
  | .lst xs => some xs
  | .tup xs => some xs
  | _ => none
/-- what is gone through -/
def itOf : Dv → Option (List Dv)
  | .lst xs => some xs
  | .tup xs => some xs
  | .str s => some (s.cps.toList.map fun c => .str ⟨#[c]⟩)
  | _ => none
def zipD (xs ys : List Dv) : List Dv := (xs.zip ys).map fun p => .tup [p.1, p.2]
def enumD : Nat → List Dv → List Dv
  | _, [] => []
  | n, x :: xs => .tup [.int (n : Int), x] :: enumD (n + 1) xs
def rngD (a b : Int) : Option (List Dv) := if decide (-(2 ^ 62) ≤ a) && decide (a < 2 ^ 62) && decide (-(2 ^ 62) ≤ b) && decide (b < 2 ^ 62) then some ((List.range (b - a).toNat).map fun (k : Nat) => .int (a + (k : Int))) else none

def augD (o : Operator) (x y : Dv) : Option Dv := match o, x, y with
  | .Add, .int i, .int j => some (.int (i + j))
  | .Add, .str x, .str y => if short (x.length + y.length) then some (.str (x ++ y)) else none
  | .Sub, .int i, .int j => some (.int (i - j))
  | .Mult, .int i, .int j => if mulOk i j then some (.int (i * j)) else none
  | _, _, _ => none
def negD : Dv → Option Dv
  | .int i => some (.int (-i))
  | _ => none
def isNon : Dv → Bool
  | .non => true
  | _ => false
def revD : Dv → Option Dv
  | .lst xs => some (.lst xs.reverse)
  | .tup xs => some (.tup xs.reverse)
  | _ => none
def lenD : Dv → Option Dv
  | .lst xs => some (.int xs.length)
  | .tup xs => some (.int xs.length)
  | .scr xs => some (.int xs.length)
  | .str s => if short s.length then some (.int s.length) else none
  | _ => none
def intD : Dv → Option Dv
  | .int i => some (.int i)
  | .bl b => some (.int (if b then 1 else 0))
  | _ => none
def absD : Dv → Option Dv
  | .int i => some (.int i.natAbs)
  | _ => none
def lstOf : Dv → Option (List Dv)
  | .lst xs => some xs
  | _ => none
def sumD (x : Dv) : Option Dv := (lstOf x).bind fun xs => (intsOf xs).map fun ns => .int ns.sum
def allD (x : Dv) : Option Dv := (lstOf x).bind fun xs => (blsOf xs).map fun ns => .bl (ns.all id)
def anyD (x : Dv) : Option Dv := (lstOf x).bind fun xs => (blsOf xs).map fun ns => .bl (ns.any id)
def rngL (a b : Int) : Option Dv := (rngD a b).bind fun xs => if short xs.length then some (.lst xs) else none
def rng1D : Dv → Option Dv
  | .int b => rngL 0 b
  | _ => none
def rng2D : Dv → Dv → Option Dv
  | .int a, .int b => rngL a b
  | _, _ => none
def okDepth (x y : Dv) : Bool := decide (x.depth ≤ 100) && decide (y.depth ≤ 100)
def minD : Dv → Dv → Option Dv
  | .int a, .int b => some (.int (min a b))
  | .tup xs, .tup ys => if okDepth (.tup xs) (.tup ys) then (ltD (.tup ys) (.tup xs)).map fun c => if c then .tup ys else .tup xs else none
  | _, _ => none
def maxD : Dv → Dv → Option Dv
  | .int a, .int b => some (.int (max a b))
  | .tup xs, .tup ys => if okDepth (.tup xs) (.tup ys) then (ltD (.tup xs) (.tup ys)).map fun c => if c then .tup ys else .tup xs else none
  | _, _ => none
/-- two at most, sorted (tuples that are not empty) -/
def sort2 : List Dv → Option (List Dv)
  | [.tup (x :: a), .tup (y :: b)] => if okDepth (.tup (x :: a)) (.tup (y :: b)) then (ltD (.tup (y :: b)) (.tup (x :: a))).map fun c => if c then [.tup (y :: b), .tup (x :: a)] else [.tup (x :: a), .tup (y :: b)] else none
  | _ => none
def sortD : Dv → Option Dv
  | .lst xs => (sort2 xs).map .lst
  | .tup xs => (sort2 xs).map .lst
  | _ => none
def strD : Dv → Option Dv
  | .int i => if i.natAbs.log2 < 1920 then some (.str (toString i)) else none
  | .str s => some (.str s)
  | _ => none
def upperD : Dv → Option Dv
  | .str s => if decide (s.length ≤ 5592405) then some (.str (Txt.upper s)) else none
  | _ => none
def joinD : Dv → Dv → Option Dv
  | .str a, .lst xs => (strsOf xs).bind fun ys => if decide ((ys.map (·.length)).sum + ys.length * a.length ≤ 16777216) then some (.str (Txt.join a ys)) else none
  | _, _ => none
mutual
/-- no text within -/
def noText : NestedKey → Bool
  | .none => true
  | .num _ => true
  | .text _ => false
  | .tup ks => noTexts ks
def noTexts : List NestedKey → Bool
  | [] => true
  | k :: ks => noText k && noTexts ks
end
def uniq : List NestedKey → List NestedKey
  | [] => []
  | k :: ks => if k ∈ ks then uniq ks else k :: uniq ks
/-- how many different ones: below 64 tuples -/
def lenSetD : Dv → Option Dv
  | .lst xs => if decide (xs.length < 64) && (xs.all fun x => match x with | .tup _ => true | _ => false) then (keysOf xs).bind fun ks => if ks.all fun k => decide (k.depth ≤ 8) && noText k then some (.int ((uniq ks).length : Nat)) else none else none
  | _ => none
/-- starred ones among the items -/
def starD : List Bool → List Dv → Option (List Dv)
  | [], [] => some []
  | true :: fl, x :: xs => match itOf x, starD fl xs with
    | some ys, some zs => some (ys ++ zs)
    | _, _ => none
  | false :: fl, x :: xs => (starD fl xs).map (x :: ·)
  | _, _ => none
def isiD (t : Ty) (x : Dv) : Option Dv := match x with
  | .exc _ _ => none
  | x => some (.bl (isTy t x))
def iscD (c : Str) : Dv → Option Dv
  | .exc k _ => some (.bl (decide (k = c) || decide (c = ("CreaseError" : Str))))
  | _ => none
def isvD : Dv → Option Dv
  | .exc _ _ => some (.bl true)
  | _ => none
def attrD : Dv → Option Dv
  | .exc _ x => some x
  | _ => none
def asInt : Dv → Option Int
  | .int i => some i
  | _ => none
def pr1 (p : Pr) (x : Dv) : Option Dv := match p with
  | .neg => negD x
  | .isN n => some (.bl (if n then !isNon x else isNon x))
  | .sl false false => slD x none none
  | .rev => revD x
  | .len => lenD x
  | .int => intD x
  | .repr => x.reprD.map .str
  | .abs => absD x
  | .sum => sumD x
  | .all => allD x
  | .any => anyD x
  | .list => (seqOf x).map .lst
  | .tuple => (seqOf x).map .tup
  | .rngL1 => rng1D x
  | .isi t => isiD t x
  | .isc c => iscD c x
  | .isv _ => isvD x
  | .mk c => some (.exc c x)
  | .attr => attrD x
  | .str => strD x
  | .upper => upperD x
  | .sorted => sortD x
  | .lenset => lenSetD x
  | _ => none
def pr2 (p : Pr) (x y : Dv) : Option Dv := match p with
  | .bin o => binD o x y
  | .cmp o => (cmpD o x y).map .bl
  | .ix => ixD x y
  | .sl true false => (asInt y).bind fun i => slD x (some i) none
  | .sl false true => (asInt y).bind fun i => slD x none (some i)
  | .rngL2 => rng2D x y
  | .min2 => minD x y
  | .max2 => maxD x y
  | .join => joinD x y
  | _ => none
def pr3 (p : Pr) (x y z : Dv) : Option Dv := match p with
  | .sl true true => (asInt y).bind fun i => (asInt z).bind fun j => slD x (some i) (some j)
  | _ => none
def prS (p : Pr) (ds : List Dv) : Option Dv := match ds with
  | [x] => pr1 p x
  | [x, y] => pr2 p x y
  | [x, y, z] => pr3 p x y z
  | _ => none
def prD (p : Pr) (ds : List Dv) : Option Dv := match p with
  | .tup => if short ds.length then some (.tup ds) else none
  | .lst => if short ds.length then some (.lst ds) else none
  | .tupS fl => (starD fl ds).bind fun xs => if short xs.length then some (.tup xs) else none
  | .lstS fl => (starD fl ds).bind fun xs => if short xs.length then some (.lst xs) else none
  | .dct0 => (match ds with | [] => some (.dct [] []) | _ => none)
  | .dct1 k => (match ds with | [x] => some (.dct [.str k] [x]) | _ => none)
  | p => prS p ds

/-! ## running -/
abbrev Tab := Nat → List Dv → Option (Dv × List (List Dv))
def dicL (η : Env) (i : Nat) : Option (List (Dv × Dv)) := match η[i]? with
  | some (.dic kvs) => some kvs
  | _ => none
/-- what a dict leads to from a key -/
def dfind (k : NestedKey) : List (Dv × Dv) → Option Dv
  | [] => none
  | p :: r => if keyOf p.1 = some k then some p.2 else dfind k r
def dstore (k : NestedKey) (d v : Dv) : List (Dv × Dv) → List (Dv × Dv)
  | [] => [(d, v)]
  | p :: r => if keyOf p.1 = some k then (p.1, v) :: r else p :: dstore k d v r
/-- a tuple as a key -/
def tkey (d : Dv) : Option NestedKey := match d with
  | .tup xs => (keyOf (.tup xs)).bind fun k => if k.depth ≤ 8 then some k else none
  | _ => none
def ownL (η : Env) (i : Nat) : Option (List Dv) := match η[i]? with
  | some (.lst _ xs) => some xs
  | _ => none
def finO : Op → Dv → Env → Option Dv
  | .o i, _, η => (ownL η i).map .lst
  | .e _, d, _ => some d
def finOs : Ops → List Dv → Env → Option (List Dv)
  | .nil, [], _ => some []
  | .cons a as, d :: ds, η => match finO a d η, finOs as ds η with
    | some x, some xs => some (x :: xs)
    | _, _ => none
  | _, _, _ => none
/-- what a slot gives that is read for good: a list of its own is frozen -/
def rdVar (η : Env) (i : Nat) : Option (Dv × Env) := match η[i]? with
  | some (.dat d) => some (d, η)
  | some (.lst false xs) => some (.lst xs, η.set i (.dat (.lst xs)))
  | _ => none
def cstD : Const → Option Dv
  | .none => some .non
  | .bool b => some (.bl b)
  | .int i => some (.int i)
  | .str s => some (.str s)
  | _ => none
/-- a slot may be stored to: not a lent list -/
def free (η : Env) (i : Nat) : Bool := match η[i]? with
  | some (.lst true _) => false
  | some _ => true
  | none => false
def setTg : Tg → Dv → Env → Option Env
  | .n i, d, η => if free η i then some (η.set i (.dat d)) else none
  | .two a b, .tup [x, y], η => (setTg a x η).bind (setTg b y)
  | .three a b c, .tup [x, y, z], η => ((setTg a x η).bind (setTg b y)).bind (setTg c z)
  | .four a b c d, .tup [x, y, z, w], η => (((setTg a x η).bind (setTg b y)).bind (setTg c z)).bind (setTg d w)
  | _, _, _ => none
/-- lent lists come back -/
def backOs : Ops → List (List Dv) → Env → Option Env
  | .nil, [], η => some η
  | .cons (.o i) as, ys :: r, η => match η[i]? with
    | some (.lst br _) => backOs as r (η.set i (.lst br ys))
    | _ => none
  | .cons (.e _) as, r, η => backOs as r η
  | _, _, _ => none
def wipeE (η : Env) : List Nat → Env
  | [] => η
  | v :: vs => (wipeE η vs).set v .no
/-- the comprehension's own slots as they were -/
def unwipe (η0 η : Env) : List Nat → Env
  | [] => η
  | v :: vs => match η0[v]? with
    | some sv => (unwipe η0 η vs).set v sv
    | none => unwipe η0 η vs
def noOwn (η : Env) (vs : List Nat) : Bool := vs.all fun v => match η[v]? with
  | some sv => !sv.own
  | none => true
def compL (test : Env → Option (Bool × Env)) (elt : Env → Option (Dv × Env)) (tg : Tg) (own : List Nat) : List Dv → List Dv → Env → Option (List Dv × Env)
  | [], acc, η => some (acc, η)
  | d :: ds, acc, η => match setTg tg d η with
    | none => none
    | some η1 => match test η1 with
      | none => none
      | some (false, η2) => if noOwn η2 own then compL test elt tg own ds acc (wipeE η2 own) else none
      | some (true, η2) => match elt η2 with
        | none => none
        | some (x, η3) => if decide (acc.length < 16777216) && noOwn η3 own then compL test elt tg own ds (acc ++ [x]) (wipeE η3 own) else none
def testL (t : List (Env → Option (Dv × Env))) (η : Env) : Option (Bool × Env) := match t with
  | [] => some (true, η)
  | f :: r => match f η with
    | some (.bl true, η1) => testL r η1
    | some (.bl false, η1) => some (false, η1)
    | _ => none
mutual
def evE (Γ : Tab) : Ex → Env → Option (Dv × Env)
  | .var i, η => rdVar η i
  | .cst c, η => (cstD c).map (·, η)
  | .glb _ k, η => (cstD k).map (·, η)
  | .pr p as, η => match evOs Γ as η with
    | none => none
    | some (ds, η1) => match finOs as ds η1 with
      | none => none
      | some ds' => (prD p ds').map (·, η1)
  | .and a b, η => match evE Γ a η with
    | some (.bl true, η1) => evE Γ b η1
    | some (.bl false, η1) => some (.bl false, η1)
    | _ => none
  | .or a b, η => match evE Γ a η with
    | some (.bl true, η1) => some (.bl true, η1)
    | some (.bl false, η1) => evE Γ b η1
    | _ => none
  | .not a, η => match evE Γ a η with
    | some (.bl b, η1) => some (.bl (!b), η1)
    | _ => none
  | .ite c a b, η => match evE Γ c η with
    | some (.bl true, η1) => evE Γ a η1
    | some (.bl false, η1) => evE Γ b η1
    | _ => none
  | .chain o1 o2 a b c, η => match evO Γ a η with
    | none => none
    | some (x, η1) => match evO Γ b η1 with
      | none => none
      | some (y, η2) => match finO a x η2, finO b y η2 with
        | some x', some y' => match cmpD o1 x' y' with
          | some false => some (.bl false, η2)
          | some true => match evO Γ c η2 with
            | none => none
            | some (z, η3) => match finO b y η3, finO c z η3 with
              | some y2, some z2 => (cmpD o2 y2 z2).map fun r => (.bl r, η3)
              | _, _ => none
          | none => none
        | _, _ => none
  | .call g as, η => match evOs Γ as η with
    | none => none
    | some (ds, η1) => match finOs as ds η1 with
      | none => none
      | some ds' => match Γ g ds' with
        | none => none
        | some (d, outs) => (backOs as outs η1).map (d, ·)
  | .callK g as ks _, η => match evOs Γ as η with
    | none => none
    | some (ds, η1) => match evOs Γ ks η1 with
      | none => none
      | some (es, η2) => match finOs as ds η2, finOs ks es η2 with
        | some ds', some es' => match Γ g (ds' ++ es') with
          | none => none
          | some (d, outs) => (backOs as outs η2).map (d, ·)
        | _, _ => none
  | .callF g as, η => match evOs Γ as η with
    | none => none
    | some (ds, η1) => match finOs as ds η1 with
      | none => none
      | some ds' => match Γ g ds' with
        | some (.lst xs, outs) => (backOs as outs η1).map (.lst xs, ·)
        | _ => none
  | .callT g a, η => match evE Γ a η with
    | some (.lst xs, η1) => match Γ g [.lst xs] with
      | some (d, _) => some (d, η1)
      | none => none
    | _ => none
  | .comp elt tg it ifs own, η => match evI Γ it η with
    | none => none
    | some (ds, η1) => if noOwn η1 own then match compL (testL (evTs Γ ifs)) (evE Γ elt) tg own ds [] (wipeE η1 own) with
        | none => none
        | some (xs, η2) => some (.lst xs, unwipe η1 η2 own)
      else none
  | .dget i k, η => match dicL η i with
    | none => none
    | some _ => match evE Γ k η with
      | none => none
      | some (d, η1) => match tkey d, dicL η1 i with
        | some kk, some kvs => (dfind kk kvs).map (·, η1)
        | _, _ => none
  | .din neg i k, η => match evE Γ k η with
    | none => none
    | some (d, η1) => match tkey d, dicL η1 i with
      | some kk, some kvs => some (.bl (xor neg (dfind kk kvs).isSome), η1)
      | _, _ => none
def evTs (Γ : Tab) : List Ex → List (Env → Option (Dv × Env))
  | [] => []
  | e :: es => evE Γ e :: evTs Γ es
def evO (Γ : Tab) : Op → Env → Option (Dv × Env)
  | .o i, η => (ownL η i).map fun xs => (.lst xs, η)
  | .e x, η => evE Γ x η
def evOs (Γ : Tab) : Ops → Env → Option (List Dv × Env)
  | .nil, η => some ([], η)
  | .cons a as, η => match evO Γ a η with
    | none => none
    | some (x, η1) => match evOs Γ as η1 with
      | none => none
      | some (xs, η2) => some (x :: xs, η2)
def evI (Γ : Tab) : It → Env → Option (List Dv × Env)
  | .seq a, η => match evO Γ a η with
    | some (d, η1) => (itOf d).map (·, η1)
    | none => none
  | .rng1 a, η => match evE Γ a η with
    | some (.int b, η1) => (rngD 0 b).map (·, η1)
    | _ => none
  | .zip a b, η => match evO Γ a η with
    | none => none
    | some (x, η1) => match evO Γ b η1 with
      | none => none
      | some (y, η2) => match finO a x η2, finO b y η2 with
        | some (.lst xs), some (.lst ys) => some (zipD xs ys, η2)
        | _, _ => none
  | .enum a, η => match evO Γ a η with
    | some (x, η1) => match finO a x η1 with
      | some (.lst xs) => some (enumD 0 xs, η1)
      | _ => none
    | none => none
  | .ez a b, η => match evO Γ a η with
    | none => none
    | some (x, η1) => match evO Γ b η1 with
      | none => none
      | some (y, η2) => match finO a x η2, finO b y η2 with
        | some (.lst xs), some (.lst ys) => some (enumD 0 (zipD xs ys), η2)
        | _, _ => none
  | .rng2 a b, η => match evE Γ a η with
    | some (.int i, η1) => match evE Γ b η1 with
      | some (.int j, η2) => (rngD i j).map (·, η2)
      | _ => none
    | _ => none
end

inductive Fl where
  | nx | ret (d : Dv) | bk | ct
def runL : List (Env → Option (Dv × Env)) → Env → Option (List Dv × Env)
  | [], η => some ([], η)
  | f :: r, η => match f η with
    | none => none
    | some (x, η1) => match runL r η1 with
      | none => none
      | some (xs, η2) => some (x :: xs, η2)
def setPar : List (Nat × Bool) → List Dv → Env → Option Env
  | [], [], η => some η
  | (i, true) :: r, .lst xs :: ds, η => if free η i then setPar r ds (η.set i (.lst false xs)) else none
  | (i, false) :: r, d :: ds, η => if free η i then setPar r ds (η.set i (.dat d)) else none
  | _, _, _ => none
def forL (tg : Tg) (body : Env → Option (Fl × Env)) : List Dv → Env → Option (Fl × Env)
  | [], η => some (.nx, η)
  | d :: ds, η => match setTg tg d η with
    | none => none
    | some η1 => match body η1 with
      | some (.nx, η2) => forL tg body ds η2
      | some (.ct, η2) => forL tg body ds η2
      | some (.bk, η2) => some (.nx, η2)
      | some (.ret x, η2) => some (.ret x, η2)
      | none => none
def whileL (test : Env → Option (Dv × Env)) (body : Env → Option (Fl × Env)) : Nat → Env → Option (Fl × Env)
  | 0, _ => none
  | n + 1, η => match test η with
    | some (.bl true, η1) => match body η1 with
      | some (.nx, η2) => whileL test body n η2
      | some (.ct, η2) => whileL test body n η2
      | some (.bk, η2) => some (.nx, η2)
      | some (.ret x, η2) => some (.ret x, η2)
      | none => none
    | some (.bl false, η1) => some (.nx, η1)
    | _ => none
mutual
def evS (Γ : Tab) (fu : Nat) : Sm → Env → Option (Fl × Env)
  | .set tg e, η => match evE Γ e η with
    | none => none
    | some (d, η1) => (setTg tg d η1).map (.nx, ·)
  | .own i e, η => match evE Γ e η with
    | some (.lst xs, η1) => if free η1 i then some (.nx, η1.set i (.lst false xs)) else none
    | _ => none
  | .par ts es, η => match runL (evTs Γ es) η with
    | none => none
    | some (ds, η1) => (setPar ts ds η1).map (.nx, ·)
  | .aug i o e, η => match η[i]? with
    | some (.dat d) => match evE Γ e η with
      | none => none
      | some (x, η1) => (augD o d x).map fun r => (.nx, η1.set i (.dat r))
    | _ => none
  | .put i k e, η => match evE Γ e η with
    | none => none
    | some (x, η1) => match η1[i]? with
      | some (.lst _ _) => match evE Γ k η1 with
        | some (.int j, η2) => match η2[i]? with
          | some (.lst br xs) => (L2.ixN xs.length j).map fun n => (.nx, η2.set i (.lst br (xs.set n x)))
          | _ => none
        | _ => none
      | _ => none
  | .dnew i, η => if free η i then some (.nx, η.set i (.dic [])) else none
  | .dput i k e, η => match evE Γ e η with
    | none => none
    | some (x, η1) => match dicL η1 i with
      | none => none
      | some _ => match evE Γ k η1 with
        | none => none
        | some (d, η2) => match tkey d, dicL η2 i with
          | some kk, some kvs => if decide (kvs.length < 16777216) then some (.nx, η2.set i (.dic (dstore kk d x kvs))) else none
          | _, _ => none
  | .app i e, η => match η[i]? with
    | some (.lst _ _) => match evE Γ e η with
      | none => none
      | some (x, η1) => match η1[i]? with
        | some (.lst br xs) => if decide (xs.length < 16777216) then some (.nx, η1.set i (.lst br (xs ++ [x]))) else none
        | _ => none
    | _ => none
  | .ext i a, η => match evO Γ a η with
    | none => none
    | some (x, η1) => match finO a x η1, η1[i]? with
      | some (.lst ys), some (.lst br xs) => if short (xs.length + ys.length) then some (.nx, η1.set i (.lst br (xs ++ ys))) else none
      | _, _ => none
  | .ex e, η => (evE Γ e η).map fun r => (.nx, r.2)
  | .ret e, η => (evE Γ e η).map fun r => (.ret r.1, r.2)
  | .retN, η => some (.ret .non, η)
  | .ite c a b, η => match evE Γ c η with
    | some (.bl true, η1) => evSs Γ fu a η1
    | some (.bl false, η1) => evSs Γ fu b η1
    | _ => none
  | .for_ tg it b, η => match evI Γ it η with
    | none => none
    | some (ds, η1) => forL tg (evSs Γ fu b) ds η1
  | .while_ c b, η => whileL (evE Γ c) (evSs Γ fu b) fu η
  | .brk, η => some (.bk, η)
  | .cont, η => some (.ct, η)
  | .pass, η => some (.nx, η)
  | .never, _ => none
def evSs (Γ : Tab) (fu : Nat) : Sms → Env → Option (Fl × Env)
  | .nil, η => some (.nx, η)
  | .cons s ss, η => match evS Γ fu s η with
    | some (.nx, η1) => evSs Γ fu ss η1
    | r => r
end
/-! ## a def called -/
def initE : List Bool → List Dv → Option Env
  | [], [] => some []
  | true :: r, .lst xs :: ds => (initE r ds).map (.lst true xs :: ·)
  | false :: r, d :: ds => (initE r ds).map (.dat d :: ·)
  | _, _ => none
def outsE : List Bool → Env → Option (List (List Dv))
  | [], _ => some []
  | true :: r, .lst true xs :: η => (outsE r η).map (xs :: ·)
  | false :: r, _ :: η => outsE r η
  | _, _ => none
/-- the lent lists come first among the outs: those of the lent parameters, in their order -/
def runFn (Γ : Tab) (fu n : Nat) (br : List Bool) (body : Sms) (args : List Dv) : Option (Dv × List (List Dv)) := match initE br args with
  | none => none
  | some η => match evSs Γ fu body (η ++ List.replicate (n - η.length) .no) with
    | some (.ret d, η') => (outsE br η').map (d, ·)
    | some (.nx, η') => (outsE br η').map (.non, ·)
    | _ => none
end CF

set_option Elab.async false
set_option linter.all false
set_option maxRecDepth 100000
namespace CF
open PySem PySem.Spec PyProof.Rows L2

/-! ## readings -/
theorem PE.weaken {X : Cx} {e : Expr} {t t' : TE} (h : PE X e t) (k : ∀ σ H Q, t' σ H Q → t σ H Q) : PE X e t' := ⟨fun pins s σ H Q I q => h.run pins s σ H Q I (k σ H Q q)⟩
theorem PT.weaken {X : Cx} {e : Expr} {t t' : TT} (h : PT X e t) (k : ∀ σ H Q, t' σ H Q → t σ H Q) : PT X e t' := ⟨fun pins s σ H Q I q => h.run pins s σ H Q I (k σ H Q q)⟩
theorem PA.weaken {X : Cx} {e : List Expr} {t t' : TA} (h : PA X e t) (k : ∀ σ H Q, t' σ H Q → t σ H Q) : PA X e t' := ⟨fun pos pins s σ H Q I q => h.run pos pins s σ H Q I (k σ H Q q)⟩
theorem PS.weaken {X : Cx} {e : Stmt} {t t' : TS} (h : PS X e t) (k : ∀ D σ H, t' D σ H → t D σ H) : PS X e t' := ⟨fun pins s σ H D I q => h.run pins s σ H D I (k D σ H q)⟩
theorem PSs.weaken {X : Cx} {e : List Stmt} {t t' : TS} (h : PSs X e t) (k : ∀ D σ H, t' D σ H → t D σ H) : PSs X e t' := ⟨fun pins s σ H D I q => h.run pins s σ H D I (k D σ H q)⟩

/-- a value at hand: firm, or a list of the def's own -/
def RepL (W : Wd) (HF H : Hp) (v : V) (d : Dv) : Prop := Rep W HF v d ∨ ∃ p vs xs, v = .ref p ∧ d = .lst xs ∧ H p = some (.lst vs) ∧ Reps W HF vs xs
def RepLs (W : Wd) (HF H : Hp) : List V → List Dv → Prop
  | [], [] => True
  | v :: vs, d :: ds => RepL W HF H v d ∧ RepLs W HF H vs ds
  | _, _ => False
/-- the ways in which a value may come -/
def Out (W : Wd) (HF H : Hp) (d : Dv) (Q : VK) : Prop :=
  (∀ v, Rep W HF v d → Q v H) ∧ (∀ q vs xs, d = .tup xs → H q = none → Reps W HF vs xs → Q (.ref q) (upd H q (.tup vs))) ∧
    ∀ q vs xs, d = .lst xs → H q = none → Reps W HF vs xs → Q (.ref q) (upd H q (.lst vs))
def rV (W : Wd) (p : Pr) (xs : List V) (H : Hp) (Q : VK) : Prop := ∃ HF ds d, Same HF H ∧ RepLs W HF H xs ds ∧ prD p ds = some d ∧ Out W HF H d Q
/-- a new list that stands alone -/
def rN (W : Wd) (p : Pr) (xs : List V) (H : Hp) (Q : VK) : Prop := ∃ HF ds ys, Same HF H ∧ RepLs W HF H xs ds ∧ prD p ds = some (.lst ys) ∧ ∀ q vs, H q = none → Reps W HF vs ys → Q (.ref q) (upd H q (.lst vs))

def Own (η : CF.Env) (σ : L2.St) (a : Addr) : Prop := ∃ j, OwnAt η σ j a
/-- what an expression may do to the heap -/
structure Stp (σ : L2.St) (HF H : Hp) (η : CF.Env) (HF' H' : Hp) (η' : CF.Env) : Prop where
  f : Same HF HF'
  k : ∀ a o, H a = some o → ¬ Own η σ a → H' a = some o
  n : ∀ a o, HF' a = some o → HF a = some o ∨ H a = none ∨ Own η σ a
  w : ∀ a, Own η' σ a → Own η σ a
  g : ∀ a o, H a = some o → ∃ o', H' a = some o'
theorem Stp.refl {σ : L2.St} {HF H : Hp} {η : CF.Env} : Stp σ HF H η HF H η := ⟨fun _ _ e => e, fun _ _ e _ => e, fun _ _ e => .inl e, fun _ e => e, fun _ o e => ⟨o, e⟩⟩
theorem Stp.trans {σ : L2.St} {HF H HF1 H1 HF2 H2 : Hp} {η η1 η2 : CF.Env} (a : Stp σ HF H η HF1 H1 η1) (b : Stp σ HF1 H1 η1 HF2 H2 η2) : Stp σ HF H η HF2 H2 η2 where
  f := a.f.trans b.f
  k := fun x o e h => b.k x o (a.k x o e h) fun z => h (a.w x z)
  n := fun x o e => by
    rcases b.n x o e with z | z | z
    · exact a.n x o z
    · by_cases h : Own η σ x
      · exact .inr (.inr h)
      · refine .inr (.inl ?_)
        cases q : H x with
        | none => rfl
        | some u =>
          rw [a.k x u q h] at z
          cases z
    · exact .inr (.inr (a.w x z))
  w := fun x z => a.w x (b.w x z)
  g := fun x o e => let ⟨o1, e1⟩ := a.g x o e; b.g x o1 e1
theorem Stp.alloc {σ : L2.St} {HF H : Hp} {η : CF.Env} {p : Addr} {o : HO} (h : H p = none) (hF : HF p = none) : Stp σ HF H η (upd HF p o) (upd H p o) η where
  f := Same.upd_new hF
  k := fun a u e _ => Same.upd_new h _ _ e
  n := fun a u e => by
    by_cases ha : a = p
    · subst ha
      exact .inr (.inl h)
    · rw [upd_ne ha] at e
      exact .inl e
  w := fun _ z => z
  g := fun a u e => ⟨u, Same.upd_new h _ _ e⟩
theorem Stp.allocOwn {σ : L2.St} {HF H : Hp} {η : CF.Env} {p : Addr} {o : HO} (h : H p = none) : Stp σ HF H η HF (upd H p o) η where
  f := fun _ _ e => e
  k := fun a u e _ => Same.upd_new h _ _ e
  n := fun a u e => .inl e
  w := fun _ z => z
  g := fun a u e => ⟨u, Same.upd_new h _ _ e⟩
theorem Stp.non {σ : L2.St} {HF H HF' H' : Hp} {η η' : CF.Env} (s : Stp σ HF H η HF' H' η') {q : Addr} (h : H' q = none) : H q = none := by
  cases e : H q with
  | none => rfl
  | some o =>
    obtain ⟨o', z⟩ := s.g q o e
    rw [h] at z
    cases z

def tE (F : Fx) (Γ : Tab) (ir : Ex) : TE := fun σ H Q => ∃ HF η d η', SR F HF σ H η ∧ evE Γ ir η = some (d, η') ∧ ∀ v H' HF', SR F HF' σ H' η' → Stp σ HF H η HF' H' η' → Rep F.W HF' v d → Q v H'
def tT (F : Fx) (Γ : Tab) (ir : Ex) : TT := fun σ H Q => ∃ HF η b η', SR F HF σ H η ∧ evE Γ ir η = some (.bl b, η') ∧ ∀ H' HF', SR F HF' σ H' η' → Stp σ HF H η HF' H' η' → Q b H'
/-- a fresh list -/
def tF (F : Fx) (Γ : Tab) (ir : Ex) : TE := fun σ H Q => ∃ HF η xs η', SR F HF σ H η ∧ evE Γ ir η = some (.lst xs, η') ∧ ∀ q vs H' HF', SR F HF' σ H' η' → Stp σ HF H η HF' H' η' → H q = none → H' q = some (.lst vs) → Reps F.W HF' vs xs → HF' q = none → F.H0 q = none → ¬ Own η' σ q → Q (.ref q) H'
def OOk (F : Fx) (HF : Hp) (σ : L2.St) : Op → V → Dv → Prop
  | .o i, v, _ => σ[i]? = some (some v)
  | .e _, v, d => Rep F.W HF v d
def OOks (F : Fx) (HF : Hp) (σ : L2.St) : Ops → List V → List Dv → Prop
  | .nil, [], [] => True
  | .cons a as, v :: vs, d :: ds => OOk F HF σ a v d ∧ OOks F HF σ as vs ds
  | _, _, _ => False
def tO (F : Fx) (Γ : Tab) (a : Op) : TE := fun σ H Q => ∃ HF η d η', SR F HF σ H η ∧ evO Γ a η = some (d, η') ∧ ∀ v H' HF', SR F HF' σ H' η' → Stp σ HF H η HF' H' η' → OOk F HF' σ a v d → Q v H'
def tOs (F : Fx) (Γ : Tab) (as : Ops) : TA := fun σ H Q => ∃ HF η ds η', SR F HF σ H η ∧ evOs Γ as η = some (ds, η') ∧ ∀ vs H' HF', SR F HF' σ H' η' → Stp σ HF H η HF' H' η' → OOks F HF' σ as vs ds → Q vs H'

section
variable {F : Fx} {Γ : Tab} {HF HF' : Hp} {σ : L2.St} {H H' : Hp} {η : CF.Env}
theorem RepL.rep {W : Wd} {v : V} {d : Dv} (h : RepL W HF H v d) (s : Same HF H) : Rep W H v d := by
  rcases h with h | ⟨p, vs, xs, rfl, rfl, h, r⟩
  · exact h.mono s
  · exact .lst h (r.mono s)
theorem OOk.mono {a : Op} {v : V} {d : Dv} (h : OOk F HF σ a v d) (s : Same HF HF') : OOk F HF' σ a v d := by
  cases a with
  | o i => exact h
  | e x => exact Rep.mono s h
theorem OOks.mono (s : Same HF HF') : ∀ {as : Ops} {vs : List V} {ds : List Dv}, OOks F HF σ as vs ds → OOks F HF' σ as vs ds
  | .nil, [], [], _ => trivial
  | .cons _ _, _ :: _, _ :: _, ⟨h, r⟩ => ⟨h.mono s, OOks.mono s r⟩
  | .nil, _ :: _, _, h => h.elim
  | .nil, [], _ :: _, h => h.elim
  | .cons _ _, [], _, h => h.elim
  | .cons _ _, _ :: _, [], h => h.elim
theorem ownL_some {i : Nat} {xs : List Dv} (h : ownL η i = some xs) : ∃ br, η[i]? = some (.lst br xs) := by
  unfold ownL at h
  split at h
  · rename_i br ys e
    cases h
    exact ⟨br, e⟩
  · cases h
theorem OOk.fin (S : SR F HF σ H η) {a : Op} {v : V} {d d' : Dv} (h : OOk F HF σ a v d) (e : finO a d η = some d') : RepL F.W HF H v d' := by
  cases a with
  | o i =>
    obtain ⟨xs, e1, rfl⟩ := Option.map_eq_some_iff.mp e
    obtain ⟨br, e2⟩ := ownL_some e1
    obtain ⟨p, vs, q, hp, r, _⟩ := S.slotL e2
    have h' : σ[i]? = some (some v) := h
    rw [q] at h'
    cases h'
    exact .inr ⟨p, vs, xs, rfl, rfl, hp, r⟩
  | e x =>
    cases e
    exact .inl h
theorem OOks.fin (S : SR F HF σ H η) : ∀ {as : Ops} {vs : List V} {ds ds' : List Dv}, OOks F HF σ as vs ds → finOs as ds η = some ds' → RepLs F.W HF H vs ds'
  | .nil, [], [], ds', _, e => by
    cases e
    trivial
  | .cons a as, v :: vs, d :: ds, ds', ⟨h, r⟩, e => by
    unfold finOs at e
    split at e
    · rename_i x xs e1 e2
      cases e
      exact ⟨h.fin S e1, OOks.fin S r e2⟩
    · cases e
  | .nil, _ :: _, _, _, h, _ => h.elim
  | .nil, [], _ :: _, _, h, _ => h.elim
  | .cons _ _, [], _, _, h, _ => h.elim
  | .cons _ _, _ :: _, [], _, h, _ => h.elim
/-- the end of an operation, from what is wanted behind the expression -/
theorem out_of (S : SR F HF σ H η) {d : Dv} {Q : VK} (k : ∀ v H' HF', SR F HF' σ H' η → Stp σ HF H η HF' H' η → Rep F.W HF' v d → Q v H') : Out F.W HF H d Q := by
  refine ⟨fun v r => k v H HF S .refl r, fun q vs xs e hq r => ?_, fun q vs xs e hq r => ?_⟩
  · subst e
    obtain ⟨S', s⟩ := S.alloc (o := .tup vs) hq
    exact k _ _ _ S' (.alloc hq (S.sub.free hq)) (.tup (SqT.of upd_same) (r.mono s))
  · subst e
    obtain ⟨S', s⟩ := S.alloc (o := .lst vs) hq
    exact k _ _ _ S' (.alloc hq (S.sub.free hq)) (.lst upd_same (r.mono s))
theorem own_tracked (S : SR F HF σ H η) {q : Addr} (hq : H q = none) : ¬ Own η σ q := fun ⟨j, h⟩ => by
  obtain ⟨⟨o, z⟩, _⟩ := S.ownAt h
  rw [hq] at z
  cases z
theorem fresh_of (S : SR F HF σ H η) {xs : List Dv} {Q : VK} (k : ∀ q vs H' HF', SR F HF' σ H' η → Stp σ HF H η HF' H' η → H q = none → H' q = some (.lst vs) → Reps F.W HF' vs xs → HF' q = none → F.H0 q = none → ¬ Own η σ q → Q (.ref q) H') :
    ∀ q vs, H q = none → Reps F.W HF vs xs → Q (.ref q) (upd H q (.lst vs)) := fun q vs hq r =>
  k q vs _ HF (S.allocOwn hq) (.allocOwn hq) hq upd_same r (S.sub.free hq) (S.dom hq) (own_tracked S hq)
theorem tE_many {p : Pr} {as : Ops} {Q : VK} (h : tE F Γ (.pr p as) σ H Q) : tOs F Γ as σ H fun xs H1 => rV F.W p xs H1 Q := by
  obtain ⟨HF, η, d, η', S, e, k⟩ := h
  rw [evE] at e
  split at e
  · cases e
  · rename_i ds η1 e1
    split at e
    · cases e
    · rename_i ds' e2
      obtain ⟨d', e3, e4⟩ := Option.map_eq_some_iff.mp e
      cases e4
      exact ⟨HF, η, ds, _, S, e1, fun vs H' HF' S' s h => ⟨HF', ds', _, S'.sub, h.fin S' e2, e3, out_of S' fun v H2 HF2 S2 s2 r => k v H2 HF2 S2 (s.trans s2) r⟩⟩
theorem tF_many {p : Pr} {as : Ops} {Q : VK} (h : tF F Γ (.pr p as) σ H Q) : tOs F Γ as σ H fun xs H1 => rN F.W p xs H1 Q := by
  obtain ⟨HF, η, d, η', S, e, k⟩ := h
  rw [evE] at e
  split at e
  · cases e
  · rename_i ds η1 e1
    split at e
    · cases e
    · rename_i ds' e2
      obtain ⟨d', e3, e4⟩ := Option.map_eq_some_iff.mp e
      cases e4
      exact ⟨HF, η, ds, _, S, e1, fun vs H' HF' S' s h => ⟨HF', ds', _, S'.sub, h.fin S' e2, e3, fresh_of S' fun q vs H2 HF2 S2 s2 z => k q vs H2 HF2 S2 (s.trans s2) (s.non z)⟩⟩
theorem tOs_nil {Q : List V → Hp → Prop} (h : tOs F Γ .nil σ H Q) : Q [] H := by
  obtain ⟨HF, η, ds, η', S, e, k⟩ := h
  rw [evOs] at e
  cases e
  exact k [] H HF S .refl trivial
theorem tOs_cons {a : Op} {as : Ops} {Q : List V → Hp → Prop} (h : tOs F Γ (.cons a as) σ H Q) : tO F Γ a σ H fun x H1 => tOs F Γ as σ H1 fun xs H2 => Q (x :: xs) H2 := by
  obtain ⟨HF, η, ds, η', S, e, k⟩ := h
  rw [evOs] at e
  split at e
  · cases e
  · rename_i x η1 e1
    split at e
    · cases e
    · rename_i xs η2 e2
      cases e
      exact ⟨HF, η, x, η1, S, e1, fun v H1 HF1 S1 s1 h1 => ⟨HF1, η1, xs, _, S1, e2, fun vs H2 HF2 S2 s2 h2 => k (v :: vs) H2 HF2 S2 (s1.trans s2) ⟨h1.mono s2.f, h2⟩⟩⟩
theorem tO_e {x : Ex} {Q : VK} (h : tO F Γ (.e x) σ H Q) : tE F Γ x σ H Q := by
  obtain ⟨HF, η, d, η', S, e, k⟩ := h
  rw [evO] at e
  exact ⟨HF, η, d, η', S, e, fun v H' HF' S' s r => k v H' HF' S' s r⟩
theorem tO_mono {a : Op} {Q Q' : VK} (h : tO F Γ a σ H Q) (k : ∀ v H', Q v H' → Q' v H') : tO F Γ a σ H Q' := by
  obtain ⟨HF, η, d, η', S, e, f⟩ := h
  exact ⟨HF, η, d, η', S, e, fun v H' HF' S' s r => k _ _ (f v H' HF' S' s r)⟩
theorem tOs_mono {a : Ops} {Q Q' : List V → Hp → Prop} (h : tOs F Γ a σ H Q) (k : ∀ v H', Q v H' → Q' v H') : tOs F Γ a σ H Q' := by
  obtain ⟨HF, η, d, η', S, e, f⟩ := h
  exact ⟨HF, η, d, η', S, e, fun v H' HF' S' s r => k _ _ (f v H' HF' S' s r)⟩
theorem tE_one {p : Pr} {a : Op} {Q : VK} (h : tE F Γ (.pr p (.cons a .nil)) σ H Q) : tO F Γ a σ H fun x H1 => rV F.W p [x] H1 Q :=
  tO_mono (tOs_cons (tE_many h)) fun _ _ z => tOs_nil z
theorem tE_two {p : Pr} {a b : Op} {Q : VK} (h : tE F Γ (.pr p (.cons a (.cons b .nil))) σ H Q) : tO F Γ a σ H fun x H1 => tO F Γ b σ H1 fun y H2 => rV F.W p [x, y] H2 Q :=
  tO_mono (tOs_cons (tE_many h)) fun _ _ z => tO_mono (tOs_cons z) fun _ _ z => tOs_nil z
theorem tF_one {p : Pr} {a : Op} {Q : VK} (h : tF F Γ (.pr p (.cons a .nil)) σ H Q) : tO F Γ a σ H fun x H1 => rN F.W p [x] H1 Q :=
  tO_mono (tOs_cons (tF_many h)) fun _ _ z => tOs_nil z
theorem tF_two {p : Pr} {a b : Op} {Q : VK} (h : tF F Γ (.pr p (.cons a (.cons b .nil))) σ H Q) : tO F Γ a σ H fun x H1 => tO F Γ b σ H1 fun y H2 => rN F.W p [x, y] H2 Q :=
  tO_mono (tOs_cons (tF_many h)) fun _ _ z => tO_mono (tOs_cons z) fun _ _ z => tOs_nil z
end

/-! ## what stands in the heap reads as the data -/
section
variable {X : Cx} {pins : List (Addr × Obj)} {σ : L2.St} {H : Hp} {s : Shared} {W : Wd}
mutual
theorem Rep.reads (hK : W.K = X.K) (I : Inv X pins σ H s) : ∀ {d : Dv} {x : V} {u : Value}, Rep W H x d → d.plain = true → RelV x u → ∃ as, Reads s.heap u d.toP as
  | _, _, _, .non, _, r => by
    cases r
    exact ⟨_, .none⟩
  | _, _, _, .bl b, _, r => by
    cases r
    exact ⟨_, .bool b⟩
  | _, _, _, .int i, _, r => by
    obtain ⟨t, rfl⟩ := r
    exact ⟨_, .int i t⟩
  | _, _, _, .str i, _, r => by
    obtain ⟨t, rfl⟩ := r
    exact ⟨_, .str i t⟩
  | _, _, _, .tup h rs, hp, r => by
    cases r
    rw [hK] at h
    obtain ⟨its, rv, ⟨o, ho, hc, n, hd⟩, _⟩ := I.tuple h
    obtain ⟨as, q⟩ := Reps.reads hK I rs (by simpa only [Dv.plain] using hp) rv
    exact ⟨_, .tuple ho hc hd q⟩
  | _, _, _, .lst h rs, hp, r => by
    cases r
    obtain ⟨_, its, n, rv, _, e⟩ := I.lstM h
    obtain ⟨as, q⟩ := Reps.reads hK I rs (by simpa only [Dv.plain] using hp) rv
    exact ⟨_, .list e rfl rfl q⟩
  | _, _, _, .dct _ _ _, hp, _ => nomatch hp
  | _, _, _, .scr _, hp, _ => nomatch hp
  | _, _, _, .exc _ _ _ _ _, hp, _ => nomatch hp
theorem Reps.reads (hK : W.K = X.K) (I : Inv X pins σ H s) : ∀ {ds : List Dv} {xs : List V} {us : List Value}, Reps W H xs ds → Dv.plains ds = true → Vals xs us → ∃ as, ReadsAll s.heap us (Dv.toPs ds) as
  | _, _, _, .nil, _, .nil => ⟨_, .nil⟩
  | _, _, _, .cons h r, hp, .cons a b => by
    simp only [Dv.plains, Bool.and_eq_true] at hp
    obtain ⟨as, q⟩ := Rep.reads hK I h hp.1 a
    obtain ⟨bs, q2⟩ := Reps.reads hK I r hp.2 b
    exact ⟨_, .cons q q2⟩
end
end
end CF

set_option Elab.async false
set_option linter.all false
set_option maxRecDepth 100000
namespace CF
open PySem PySem.Spec PyProof.Rows L2

section
variable {W : Wd} {HF H : Hp} {v w : V} {d e : Dv}
theorem RepL.int_of {i : Int} (h : RepL W HF H v (.int i)) : v = .int i := by
  rcases h with h | ⟨_, _, _, _, e, _⟩
  · cases h
    rfl
  · cases e
theorem RepL.str_of {i : Str} (h : RepL W HF H v (.str i)) : v = .str i := by
  rcases h with h | ⟨_, _, _, _, e, _⟩
  · cases h
    rfl
  · cases e
theorem RepL.bl_of {i : Bool} (h : RepL W HF H v (.bl i)) : v = .bl i := by
  rcases h with h | ⟨_, _, _, _, e, _⟩
  · cases h
    rfl
  · cases e
theorem RepL.lst_of {xs : List Dv} (h : RepL W HF H v (.lst xs)) (s : Same HF H) : ∃ p vs, v = .ref p ∧ H p = some (.lst vs) ∧ Reps W HF vs xs := by
  rcases h with h | ⟨p, vs, ys, rfl, e, h, r⟩
  · cases h with
    | lst h r => exact ⟨_, _, rfl, s _ _ h, r⟩
  · cases e
    exact ⟨p, vs, rfl, h, r⟩
theorem RepL.tup_of {xs : List Dv} (h : RepL W HF H v (.tup xs)) (s : Same HF H) : ∃ p vs, v = .ref p ∧ SqT W.K H p vs ∧ Reps W HF vs xs ∧ SqT W.K HF p vs := by
  rcases h with h | ⟨_, _, _, _, e, _⟩
  · cases h with
    | tup h r => exact ⟨_, _, rfl, Same.sqT s h, r, h⟩
  · cases e
theorem RepL.scr_of {ns : List Int} (h : RepL W HF H v (.scr ns)) (s : Same HF H) : ∃ p, v = .ref p ∧ SqL W.K H p (ns.map V.int) := by
  rcases h with h | ⟨_, _, _, _, e, _⟩
  · cases h with
    | scr h => exact ⟨_, rfl, s.seq h⟩
  · cases e
theorem RepLs.one {xs : List V} {ds : List Dv} {d : Dv} (h : RepLs W HF H xs [d]) : ∃ v, xs = [v] ∧ RepL W HF H v d := by
  match xs, h with
  | [v], h => exact ⟨v, rfl, h.1⟩
theorem RepLs.len : ∀ {xs : List V} {ds : List Dv}, RepLs W HF H xs ds → xs.length = ds.length
  | [], [], _ => rfl
  | _ :: _, _ :: _, h => congrArg (· + 1) (RepLs.len h.2)
  | [], _ :: _, h => h.elim
  | _ :: _, [], h => h.elim
theorem out_v {Q : VK} (o : Out W HF H d Q) (r : Rep W HF v d) : Q v H := o.1 v r
theorem out_t {Q : VK} {xs : List Dv} {vs : List V} {q : Addr} (o : Out W HF H (.tup xs) Q) (h : H q = none) (r : Reps W HF vs xs) : Q (.ref q) (upd H q (.tup vs)) := o.2.1 q vs xs rfl h r
theorem out_l {Q : VK} {xs : List Dv} {vs : List V} {q : Addr} (o : Out W HF H (.lst xs) Q) (h : H q = none) (r : Reps W HF vs xs) : Q (.ref q) (upd H q (.lst vs)) := o.2.2 q vs xs rfl h r
end
theorem short_ok {n : Nat} (h : short n = true) : n ≤ sizeLine := by
  unfold short at h
  have := of_decide_eq_true h
  rw [sizeLine_eq]
  exact this

theorem rV_one {W : Wd} {p : Pr} {x : V} {H : Hp} {Q : VK} (h : rV W p [x] H Q) : ∃ HF a d, Same HF H ∧ RepL W HF H x a ∧ prD p [a] = some d ∧ Out W HF H d Q := by
  obtain ⟨HF, ds, d, s, r, e, o⟩ := h
  match ds, r with
  | [a], r => exact ⟨HF, a, d, s, r.1, e, o⟩
theorem rV_two {W : Wd} {p : Pr} {x y : V} {H : Hp} {Q : VK} (h : rV W p [x, y] H Q) : ∃ HF a b d, Same HF H ∧ RepL W HF H x a ∧ RepL W HF H y b ∧ prD p [a, b] = some d ∧ Out W HF H d Q := by
  obtain ⟨HF, ds, d, s, r, e, o⟩ := h
  match ds, r with
  | [a, b], r => exact ⟨HF, a, b, d, s, r.1, r.2.1, e, o⟩
theorem rN_one {W : Wd} {p : Pr} {x : V} {H : Hp} {Q : VK} (h : rN W p [x] H Q) : ∃ HF a ys, Same HF H ∧ RepL W HF H x a ∧ prD p [a] = some (.lst ys) ∧ ∀ q vs, H q = none → Reps W HF vs ys → Q (.ref q) (upd H q (.lst vs)) := by
  obtain ⟨HF, ds, d, s, r, e, o⟩ := h
  match ds, r with
  | [a], r => exact ⟨HF, a, d, s, r.1, e, o⟩
theorem rN_two {W : Wd} {p : Pr} {x y : V} {H : Hp} {Q : VK} (h : rN W p [x, y] H Q) : ∃ HF a b ys, Same HF H ∧ RepL W HF H x a ∧ RepL W HF H y b ∧ prD p [a, b] = some (.lst ys) ∧ ∀ q vs, H q = none → Reps W HF vs ys → Q (.ref q) (upd H q (.lst vs)) := by
  obtain ⟨HF, ds, d, s, r, e, o⟩ := h
  match ds, r with
  | [a, b], r => exact ⟨HF, a, b, d, s, r.1, r.2.1, e, o⟩
theorem if_some {α : Type} {c : Prop} [Decidable c] {x : α} {y : α} (h : (if c then some x else none) = some y) : c ∧ x = y := by
  by_cases k : c
  · rw [if_pos k] at h
    exact ⟨k, Option.some.inj h⟩
  · rw [if_neg k] at h
    cases h

section
variable {X : Cx} {W : Wd}
/-! ### two-place operators -/
theorem cat_fresh : OpR X (binaryOp .Add) (fun x y H Q => rN W (.bin .Add) [x, y] H Q) := by
  intro pins s σ H x y v u Q I rx ry h
  obtain ⟨HF, a, b, ys, sub, ra, rb, e, o⟩ := rN_two h
  cases a <;> cases b <;> try cases e
  · obtain ⟨e1, e2⟩ := if_some (show (if _ then some (Dv.str _) else none) = some (Dv.lst ys) from e)
    cases e2
  · obtain ⟨e1, e2⟩ := if_some (show (if _ then some (Dv.tup _) else none) = some (Dv.lst ys) from e)
    cases e2
  · rename_i as bs
    obtain ⟨e1, e2⟩ := if_some (show (if short (as.length + bs.length) = true then some (Dv.lst (as ++ bs)) else none) = some (Dv.lst ys) from e)
    cases e2
    obtain ⟨p, vs, rfl, hp, r1⟩ := ra.lst_of sub
    obtain ⟨p', vs', rfl, hp', r2⟩ := rb.lst_of sub
    exact op_cat pins s σ H _ _ v u Q I rx ry ⟨p, p', vs, vs', rfl, rfl, hp, hp', by rw [r1.length, r2.length]; exact short_ok e1, fun q hq => o q _ hq (r1.append r2)⟩
theorem bin_add (hK : W.K = X.K) : OpR X (binaryOp .Add) (fun x y H Q => rV W (.bin .Add) [x, y] H Q) := by
  intro pins s σ H x y v u Q I rx ry h
  obtain ⟨HF, a, b, d, sub, ra, rb, e, o⟩ := rV_two h
  cases a <;> cases b <;> try cases e
  · cases ra.int_of
    cases rb.int_of
    exact op_add pins s σ H _ _ v u Q I rx ry ⟨_, _, rfl, rfl, out_v o (.int _)⟩
  · rename_i as bs
    obtain ⟨e1, e2⟩ := if_some (show (if short (as.length + bs.length) = true then some (Dv.str (as ++ bs)) else none) = some d from e)
    cases e2
    cases ra.str_of
    cases rb.str_of
    exact op_add_str pins s σ H _ _ v u Q I rx ry ⟨_, _, rfl, rfl, short_ok e1, out_v o (.str _)⟩
  · rename_i as bs
    obtain ⟨e1, e2⟩ := if_some (show (if short (as.length + bs.length) = true then some (Dv.tup (as ++ bs)) else none) = some d from e)
    cases e2
    obtain ⟨p, vs, rfl, hp, r1, k1⟩ := ra.tup_of sub
    obtain ⟨p', vs', rfl, hp', r2, k2⟩ := rb.tup_of sub
    rw [hK] at hp hp'
    refine op_catA pins s σ H _ _ v u Q I rx ry ⟨p, p', vs, vs', rfl, rfl, hp, hp', by rw [r1.length, r2.length]; exact short_ok e1, fun z => ?_, fun _ z => ?_, fun _ _ q hq => out_t o hq (r1.append r2)⟩
    · subst z
      cases r1
      exact out_v o (.tup k2 r2)
    · subst z
      cases r2
      rw [List.append_nil] at o
      exact out_v o (.tup k1 r1)
  · rename_i as bs
    obtain ⟨e1, e2⟩ := if_some (show (if short (as.length + bs.length) = true then some (Dv.lst (as ++ bs)) else none) = some d from e)
    cases e2
    obtain ⟨p, vs, rfl, hp, r1⟩ := ra.lst_of sub
    obtain ⟨p', vs', rfl, hp', r2⟩ := rb.lst_of sub
    exact op_cat pins s σ H _ _ v u Q I rx ry ⟨p, p', vs, vs', rfl, rfl, hp, hp', by rw [r1.length, r2.length]; exact short_ok e1, fun q hq => out_l o hq (r1.append r2)⟩
theorem bin_sub : OpR X (binaryOp .Sub) (fun x y H Q => rV W (.bin .Sub) [x, y] H Q) := by
  intro pins s σ H x y v u Q I rx ry h
  obtain ⟨HF, a, b, d, sub, ra, rb, e, o⟩ := rV_two h
  cases a <;> cases b <;> try cases e
  cases ra.int_of
  cases rb.int_of
  exact op_sub pins s σ H _ _ v u Q I rx ry ⟨_, _, rfl, rfl, out_v o (.int _)⟩
theorem mul_fresh : OpR X (binaryOp .Mult) (fun x y H Q => rN W (.bin .Mult) [x, y] H Q) := by
  intro pins s σ H x y v u Q I rx ry h
  obtain ⟨HF, a, b, ys, sub, ra, rb, e, o⟩ := rN_two h
  cases a <;> cases b <;> try cases e
  · obtain ⟨e1, e2⟩ := if_some (show (if _ then some (Dv.int _) else none) = some (Dv.lst ys) from e)
    cases e2
  · obtain ⟨e1, e2⟩ := if_some (show (if _ then some (Dv.tup _) else none) = some (Dv.lst ys) from e)
    cases e2
  · rename_i xs k
    obtain ⟨e1, e2⟩ := if_some (show (if (decide (0 ≤ k) && decide (k ≤ 16777216) && short (xs.length * k.toNat)) = true then some (Dv.lst (List.replicate k.toNat xs).flatten) else none) = some (.lst ys) from e)
    cases e2
    simp only [Bool.and_eq_true, decide_eq_true_eq] at e1
    obtain ⟨p, vs, rfl, hp, r1⟩ := ra.lst_of sub
    cases rb.int_of
    exact op_rep pins s σ H _ _ v u Q I rx ry ⟨p, k, vs, rfl, rfl, hp, by omega, by omega, by rw [r1.length]; exact short_ok e1.2, fun q hq => o q _ hq (r1.rep _)⟩
theorem bin_mul (hK : W.K = X.K) : OpR X (binaryOp .Mult) (fun x y H Q => rV W (.bin .Mult) [x, y] H Q) := by
  intro pins s σ H x y v u Q I rx ry h
  obtain ⟨HF, a, b, d, sub, ra, rb, e, o⟩ := rV_two h
  cases a <;> cases b <;> try cases e
  · rename_i i j
    obtain ⟨e1, e2⟩ := if_some (show (if mulOk i j = true then some (Dv.int (i * j)) else none) = some d from e)
    cases e2
    cases ra.int_of
    cases rb.int_of
    exact op_mulW pins s σ H _ _ v u Q I rx ry ⟨_, _, rfl, rfl, (of_decide_eq_true (show decide (i.natAbs.log2 + j.natAbs.log2 < 1000000) = true from e1) : i.natAbs.log2 + j.natAbs.log2 < 1000000), out_v o (.int _)⟩
  · rename_i xs k
    obtain ⟨e1, e2⟩ := if_some (show (if (decide (2 ≤ k) && decide (k ≤ 1000) && decide (xs.length ≤ 1000) && decide (0 < xs.length)) = true then some (Dv.tup (List.replicate k.toNat xs).flatten) else none) = some d from e)
    cases e2
    simp only [Bool.and_eq_true, decide_eq_true_eq] at e1
    obtain ⟨p, vs, rfl, hp, r1, _⟩ := ra.tup_of sub
    cases rb.int_of
    rw [hK] at hp
    have hl := r1.length
    exact op_repT pins s σ H _ _ v u Q I rx ry ⟨p, k, vs, rfl, rfl, hp, fun z => by rw [z] at hl; simp at hl; omega, by omega, by omega, by omega, fun q hq => out_t o hq (r1.rep _)⟩
  · rename_i xs k
    obtain ⟨e1, e2⟩ := if_some (show (if (decide (0 ≤ k) && decide (k ≤ 16777216) && short (xs.length * k.toNat)) = true then some (Dv.lst (List.replicate k.toNat xs).flatten) else none) = some d from e)
    cases e2
    simp only [Bool.and_eq_true, decide_eq_true_eq] at e1
    obtain ⟨p, vs, rfl, hp, r1⟩ := ra.lst_of sub
    cases rb.int_of
    exact op_rep pins s σ H _ _ v u Q I rx ry ⟨p, k, vs, rfl, rfl, hp, by omega, by omega, by rw [r1.length]; exact short_ok e1.2, fun q hq => out_l o hq (r1.rep _)⟩
theorem bin_mod : OpR X (binaryOp .Mod) (fun x y H Q => rV W (.bin .Mod) [x, y] H Q) := by
  intro pins s σ H x y v u Q I rx ry h
  obtain ⟨HF, a, b, d, sub, ra, rb, e, o⟩ := rV_two h
  cases a <;> cases b <;> try cases e
  rename_i i j
  obtain ⟨e1, e2⟩ := if_some (show (if 0 < j then some (Dv.int (i % j)) else none) = some d from e)
  cases e2
  cases ra.int_of
  cases rb.int_of
  exact op_mod pins s σ H _ _ v u Q I rx ry ⟨_, _, rfl, rfl, e1, out_v o (.int _)⟩
theorem bin_fdiv : OpR X (binaryOp .FloorDiv) (fun x y H Q => rV W (.bin .FloorDiv) [x, y] H Q) := by
  intro pins s σ H x y v u Q I rx ry h
  obtain ⟨HF, a, b, d, sub, ra, rb, e, o⟩ := rV_two h
  cases a <;> cases b <;> try cases e
  rename_i i j
  obtain ⟨e1, e2⟩ := if_some (show (if 0 < j ∧ j.natAbs.log2 < 9000 then some (Dv.int (i / j)) else none) = some d from e)
  cases e2
  cases ra.int_of
  cases rb.int_of
  exact op_fdivW pins s σ H _ _ v u Q I rx ry ⟨_, _, rfl, rfl, e1, out_v o (.int _)⟩
theorem bin_pow : OpR X (binaryOp .Pow) (fun x y H Q => rV W (.bin .Pow) [x, y] H Q) := by
  intro pins s σ H x y v u Q I rx ry h
  obtain ⟨HF, a, b, d, sub, ra, rb, e, o⟩ := rV_two h
  cases a <;> cases b <;> try cases e
  rename_i i j
  obtain ⟨e1, e2⟩ := if_some (show (if 0 ≤ j ∧ (i.natAbs.log2 + 1) * j.toNat ≤ 2 ^ 27 then some (Dv.int (i ^ j.toNat)) else none) = some d from e)
  cases e2
  cases ra.int_of
  cases rb.int_of
  obtain ⟨t, rfl⟩ := rx
  obtain ⟨t', rfl⟩ := ry
  refine PyProof.Rows.pow_int e1.1 ?_ ⟨.int _, H, I.tok _, ⟨_, rfl⟩, out_v o (.int _)⟩
  have b : Builtin.Int.intBits i ≤ i.natAbs.log2 + 1 := by
    unfold Builtin.Int.intBits
    split <;> omega
  have e3 : ((j.toNat : Nat) : Int) = j := Int.toNat_of_nonneg e1.1
  have m : Builtin.Int.intBits i * j.toNat ≤ 2 ^ 27 := Nat.le_trans (Nat.mul_le_mul_right _ b) e1.2
  rw [← e3]
  exact_mod_cast m
theorem bin_ok (hK : W.K = X.K) : ∀ o : Operator, OpR X (binaryOp o) (fun x y H Q => rV W (.bin o) [x, y] H Q)
  | .Add => bin_add hK
  | .Sub => bin_sub
  | .Mult => bin_mul hK
  | .Mod => bin_mod
  | .FloorDiv => bin_fdiv
  | .Pow => bin_pow
  | .MatMult => fun _ _ _ _ _ _ _ _ _ _ _ _ h => by obtain ⟨_, _, _, _, _, _, _, e, _⟩ := rV_two h; cases e
  | .Div => fun _ _ _ _ _ _ _ _ _ _ _ _ h => by obtain ⟨_, _, _, _, _, _, _, e, _⟩ := rV_two h; cases e
  | .LShift => fun _ _ _ _ _ _ _ _ _ _ _ _ h => by obtain ⟨_, _, _, _, _, _, _, e, _⟩ := rV_two h; cases e
  | .RShift => fun _ _ _ _ _ _ _ _ _ _ _ _ h => by obtain ⟨_, _, _, _, _, _, _, e, _⟩ := rV_two h; cases e
  | .BitOr => fun _ _ _ _ _ _ _ _ _ _ _ _ h => by obtain ⟨_, _, _, _, _, _, _, e, _⟩ := rV_two h; cases e
  | .BitXor => fun _ _ _ _ _ _ _ _ _ _ _ _ h => by obtain ⟨_, _, _, _, _, _, _, e, _⟩ := rV_two h; cases e
  | .BitAnd => fun _ _ _ _ _ _ _ _ _ _ _ _ h => by obtain ⟨_, _, _, _, _, _, _, e, _⟩ := rV_two h; cases e

/-! ### comparisons -/
theorem orD_some {f : Int → Int → Bool} {g : Option Bool} {x y : Dv} {r : Bool} (e : orD f g x y = some r) : (∃ i j, x = .int i ∧ y = .int j ∧ f i j = r) ∨ g = some r := by
  unfold orD at e
  split at e
  · exact .inl ⟨_, _, rfl, rfl, Option.some.inj e⟩
  · exact .inr e
theorem ltD_some {x y : Dv} {r : Bool} (e : ltD x y = some r) : x.plain = true ∧ y.plain = true ∧ PySem.W.alike x.toP y.toP = true ∧ min x.depth y.depth ≤ 100 ∧ x.toP ≠ .none ∧ r = PySem.W.dataLt x.toP y.toP := by
  unfold ltD at e
  obtain ⟨h, e2⟩ := if_some e
  simp only [Bool.and_eq_true, decide_eq_true_eq] at h
  obtain ⟨⟨⟨⟨h1, h2⟩, h3⟩, h4⟩, h5⟩ := h
  refine ⟨h1, h2, h3, h4, ?_, e2.symm⟩
  cases x with
  | non => cases h5
  | exc _ _ => cases h1
  | _ => exact fun z => by simp [Dv.toP] at z
theorem eqD_some {x y : Dv} {r : Bool} (e : eqD x y = some r) : x.plain = true ∧ y.plain = true ∧ min x.depth y.depth ≤ 100 ∧ r = PyData.eqv x.toP y.toP := by
  unfold eqD at e
  obtain ⟨h, e2⟩ := if_some e
  simp only [Bool.and_eq_true, decide_eq_true_eq] at h
  obtain ⟨⟨h1, h2⟩, h3⟩ := h
  exact ⟨h1, h2, h3, by rw [Dv.eqv_beq _ _ h1 h2]; exact e2.symm⟩
theorem inD_some {x : Dv} {ys : List Dv} {r : Bool} (e : inD x ys = some r) : x.plain = true ∧ Dv.plains ys = true ∧ min (Dv.depths ys) x.depth ≤ 100 ∧ r = (Dv.toPs ys).any fun y => PyData.eqv y x.toP := by
  unfold inD at e
  obtain ⟨h, e2⟩ := if_some e
  simp only [Bool.and_eq_true, decide_eq_true_eq] at h
  obtain ⟨⟨h1, h2⟩, h3⟩ := h
  exact ⟨h1, h2, h3, by rw [Dv.any_beq _ _ h2 h1]; exact e2.symm⟩
theorem inS_some {y z : Str} {r : Bool} (e : inS y z = some r) : ∃ c, y = ⟨#[c]⟩ ∧ r = decide (c ∈ z.cps.toList) := by
  obtain ⟨⟨l⟩⟩ := y
  match l, e with
  | [c], e =>
    cases e
    exact ⟨c, rfl, rfl⟩
  | [], e => cases e
  | _ :: _ :: _, e => cases e
theorem cmp_ok (hK : W.K = X.K) (hu : X.A.units + 200 < cLine) : ∀ o : CmpOp, OpR X (compareOp o) (fun x y H Q => rV W (.cmp o) [x, y] H Q) := by
  intro o pins s σ H x y v u Q I rx ry h
  obtain ⟨HF, a, b, d, sub, ra, rb, e, out⟩ := rV_two h
  obtain ⟨r, e1, e2⟩ := Option.map_eq_some_iff.mp (show (cmpD o a b).map Dv.bl = some d from e)
  subst e2
  replace e := e1
  have fin : EP X pins σ Q (.bool r) s := ⟨.bl r, H, I, rfl, out_v out (.bl r)⟩
  have pa := ra.rep sub
  have pb := rb.rep sub
  have twoI : ∀ {i j : Int}, a = .int i → b = .int j → ∃ t t', v = .int i t ∧ u = .int j t' := fun {i j} e1 e2 => by
    subst e1 e2
    cases ra.int_of
    cases rb.int_of
    obtain ⟨t, rfl⟩ := rx
    obtain ⟨t', rfl⟩ := ry
    exact ⟨t, t', rfl, rfl⟩
  cases o with
  | Eq =>
    obtain ⟨h1, h2, h3, rfl⟩ := eqD_some e
    obtain ⟨as, q1⟩ := pa.reads hK I h1 rx
    obtain ⟨bs, q2⟩ := pb.reads hK I h2 ry
    exact PySem.SeqAt.eq_plain q1 q2 (Dv.toP_plain _ h1) (Dv.toP_plain _ h2) (by rw [Dv.toP_depth _ h1, Dv.toP_depth _ h2]; omega) fin
  | NotEq =>
    obtain ⟨r', e', rfl⟩ := Option.map_eq_some_iff.mp e
    replace e := e'
    obtain ⟨h1, h2, h3, rfl⟩ := eqD_some e
    obtain ⟨as, q1⟩ := pa.reads hK I h1 rx
    obtain ⟨bs, q2⟩ := pb.reads hK I h2 ry
    exact PySem.SeqAt.ne_plain q1 q2 (Dv.toP_plain _ h1) (Dv.toP_plain _ h2) (by rw [Dv.toP_depth _ h1, Dv.toP_depth _ h2]; omega) fin
  | Lt =>
    rcases orD_some e with ⟨i, j, rfl, rfl, rfl⟩ | e
    · obtain ⟨t, t', rfl, rfl⟩ := twoI rfl rfl
      exact lt_int fin
    · obtain ⟨h1, h2, h3, h4, h5, rfl⟩ := ltD_some e
      obtain ⟨as, q1⟩ := pa.reads hK I h1 rx
      obtain ⟨bs, q2⟩ := pb.reads hK I h2 ry
      exact PySem.W.lt_data q1 q2 h3 h5 (by rw [Dv.toP_depth _ h1, Dv.toP_depth _ h2]; omega) fin
  | Gt =>
    rcases orD_some e with ⟨i, j, rfl, rfl, rfl⟩ | e
    · obtain ⟨t, t', rfl, rfl⟩ := twoI rfl rfl
      exact gt_int fin
    · obtain ⟨h1, h2, h3, h4, h5, rfl⟩ := ltD_some e
      obtain ⟨as, q1⟩ := pa.reads hK I h2 rx
      obtain ⟨bs, q2⟩ := pb.reads hK I h1 ry
      have h3' := (PySem.W.alike_comm _ _).symm.trans h3
      exact PySem.W.gt_data q1 q2 h3' (PySem.W.ne_none_both h3 h5) (by rw [Dv.toP_depth _ h1, Dv.toP_depth _ h2]; omega) fin
  | LtE =>
    rcases orD_some e with ⟨i, j, rfl, rfl, rfl⟩ | e
    · obtain ⟨t, t', rfl, rfl⟩ := twoI rfl rfl
      exact le_int fin
    · obtain ⟨r', e', rfl⟩ := Option.map_eq_some_iff.mp e
      replace e := e'
      obtain ⟨h1, h2, h3, h4, h5, rfl⟩ := ltD_some e
      obtain ⟨as, q1⟩ := pa.reads hK I h2 rx
      obtain ⟨bs, q2⟩ := pb.reads hK I h1 ry
      have h3' := (PySem.W.alike_comm _ _).symm.trans h3
      exact PySem.W.le_data q1 q2 h3' (PySem.W.ne_none_both h3 h5) (by rw [Dv.toP_depth _ h1, Dv.toP_depth _ h2]; omega) fin
  | GtE =>
    rcases orD_some e with ⟨i, j, rfl, rfl, rfl⟩ | e
    · obtain ⟨t, t', rfl, rfl⟩ := twoI rfl rfl
      exact ge_int fin
    · obtain ⟨r', e', rfl⟩ := Option.map_eq_some_iff.mp e
      replace e := e'
      obtain ⟨h1, h2, h3, h4, h5, rfl⟩ := ltD_some e
      obtain ⟨as, q1⟩ := pa.reads hK I h1 rx
      obtain ⟨bs, q2⟩ := pb.reads hK I h2 ry
      exact PySem.W.ge_data q1 q2 h3 h5 (by rw [Dv.toP_depth _ h1, Dv.toP_depth _ h2]; omega) fin
  | Is => cases e
  | IsNot => cases e
  | In => 
    have go : ∀ ys, b = .lst ys ∨ b = .tup ys → inD a ys = some r → wpAny (model X.prog X.w) X.A (compareOp .In v u) (EP X pins σ Q) X.xe s := fun ys hb e => by
      obtain ⟨h1, h2, h3, rfl⟩ := inD_some e
      obtain ⟨as, q1⟩ := pa.reads hK I h1 rx
      have hd : (Dv.toPs ys).length = (Dv.toPs ys).length := rfl
      rcases hb with rfl | rfl
      · obtain ⟨bs, q2⟩ := pb.reads hK I (show Dv.plain (.lst ys) = true from h2) ry
        exact PySem.SeqAt.in_list_data q2 q1 (Dv.toPs_plain _ h2) (Dv.toP_plain _ h1) (by rw [Dv.toPs_depth _ h2, Dv.toP_depth _ h1]; omega) fin
      · obtain ⟨bs, q2⟩ := pb.reads hK I (show Dv.plain (.tup ys) = true from h2) ry
        exact PySem.SeqAt.in_tuple_data q2 q1 (Dv.toPs_plain _ h2) (Dv.toP_plain _ h1) (by rw [Dv.toPs_depth _ h2, Dv.toP_depth _ h1]; omega) fin
    cases b with
    | lst ys => exact go ys (.inl rfl) e
    | tup ys => exact go ys (.inr rfl) e
    | str z =>
      cases a with
      | str y =>
        obtain ⟨c, rfl, rfl⟩ := inS_some (show inS y z = some r from e)
        cases ra.str_of
        cases rb.str_of
        exact op_in_sign pins s σ H _ _ v u Q I rx ry ⟨c, z, rfl, rfl, out_v out (.bl _)⟩
      | _ => cases e
    | _ => cases e
  | NotIn =>
    have go : ∀ ys, b = .lst ys ∨ b = .tup ys → (inD a ys).map (!·) = some r → wpAny (model X.prog X.w) X.A (compareOp .NotIn v u) (EP X pins σ Q) X.xe s := fun ys hb e => by
      obtain ⟨r', e', rfl⟩ := Option.map_eq_some_iff.mp e
      replace e := e'
      obtain ⟨h1, h2, h3, rfl⟩ := inD_some e
      obtain ⟨as, q1⟩ := pa.reads hK I h1 rx
      rcases hb with rfl | rfl
      · obtain ⟨bs, q2⟩ := pb.reads hK I (show Dv.plain (.lst ys) = true from h2) ry
        exact PySem.SeqAt.notIn_list_data q2 q1 (Dv.toPs_plain _ h2) (Dv.toP_plain _ h1) (by rw [Dv.toPs_depth _ h2, Dv.toP_depth _ h1]; omega) fin
      · obtain ⟨bs, q2⟩ := pb.reads hK I (show Dv.plain (.tup ys) = true from h2) ry
        exact PySem.SeqAt.notIn_tuple_data q2 q1 (Dv.toPs_plain _ h2) (Dv.toP_plain _ h1) (by rw [Dv.toPs_depth _ h2, Dv.toP_depth _ h1]; omega) fin
    cases b with
    | lst ys => exact go ys (.inl rfl) e
    | tup ys => exact go ys (.inr rfl) e
    | str z =>
      cases a with
      | str y =>
        obtain ⟨r', e', rfl⟩ := Option.map_eq_some_iff.mp (show (inS y z).map (!·) = some r from e)
        obtain ⟨c, rfl, rfl⟩ := inS_some e'
        cases ra.str_of
        cases rb.str_of
        exact op_notIn_sign pins s σ H _ _ v u Q I rx ry ⟨c, z, rfl, rfl, out_v out (.bl _)⟩
      | _ => cases e
    | _ => cases e
end
end CF

set_option Elab.async false
set_option linter.all false
set_option maxRecDepth 100000
namespace CF
open PySem PySem.Spec PyProof.Rows L2 PySem.W

/-! ## min, max of two; sorted of two -/
mutual
theorem alike_me : ∀ d : PyData, d.plain = true → PySem.W.alike d d = true
  | .none, _ => rfl
  | .bool _, _ => rfl
  | .int _, _ => rfl
  | .str _, _ => rfl
  | .list xs, h => by
    simp only [PyData.plain] at h
    simp only [PySem.W.alike]
    exact alike_mes xs h
  | .tuple xs, h => by
    simp only [PyData.plain] at h
    simp only [PySem.W.alike]
    exact alike_mes xs h
  | .dict _, h => by simp [PyData.plain] at h
theorem alike_mes : ∀ xs : List PyData, PyData.plainAll xs = true → PySem.W.alikeAll xs xs = true
  | [], _ => rfl
  | x :: xs, h => by
    simp only [PyData.plainAll, Bool.and_eq_true] at h
    simp only [PySem.W.alikeAll, alike_me x h.1, alike_mes xs h.2, Bool.and_self]
end
section
variable {prog : Program} {w : World} {A : Around} {E : Value → Shared → Prop} {s : Shared}
theorem absent_of {h h1 : Heap} (k : ∀ b o, h.get? b = some o → h1.get? b = some o) : h.get? h1.objs.size = none := by
  cases q : h.get? h1.objs.size with
  | none => rfl
  | some o => exact absurd (Heap.lt_size (k _ o q)) (Nat.lt_irrefl _)
/-- sorted(x) of what can be collected -/
theorem sorted_coll {β : Type} {x : Value} {vs : List Value} {bs : List β} {R : Value → β → Prop} {enc : β → PyData} {Q : Value → Shared → Prop}
    (hcol : ∀ (A' : Around) (E' : Value → Shared → Prop) (Q' : List Value → Shared → Prop), (∀ h', (∀ b o, s.heap.get? b = some o → h'.get? b = some o) → Q' vs { s with heap := h' }) → wpAny (model prog w) A' (collect x) Q' E' s)
    (e : EachIs R vs bs) (er : EachIs (fun v b => ∃ as, Reads s.heap v (enc b) as) vs bs) (hal : PySem.W.AllAlike (bs.map enc)) (hk : PySem.W.Sortable (bs.map enc)) (hL : bs.length ≤ sizeLine) (hu : ∀ b, b ∈ bs → A.units + 2 + (enc b).depth < cLine)
    (h : ∀ (h' : Heap) (p : Addr) (n : Nat) (out : List Value), out.length = bs.length → EachIs R out (bs.mergeSort (PySem.W.dataLe false enc)) → (∀ b o, s.heap.get? b = some o → h'.get? b = some o) → s.heap.get? p = none → h'.get? p = some (PyProof.Rows.seqObj "list" out.toArray n) → Q (.ref p) { s with heap := h' }) :
    wpAny (model prog w) A (call (.builtin "sorted") [x]) Q E s := by
  refine Calls.call_function_entry PyProof.Rows.kind_sorted PyProof.Rows.plain_sorted PyProof.Rows.entry_sorted (PyProof.Rows.args_sorted1 _) ?_
  unfold Builtin.«sorted»
  refine wpAny_bind (m := checkCount "sorted" 1 1 _) (wpAny_pure (wpAny_bind (hcol _ _ _ fun h1 k1 => ?_)))
  have vl : vs.length ≤ sizeLine := by rw [e.length]; exact hL
  refine wpAny_bind (wpAny_newList ?_ vl)
  show wpAny _ _ _ _ _ { s with heap := h1.push (PyProof.Rows.seqObj "list" vs.toArray 0) }
  have hp : (h1.push (PyProof.Rows.seqObj "list" vs.toArray 0)).get? h1.objs.size = some (PyProof.Rows.seqObj "list" vs.toArray 0) := Heap.get?_push_size _ rfl
  have k2 : ∀ b o, s.heap.get? b = some o → (h1.push (PyProof.Rows.seqObj "list" vs.toArray 0)).get? b = some o := fun b o q => Heap.get?_push_of_some _ (k1 b o q)
  have hn := absent_of k1
  generalize h1.push (PyProof.Rows.seqObj "list" vs.toArray 0) = h2 at hp k2 ⊢
  generalize h1.objs.size = p at hp hn ⊢
  have kS : ∀ b o, s.heap.get? b = some o → (PySem.W.sortingHeap h2 p vs).get? b = some o := fun b o q => PySem.W.sortingHeap_old (fun z => by rw [z, hn] at q; cases q) (k2 b o q)
  have er' : EachIs (fun v b => ∃ as, Reads (PySem.W.sortingHeap h2 p vs) v (enc b) as) vs bs := er.mono fun _ _ ⟨as, r⟩ => ⟨as, PyProof.Rows.Reads.keeps kS r⟩
  refine wpAny_bind (wpAny_holding (wpAny_call_entry PyProof.Rows.slot_list_sort ⟨_, hp, rfl⟩ PyProof.Rows.entry_list_sort ?body (PyProof.Rows.args_list_sort _)))
  case body =>
    refine PySem.W.list_sort_vals (s := { s with heap := h2 }) hp (PySem.W.SortsAt.data (s := { s with heap := PySem.W.sortingHeap h2 p vs }) (PySem.W.each_map (R := fun v d => ∃ as, Reads (PySem.W.sortingHeap h2 p vs) v d as) enc er') hal hk (PySem.W.bound_map hu)) vl ⟨_, rfl, wpAny_pure ⟨_, rfl, ?_⟩⟩
    obtain ⟨n, hat⟩ := PyProof.Rows.sortedHeap_at (out := (PySem.W.sortVals (PySem.W.dataKind (PySem.W.sortingHeap h2 p vs) (bs.map enc)) false vs vs).toArray) hp
    refine h _ p n _ (by rw [PySem.W.sortVals_length false rfl]; exact e.length) (PySem.W.sortVals_data false e er' hal) (fun b o q => ?_) hn hat
    have ne : b ≠ p := fun z => by rw [z, hn] at q; cases q
    exact (PyProof.Rows.sortedHeap_old ne (Heap.lt_size (k2 b o q))).trans (k2 b o q)
theorem pair_alike {da db : PyData} (pa : da.plain = true) (pb : db.plain = true) (hal : PySem.W.alike da db = true) (hn : da ≠ .none) : PySem.W.AlikeAll [da, db] := by
  have hb := PySem.W.ne_none_both hal hn
  have hc : PySem.W.alike db da = true := (PySem.W.alike_comm _ _).trans hal
  refine ⟨fun x hx y hy => ?_, fun x hx => ?_⟩
  · simp only [List.mem_cons, List.not_mem_nil, or_false] at hx hy
    rcases hx with rfl | rfl <;> rcases hy with rfl | rfl
    · exact alike_me _ pa
    · exact hal
    · exact hc
    · exact alike_me _ pb
  · simp only [List.mem_cons, List.not_mem_nil, or_false] at hx
    rcases hx with rfl | rfl
    · exact hn
    · exact hb
theorem reads_two {h : Heap} {a b : Value} {da db : PyData} {as bs : List Addr} (ra : Reads h a da as) (rb : Reads h b db bs) : ∃ cs, ReadsAll h (#[a, b] : Array Value).toList [da, db] cs := ⟨_, .cons ra (.cons rb .nil)⟩
/-- min(a, b) -/
theorem min_two_data {a b : Value} {da db : PyData} {as bs : List Addr} {Q : Value → Shared → Prop} (hh : A.handled = none) (ra : Reads s.heap a da as) (rb : Reads s.heap b db bs) (pa : da.plain = true) (pb : db.plain = true) (hal : PySem.W.alike da db = true) (hn : da ≠ .none) (hu : A.units + 1 + PyData.depthAll [da, db] < cLine)
    (h : ∀ h' tk, (∀ c o, s.heap.get? c = some o → h'.get? c = some o) → Q (if PySem.W.dataLt db da then b else a) { s with heap := h', toks := tk }) : wpAny (model prog w) A (call (.builtin "min") [a, b]) Q E s := by
  obtain ⟨cs, rr⟩ := reads_two ra rb
  refine call_function_tree F.kind_min F.plain_min F.entry_min (F.args_min2 _ _) ?_
  show wpAny _ A.in1 (Builtin.Builtins.bindParams "min" ["key", "default"] 0 ⟨[], []⟩ >>= _) _ _ s
  refine wpAny_bind (wpAny_of_eq (show Builtin.Builtins.bindParams "min" ["key", "default"] 0 ⟨[], []⟩ = pure [none, none] from rfl) ?_)
  show wpAny _ A.in1 (newTuple [a, b] >>= _) _ _ s
  refine wpAny_bind (wpAny_newObj_type (wpAny_bind ?_))
  have hT : (s.heap.push { cls := .type "tuple", data := .seq #[a, b] }).IsTuple s.heap.objs.size #[a, b] := ⟨_, Heap.get?_push_size _ rfl, rfl, 0, rfl⟩
  refine PySem.W.iter_tupleW (s := { s with heap := s.heap.push { cls := .type "tuple", data := .seq #[a, b] } }) (A := A.in1) hh hT fun s₂ e W st hfp hw hk => ?_
  refine wpAny_bind (wpAny_newObj_type ?_)
  have k0 : ∀ c o, s.heap.get? c = some o → s₂.heap.get? c = some o := fun c o q => hk c o (Heap.get?_push_of_some _ q)
  have hSf : s₂.heap.objs.size ∉ [(s.heap.push { cls := .type "tuple", data := .seq #[a, b] }).objs.size, s.heap.objs.size] := fun hm => Nat.lt_irrefl _ (hfp _ hm)
  rw [show (toString "min" ++ toString ".loop" : String) = "min.loop" by decide]
  refine wpAny_pure ⟨plainId_quiet F.plain_min_loop _, PySem.codeAny_min_loop_firstH W s.heap (fun c o q => hw c o (Heap.get?_push_of_some _ q)) _ (PySem.W.cmpIn_lt (A := A.in1) rr (pair_alike pa pb hal hn) hu) s₂.heap.objs.size hSf (PySem.fresh_in k0) _ (Nat.lt_add_left 1 (Nat.lt_succ_self 0)) (fun c o q => Heap.get?_push_of_some _ (k0 c o q)) (W.frame 0 s₂ _ s₂.toks st (Nat.le_refl _) fun c _ o q => Heap.get?_push_of_some _ q) (Heap.get?_push_size _ rfl) fun v s' hP hm => ?_⟩
  obtain ⟨h', tk, rfl, hk'⟩ := PySem.W.moved_old e rfl (Moved.drop_new (tk := s₂.toks) hm (Nat.le_refl _))
  have r := h h' tk fun c o q => hk' c o (Heap.get?_push_of_some _ q)
  have ev : v = if PySem.W.dataLt db da then b else a := by
    have hP' : (#[a, b] : Array Value)[PySem.argBest (fun i j => PySem.W.dataLt ([da, db].getD i .none) ([da, db].getD j .none)) 1]? = some v := hP
    simp only [PySem.argBest] at hP'
    by_cases z : PySem.W.dataLt db da = true
    · simpa [z] using hP'.symm
    · simpa [z] using hP'.symm
  rw [ev]
  exact r
/-- max(a, b) -/
theorem max_two_data {a b : Value} {da db : PyData} {as bs : List Addr} {Q : Value → Shared → Prop} (hh : A.handled = none) (ra : Reads s.heap a da as) (rb : Reads s.heap b db bs) (pa : da.plain = true) (pb : db.plain = true) (hal : PySem.W.alike da db = true) (hn : da ≠ .none) (hu : A.units + 1 + PyData.depthAll [da, db] < cLine)
    (h : ∀ h' tk, (∀ c o, s.heap.get? c = some o → h'.get? c = some o) → Q (if PySem.W.dataLt da db then b else a) { s with heap := h', toks := tk }) : wpAny (model prog w) A (call (.builtin "max") [a, b]) Q E s := by
  obtain ⟨cs, rr⟩ := reads_two ra rb
  refine call_function_tree F.kind_max F.plain_max F.entry_max (F.args_max2 _ _) ?_
  show wpAny _ A.in1 (Builtin.Builtins.bindParams "max" ["key", "default"] 0 ⟨[], []⟩ >>= _) _ _ s
  refine wpAny_bind (wpAny_of_eq (show Builtin.Builtins.bindParams "max" ["key", "default"] 0 ⟨[], []⟩ = pure [none, none] from rfl) ?_)
  show wpAny _ A.in1 (newTuple [a, b] >>= _) _ _ s
  refine wpAny_bind (wpAny_newObj_type (wpAny_bind ?_))
  have hT : (s.heap.push { cls := .type "tuple", data := .seq #[a, b] }).IsTuple s.heap.objs.size #[a, b] := ⟨_, Heap.get?_push_size _ rfl, rfl, 0, rfl⟩
  refine PySem.W.iter_tupleW (s := { s with heap := s.heap.push { cls := .type "tuple", data := .seq #[a, b] } }) (A := A.in1) hh hT fun s₂ e W st hfp hw hk => ?_
  refine wpAny_bind (wpAny_newObj_type ?_)
  have k0 : ∀ c o, s.heap.get? c = some o → s₂.heap.get? c = some o := fun c o q => hk c o (Heap.get?_push_of_some _ q)
  have hSf : s₂.heap.objs.size ∉ [(s.heap.push { cls := .type "tuple", data := .seq #[a, b] }).objs.size, s.heap.objs.size] := fun hm => Nat.lt_irrefl _ (hfp _ hm)
  rw [show (toString "max" ++ toString ".loop" : String) = "max.loop" by decide]
  refine wpAny_pure ⟨plainId_quiet F.plain_max_loop _, PySem.codeAny_max_loop_firstH W s.heap (fun c o q => hw c o (Heap.get?_push_of_some _ q)) _ (PySem.W.cmpIn_gt (A := A.in1) rr (pair_alike pa pb hal hn) hu) s₂.heap.objs.size hSf (PySem.fresh_in k0) _ (Nat.lt_add_left 1 (Nat.lt_succ_self 0)) (fun c o q => Heap.get?_push_of_some _ (k0 c o q)) (W.frame 0 s₂ _ s₂.toks st (Nat.le_refl _) fun c _ o q => Heap.get?_push_of_some _ q) (Heap.get?_push_size _ rfl) fun v s' hP hm => ?_⟩
  obtain ⟨h', tk, rfl, hk'⟩ := PySem.W.moved_old e rfl (Moved.drop_new (tk := s₂.toks) hm (Nat.le_refl _))
  have r := h h' tk fun c o q => hk' c o (Heap.get?_push_of_some _ q)
  have ev : v = if PySem.W.dataLt da db then b else a := by
    have hP' : (#[a, b] : Array Value)[PySem.argBest (fun i j => PySem.W.dataLt ([da, db].getD j .none) ([da, db].getD i .none)) 1]? = some v := hP
    simp only [PySem.argBest] at hP'
    by_cases z : PySem.W.dataLt da db = true
    · simpa [z] using hP'.symm
    · simpa [z] using hP'.symm
  rw [ev]
  exact r
end
end CF

set_option Elab.async false
set_option linter.all false
set_option maxRecDepth 100000
namespace CF
open PySem PySem.Spec PyProof.Rows L2

theorem intsOf_some : ∀ {xs : List Dv} {ns : List Int}, intsOf xs = some ns → xs = ns.map .int
  | [], ns, h => by cases h; rfl
  | .int i :: r, ns, h => by
    obtain ⟨m, e, rfl⟩ := Option.map_eq_some_iff.mp (show (intsOf r).map (i :: ·) = some ns from h)
    rw [intsOf_some e, List.map_cons]
theorem blsOf_some : ∀ {xs : List Dv} {ns : List Bool}, blsOf xs = some ns → xs = ns.map .bl
  | [], ns, h => by cases h; rfl
  | .bl i :: r, ns, h => by
    obtain ⟨m, e, rfl⟩ := Option.map_eq_some_iff.mp (show (blsOf r).map (i :: ·) = some ns from h)
    rw [blsOf_some e, List.map_cons]
theorem strsOf_some : ∀ {xs : List Dv} {ns : List Str}, strsOf xs = some ns → xs = ns.map .str
  | [], ns, h => by cases h; rfl
  | .str i :: r, ns, h => by
    obtain ⟨m, e, rfl⟩ := Option.map_eq_some_iff.mp (show (strsOf r).map (i :: ·) = some ns from h)
    rw [strsOf_some e, List.map_cons]
theorem Reps.bls {W : Wd} {H : Hp} : ∀ {vs : List V} {ns : List Bool}, Reps W H vs (ns.map Dv.bl) → vs = ns.map V.bl
  | [], [], _ => rfl
  | v :: vs, n :: ns, .cons h r => by
    cases h
    rw [List.map_cons, r.bls]
theorem Reps.strs {W : Wd} {H : Hp} : ∀ {vs : List V} {ns : List Str}, Reps W H vs (ns.map Dv.str) → vs = ns.map V.str
  | [], [], _ => rfl
  | v :: vs, n :: ns, .cons h r => by
    cases h
    rw [List.map_cons, r.strs]

section
variable {X : Cx} {W : Wd} {p : Pr} {xs : List V} {H : Hp} {Q : VK}
theorem one_of (h : rV W p xs H Q) (e : ∀ ds, prD p ds = prS p ds := by intro _; rfl) (h2 : ∀ x y, pr2 p x y = none := by intro _ _; rfl) (h3 : ∀ x y z, pr3 p x y z = none := by intro _ _ _; rfl) :
    ∃ HF x a d, xs = [x] ∧ Same HF H ∧ RepL W HF H x a ∧ pr1 p a = some d ∧ Out W HF H d Q := by
  obtain ⟨HF, ds, d, sub, rs, q, o⟩ := h
  rw [e] at q
  match ds, q with
  | [a], q =>
    obtain ⟨x, rfl, rx⟩ := rs.one (ds := [])
    exact ⟨HF, x, a, d, rfl, sub, rx, q, o⟩
  | [], q => cases q
  | [a, b], q =>
    rw [prS, h2] at q
    cases q
  | [a, b, c], q =>
    rw [prS, h3] at q
    cases q
  | _ :: _ :: _ :: _ :: _, q => cases q
theorem two_of (h : rV W p xs H Q) (e : ∀ ds, prD p ds = prS p ds := by intro _; rfl) (h2 : ∀ x, pr1 p x = none := by intro _; rfl) (h3 : ∀ x y z, pr3 p x y z = none := by intro _ _ _; rfl) :
    ∃ HF x y a b d, xs = [x, y] ∧ Same HF H ∧ RepL W HF H x a ∧ RepL W HF H y b ∧ pr2 p a b = some d ∧ Out W HF H d Q := by
  obtain ⟨HF, ds, d, sub, rs, q, o⟩ := h
  rw [e] at q
  match ds, q with
  | [a, b], q =>
    match xs, rs with
    | [x, y], rs => exact ⟨HF, x, y, a, b, d, rfl, sub, rs.1, rs.2.1, q, o⟩
  | [], q => cases q
  | [a], q =>
    rw [prS, h2] at q
    cases q
  | [a, b, c], q =>
    rw [prS, h3] at q
    cases q
  | _ :: _ :: _ :: _ :: _, q => cases q
theorem oneN_of (h : rN W p xs H Q) (e : ∀ ds, prD p ds = prS p ds := by intro _; rfl) (h2 : ∀ x y, pr2 p x y = none := by intro _ _; rfl) (h3 : ∀ x y z, pr3 p x y z = none := by intro _ _ _; rfl) :
    ∃ HF x a ys, xs = [x] ∧ Same HF H ∧ RepL W HF H x a ∧ pr1 p a = some (.lst ys) ∧ ∀ q vs, H q = none → Reps W HF vs ys → Q (.ref q) (upd H q (.lst vs)) := by
  obtain ⟨HF, ds, d, sub, rs, q, o⟩ := h
  rw [e] at q
  match ds, q with
  | [a], q =>
    obtain ⟨x, rfl, rx⟩ := rs.one (ds := [])
    exact ⟨HF, x, a, d, rfl, sub, rx, q, o⟩
  | [], q => cases q
  | [a, b], q =>
    rw [prS, h2] at q
    cases q
  | [a, b, c], q =>
    rw [prS, h3] at q
    cases q
  | _ :: _ :: _ :: _ :: _, q => cases q
end
section
variable {X : Cx} {W : Wd}
theorem neg_ok : UnR X (unaryOp .USub) (fun x H Q => rV W .neg [x] H Q) := by
  intro pins s σ H x v Q I rx h
  obtain ⟨HF, _, a, d, ex, sub, ra, e, o⟩ := one_of h
  cases ex
  cases a <;> try cases e
  cases ra.int_of
  exact un_neg pins s σ H _ v Q I rx ⟨_, rfl, out_v o (.int _)⟩
theorem len_ok (hK : W.K = X.K) : CallR X (.builtin "len") (fun xs H Q => rV W .len xs H Q) := by
  intro pins s σ H xs us Q I r h
  obtain ⟨HF, x, a, d, rfl, sub, rx, e, o⟩ := one_of h
  cases a <;> try cases e
  · rename_i z
    obtain ⟨e1, e2⟩ := if_some (show (if short z.length = true then some (Dv.int z.length) else none) = some d from e)
    cases e2
    cases rx.str_of
    exact call_len_str pins s σ H _ us Q I r ⟨z, rfl, short_ok e1, out_v o (.int _)⟩
  · obtain ⟨p, vs, rfl, hp, r1, _⟩ := rx.tup_of sub
    rw [hK] at hp
    exact call_len_seq pins s σ H _ us Q I r ⟨p, vs, rfl, .inr hp, by rw [r1.length]; exact out_v o (.int _)⟩
  · obtain ⟨p, vs, rfl, hp, r1⟩ := rx.lst_of sub
    exact call_len_seq pins s σ H _ us Q I r ⟨p, vs, rfl, .inl (SqL.of hp), by rw [r1.length]; exact out_v o (.int _)⟩
  · obtain ⟨p, rfl, hp⟩ := rx.scr_of sub
    rw [hK] at hp
    exact call_len_seq pins s σ H _ us Q I r ⟨p, _, rfl, .inl hp, by rw [List.length_map]; exact out_v o (.int _)⟩
theorem int_ok : CallR X (.type "int") (fun xs H Q => rV W .int xs H Q) := by
  intro pins s σ H xs us Q I r h
  obtain ⟨HF, x, a, d, rfl, sub, rx, e, o⟩ := one_of h
  cases a <;> try cases e
  · cases rx.bl_of
    exact call_int1 pins s σ H _ us Q I r (.inr ⟨_, rfl, out_v o (.int _)⟩)
  · cases rx.int_of
    exact call_int1 pins s σ H _ us Q I r (.inl ⟨_, rfl, out_v o (.int _)⟩)
theorem abs_ok : CallR X (.builtin "abs") (fun xs H Q => rV W .abs xs H Q) := by
  intro pins s σ H xs us Q I r h
  obtain ⟨HF, x, a, d, rfl, sub, rx, e, o⟩ := one_of h
  cases a <;> try cases e
  rename_i i
  cases rx.int_of
  have n : (if i < 0 then -i else i) = (i.natAbs : Int) := by split <;> omega
  exact call_abs pins s σ H _ us Q I r ⟨i, rfl, by rw [n]; exact out_v o (.int _)⟩
theorem if_opt2 {α : Type} {c : Prop} [Decidable c] {o : Option α} {y : α} (h : (if c then o else none) = some y) : c ∧ o = some y := by
  by_cases k : c
  · rw [if_pos k] at h
    exact ⟨k, h⟩
  · rw [if_neg k] at h
    cases h
theorem okDepth_some {x y : Dv} (h : okDepth x y = true) : x.depth ≤ 100 ∧ y.depth ≤ 100 := by
  unfold okDepth at h
  simpa only [Bool.and_eq_true, decide_eq_true_eq] using h
theorem depth_two {da db : PyData} {n : Nat} (h1 : da.depth ≤ n) (h2 : db.depth ≤ n) : PyData.depthAll [da, db] ≤ n := by
  simp only [PyData.depthAll]
  omega
theorem max2_ok (hK : W.K = X.K) (hc : X.calm = true) (hu : X.A.units + 200 < cLine) : CallR X (.builtin "max") (fun xs H Q => rV W .max2 xs H Q) := by
  intro pins s σ H xs us Q I r h
  obtain ⟨HF, x, y, a, b, d, rfl, sub, rx, ry, e, o⟩ := two_of h
  cases a <;> cases b <;> try cases e
  · rename_i i j
    cases rx.int_of
    cases ry.int_of
    have n : (if j > i then j else i) = max i j := by split <;> omega
    exact call_max2 hc pins s σ H _ us Q I r ⟨i, j, rfl, by rw [n]; exact out_v o (.int _)⟩
  · rename_i as bs
    obtain ⟨e0, e1⟩ := if_opt2 (show (if okDepth (.tup as) (.tup bs) = true then (ltD (.tup as) (.tup bs)).map fun c => if c then Dv.tup bs else Dv.tup as else none) = some d from e)
    obtain ⟨c, e2, rfl⟩ := Option.map_eq_some_iff.mp e1
    obtain ⟨h1, h2, h3, _, h5, rfl⟩ := ltD_some e2
    obtain ⟨p, vs, rfl, hp, r1, k1⟩ := rx.tup_of sub
    obtain ⟨p2, vs2, rfl, hp2, r2, k2⟩ := ry.tup_of sub
    cases r with
    | cons ru rr => cases rr with
      | cons ru2 rn =>
        cases rn
        obtain ⟨as1, q1⟩ := (rx.rep sub).reads hK I h1 ru
        obtain ⟨as2, q2⟩ := (ry.rep sub).reads hK I h2 ru2
        obtain ⟨d1, d2⟩ := okDepth_some e0
        refine max_two_data (I.ok.hd hc) q1 q2 (Dv.toP_plain _ h1) (Dv.toP_plain _ h2) h3 h5 (by
          have := depth_two (n := 100) (by rw [Dv.toP_depth _ h1]; exact d1) (by rw [Dv.toP_depth _ h2]; exact d2)
          omega) fun h' tk k => ?_
        by_cases z : PySem.W.dataLt (Dv.toP (.tup as)) (Dv.toP (.tup bs)) = true
        · rw [if_pos z]
          rw [if_pos z] at o
          exact ⟨_, H, I.kept k, ru2, out_v o (.tup k2 r2)⟩
        · rw [if_neg z]
          rw [if_neg z] at o
          exact ⟨_, H, I.kept k, ru, out_v o (.tup k1 r1)⟩
theorem min2_ok (hK : W.K = X.K) (hc : X.calm = true) (hu : X.A.units + 200 < cLine) : CallR X (.builtin "min") (fun xs H Q => rV W .min2 xs H Q) := by
  intro pins s σ H xs us Q I r h
  obtain ⟨HF, x, y, a, b, d, rfl, sub, rx, ry, e, o⟩ := two_of h
  cases a <;> cases b <;> try cases e
  · rename_i i j
    cases rx.int_of
    cases ry.int_of
    have n : (if j < i then j else i) = min i j := by split <;> omega
    exact call_min2 hc pins s σ H _ us Q I r ⟨i, j, rfl, by rw [n]; exact out_v o (.int _)⟩
  · rename_i as bs
    obtain ⟨e0, e1⟩ := if_opt2 (show (if okDepth (.tup as) (.tup bs) = true then (ltD (.tup bs) (.tup as)).map fun c => if c then Dv.tup bs else Dv.tup as else none) = some d from e)
    obtain ⟨c, e2, rfl⟩ := Option.map_eq_some_iff.mp e1
    obtain ⟨h1, h2, h3, _, h5, rfl⟩ := ltD_some e2
    obtain ⟨p, vs, rfl, hp, r1, k1⟩ := rx.tup_of sub
    obtain ⟨p2, vs2, rfl, hp2, r2, k2⟩ := ry.tup_of sub
    cases r with
    | cons ru rr => cases rr with
      | cons ru2 rn =>
        cases rn
        obtain ⟨as1, q1⟩ := (rx.rep sub).reads hK I h2 ru
        obtain ⟨as2, q2⟩ := (ry.rep sub).reads hK I h1 ru2
        obtain ⟨d1, d2⟩ := okDepth_some e0
        have h3' : PySem.W.alike (Dv.toP (.tup as)) (Dv.toP (.tup bs)) = true := (PySem.W.alike_comm _ _).trans h3
        refine min_two_data (I.ok.hd hc) q1 q2 (Dv.toP_plain _ h2) (Dv.toP_plain _ h1) h3' (PySem.W.ne_none_both h3 h5) (by
          have := depth_two (n := 100) (by rw [Dv.toP_depth _ h2]; exact d1) (by rw [Dv.toP_depth _ h1]; exact d2)
          omega) fun h' tk k => ?_
        by_cases z : PySem.W.dataLt (Dv.toP (.tup bs)) (Dv.toP (.tup as)) = true
        · rw [if_pos z]
          rw [if_pos z] at o
          exact ⟨_, H, I.kept k, ru2, out_v o (.tup k2 r2)⟩
        · rw [if_neg z]
          rw [if_neg z] at o
          exact ⟨_, H, I.kept k, ru, out_v o (.tup k1 r1)⟩
theorem lstOf_some {x : Dv} {xs : List Dv} (h : lstOf x = some xs) : x = .lst xs := by
  cases x <;> cases h
  rfl
theorem sum_ok (hc : X.calm = true) : CallR X (.builtin "sum") (fun xs H Q => rV W .sum xs H Q) := by
  intro pins s σ H xs us Q I r h
  obtain ⟨HF, x, a, d, rfl, sub, rx, e, o⟩ := one_of h
  obtain ⟨ys, e1, e2⟩ := Option.bind_eq_some_iff.mp (show (lstOf a).bind _ = some d from e)
  obtain ⟨ns, e3, rfl⟩ := Option.map_eq_some_iff.mp e2
  obtain rfl := lstOf_some e1
  obtain rfl := intsOf_some e3
  obtain ⟨p, vs, rfl, hp, r1⟩ := rx.lst_of sub
  rw [r1.ints] at hp
  exact cr_sum hc pins s σ H _ us Q I r ⟨p, ns, rfl, SqL.of hp, out_v o (.int _)⟩
theorem all_ok (hc : X.calm = true) : CallR X (.builtin "all") (fun xs H Q => rV W .all xs H Q) := by
  intro pins s σ H xs us Q I r h
  obtain ⟨HF, x, a, d, rfl, sub, rx, e, o⟩ := one_of h
  obtain ⟨ys, e1, e2⟩ := Option.bind_eq_some_iff.mp (show (lstOf a).bind _ = some d from e)
  obtain ⟨ns, e3, rfl⟩ := Option.map_eq_some_iff.mp e2
  obtain rfl := lstOf_some e1
  obtain rfl := blsOf_some e3
  obtain ⟨p, vs, rfl, hp, r1⟩ := rx.lst_of sub
  rw [r1.bls] at hp
  exact cr_all hc pins s σ H _ us Q I r ⟨p, ns, rfl, SqL.of hp, out_v o (.bl _)⟩
theorem any_ok (hc : X.calm = true) : CallR X (.builtin "any") (fun xs H Q => rV W .any xs H Q) := by
  intro pins s σ H xs us Q I r h
  obtain ⟨HF, x, a, d, rfl, sub, rx, e, o⟩ := one_of h
  obtain ⟨ys, e1, e2⟩ := Option.bind_eq_some_iff.mp (show (lstOf a).bind _ = some d from e)
  obtain ⟨ns, e3, rfl⟩ := Option.map_eq_some_iff.mp e2
  obtain rfl := lstOf_some e1
  obtain rfl := blsOf_some e3
  obtain ⟨p, vs, rfl, hp, r1⟩ := rx.lst_of sub
  rw [r1.bls] at hp
  exact cr_any hc pins s σ H _ us Q I r ⟨p, ns, rfl, SqL.of hp, out_v o (.bl _)⟩
theorem seqOf_some {x : Dv} {xs : List Dv} (h : seqOf x = some xs) : x = .lst xs ∨ x = .tup xs := by
  cases x <;> cases h
  · exact .inr rfl
  · exact .inl rfl
theorem list_fresh (hK : W.K = X.K) : CallR X (.type "list") (fun xs H Q => rN W .list xs H Q) := by
  intro pins s σ H xs us Q I r h
  obtain ⟨HF, x, a, ys, rfl, sub, rx, e, o⟩ := oneN_of h
  obtain ⟨zs, e1, e2⟩ := Option.map_eq_some_iff.mp (show (seqOf a).map Dv.lst = some _ from e)
  cases e2
  rcases seqOf_some e1 with rfl | rfl
  · obtain ⟨p, vs, rfl, hp, r1⟩ := rx.lst_of sub
    exact call_list_of pins s σ H _ us Q I r ⟨p, vs, rfl, .inl (SqL.of hp), fun q hq => o q vs hq r1⟩
  · obtain ⟨p, vs, rfl, hp, r1, _⟩ := rx.tup_of sub
    rw [hK] at hp
    exact call_list_of pins s σ H _ us Q I r ⟨p, vs, rfl, .inr hp, fun q hq => o q vs hq r1⟩
theorem rV_of_rN {p : Pr} {f : List Dv} {xs : List V} {H : Hp} {Q : VK} (h : rV W p xs H Q) (hl : ∀ ds d, prD p ds = some d → ∃ ys, d = .lst ys) : rN W p xs H Q := by
  obtain ⟨HF, ds, d, sub, rs, e, o⟩ := h
  obtain ⟨ys, rfl⟩ := hl ds d e
  exact ⟨HF, ds, ys, sub, rs, e, fun q vs hq r => out_l o hq r⟩
theorem list_ok (hK : W.K = X.K) : CallR X (.type "list") (fun xs H Q => rV W .list xs H Q) := by
  intro pins s σ H xs us Q I r h
  obtain ⟨HF, x, a, d, rfl, sub, rx, e, o⟩ := one_of h
  obtain ⟨zs, e1, e2⟩ := Option.map_eq_some_iff.mp (show (seqOf a).map Dv.lst = some _ from e)
  subst e2
  exact list_fresh hK pins s σ H _ us Q I r ⟨HF, [a], zs, sub, ⟨rx, trivial⟩, e, fun q vs hq r => out_l o hq r⟩
theorem tuple_ok (hK : W.K = X.K) : CallR X (.type "tuple") (fun xs H Q => rV W .tuple xs H Q) := by
  intro pins s σ H xs us Q I r h
  obtain ⟨HF, x, a, d, rfl, sub, rx, e, o⟩ := one_of h
  obtain ⟨zs, e1, e2⟩ := Option.map_eq_some_iff.mp (show (seqOf a).map Dv.tup = some _ from e)
  subst e2
  rcases seqOf_some e1 with rfl | rfl
  · obtain ⟨p, vs, rfl, hp, r1⟩ := rx.lst_of sub
    exact call_tuple_of pins s σ H _ us Q I r ⟨p, vs, rfl, .inl ⟨SqL.of hp, fun q hq => out_t o hq r1⟩⟩
  · obtain ⟨p, vs, rfl, hp, r1, hp'⟩ := rx.tup_of sub
    rw [hK] at hp
    exact call_tuple_of pins s σ H _ us Q I r ⟨p, vs, rfl, .inr ⟨hp, out_v o (.tup hp' r1)⟩⟩

/-! ### items -/
theorem atI_map {α β : Type} (f : α → β) (xs : List α) (i : Int) : L2.atI (xs.map f) i = (L2.atI xs i).map f := by
  unfold L2.atI
  rw [List.length_map]
  cases L2.ixN xs.length i with
  | none => rfl
  | some j => simp
theorem atI_rep {H : Hp} {vs : List V} {ds : List Dv} (r : Reps W H vs ds) {i : Int} {d : Dv} (h : L2.atI ds i = some d) : ∃ v, L2.atI vs i = some v ∧ Rep W H v d := by
  unfold L2.atI at h ⊢
  obtain ⟨j, e1, e2⟩ := Option.bind_eq_some_iff.mp h
  obtain ⟨v, e3, e4⟩ := r.get e2
  exact ⟨v, by rw [r.length, e1]; exact e3, e4⟩
theorem if_opt {α : Type} {c : Prop} [Decidable c] {o : Option α} {y : α} (h : (if c then o else none) = some y) : c ∧ o = some y := by
  by_cases k : c
  · rw [if_pos k] at h
    exact ⟨k, h⟩
  · rw [if_neg k] at h
    cases h
theorem ix_ok (hK : W.K = X.K) : IxR X (fun x y H Q => rV W .ix [x, y] H Q) := by
  intro value slice pins s σ H x y v u Q I rx ry h hs
  obtain ⟨HF, x', y', a, b, d, ex, sub, ra, rb, e, o⟩ := two_of h
  cases ex
  cases a <;> cases b <;> try cases e
  · rename_i z i
    obtain ⟨e1, e2⟩ := if_opt (show (if short z.length = true then (L2.atI z.cps.toList i).map fun c => Dv.str ⟨#[c]⟩ else none) = some d from e)
    obtain ⟨c, e3, rfl⟩ := Option.map_eq_some_iff.mp e2
    cases ra.str_of
    cases rb.int_of
    exact ix_str value slice pins s σ H _ _ v u Q I rx ry ⟨z, i, c, rfl, rfl, short_ok e1, e3, out_v o (.str _)⟩ hs
  · rename_i ds i
    obtain ⟨p, vs, rfl, hp, r1, _⟩ := ra.tup_of sub
    cases rb.int_of
    rw [hK] at hp
    obtain ⟨w, e1, e2⟩ := atI_rep r1 (show L2.atI ds i = some d from e)
    exact ix_tup value slice pins s σ H _ _ v u Q I rx ry ⟨p, vs, i, w, rfl, rfl, hp, e1, out_v o e2⟩ hs
  · rename_i ds i
    obtain ⟨p, vs, rfl, hp, r1⟩ := ra.lst_of sub
    cases rb.int_of
    obtain ⟨w, e1, e2⟩ := atI_rep r1 (show L2.atI ds i = some d from e)
    exact ix_list value slice pins s σ H _ _ v u Q I rx ry ⟨p, vs, i, w, rfl, rfl, SqL.of hp, e1, out_v o e2⟩ hs
  · rename_i ns i
    obtain ⟨p, rfl, hp⟩ := ra.scr_of sub
    cases rb.int_of
    rw [hK] at hp
    obtain ⟨n, e1, rfl⟩ := Option.map_eq_some_iff.mp (show (L2.atI ns i).map Dv.int = some d from e)
    exact ix_list value slice pins s σ H _ _ v u Q I rx ry ⟨p, _, i, .int n, rfl, rfl, hp, by rw [atI_map, e1]; rfl, out_v o (.int n)⟩ hs

/-! ### slices -/
theorem cutD_len {α : Type} (xs : List α) (lo hi : Option Int) : (cutD xs lo hi).length ≤ xs.length := by
  unfold cutD
  rw [List.length_take, List.length_drop]
  omega
theorem Reps.cut {H : Hp} {vs : List V} {ds : List Dv} (r : Reps W H vs ds) (lo hi : Option Int) : Reps W H (cutV vs lo hi) (cutD ds lo hi) := by
  unfold cutV cutD
  rw [r.length]
  exact (r.drop _).take _
theorem cutV_ints (ns : List Int) (lo hi : Option Int) : cutV (ns.map V.int) lo hi = (cutD ns lo hi).map V.int := by
  unfold cutV cutD
  rw [List.length_map, List.map_take, List.map_drop]
def rS (W : Wd) (x : V) (lo hi : Option Int) (H : Hp) (Q : VK) : Prop := ∃ HF a d, Same HF H ∧ RepL W HF H x a ∧ slD a lo hi = some d ∧ Out W HF H d Q
def rSN (W : Wd) (x : V) (lo hi : Option Int) (H : Hp) (Q : VK) : Prop := ∃ HF a ys, Same HF H ∧ RepL W HF H x a ∧ slD a lo hi = some (.lst ys) ∧ ∀ q vs, H q = none → Reps W HF vs ys → Q (.ref q) (upd H q (.lst vs))
theorem slN_ok (hK : W.K = X.K) : SlR X (rSN W) := by
  intro pins s σ H x v vl vu lo hi sl Q I rx hs pl pu h
  obtain ⟨HF, a, d, sub, ra, e, o⟩ := h
  cases a <;> try cases e
  · rename_i z
    obtain ⟨e1, e2⟩ := if_some (show (if short z.length = true then some (Dv.str _) else none) = some _ from e)
    cases e2
  · rename_i ds
    obtain ⟨p, vs, rfl, hp, r1⟩ := ra.lst_of sub
    exact sl_list pins s σ H _ v vl vu lo hi sl Q I rx hs pl pu ⟨p, vs, rfl, SqL.of hp, fun q hq => o q _ hq (r1.cut lo hi)⟩
  · rename_i ns
    obtain ⟨p, rfl, hp⟩ := ra.scr_of sub
    rw [hK] at hp
    exact sl_list pins s σ H _ v vl vu lo hi sl Q I rx hs pl pu ⟨p, _, rfl, hp, fun q hq => o q _ hq (by rw [cutV_ints]; exact Reps.of_ints _)⟩
end
end CF

set_option Elab.async false
set_option linter.all false
set_option maxRecDepth 100000
namespace CF
open PySem PySem.Spec PyProof.Rows L2

section
variable {X : Cx} {W : Wd}
theorem sl_ok (hK : W.K = X.K) : SlR X (rS W) := by
  intro pins s σ H x v vl vu lo hi sl Q I rx hs pl pu h
  obtain ⟨HF, a, d, sub, ra, e, o⟩ := h
  cases a <;> try cases e
  · rename_i z
    obtain ⟨e1, e2⟩ := if_some (show (if short z.length = true then some (Dv.str (strCut z lo hi)) else none) = some _ from e)
    cases e2
    cases ra.str_of
    exact sl_str pins s σ H _ v vl vu lo hi sl Q I rx hs pl pu ⟨z, rfl, short_ok e1, out_v o (.str _)⟩
  · rename_i ds
    obtain ⟨p, vs, rfl, hp, r1, k1⟩ := ra.tup_of sub
    rw [hK] at hp
    refine sl_tupA pins s σ H _ v vl vu lo hi sl Q I rx hs pl pu ⟨p, vs, rfl, hp, fun z => ?_, fun _ q hq => out_t o hq (r1.cut lo hi)⟩
    have e3 : cutD ds lo hi = ds := by
      unfold cutD
      rw [← r1.length, z.1, z.2, List.drop_zero, Nat.sub_zero, r1.length, List.take_length]
    rw [e3] at o
    exact out_v o (.tup k1 r1)
  · rename_i ds
    exact slN_ok hK pins s σ H _ v vl vu lo hi sl Q I rx hs pl pu ⟨HF, _, _, sub, ra, rfl, fun q vs hq r => out_l o hq r⟩
  · rename_i ns
    exact slN_ok hK pins s σ H _ v vl vu lo hi sl Q I rx hs pl pu ⟨HF, _, _, sub, ra, rfl, fun q vs hq r => out_l o hq r⟩

/-! ### isinstance by a built-in type -/
def tyName : Ty → String
  | .int => "int"
  | .bool => "bool"
  | .str => "str"
  | .tuple => "tuple"
  | .list => "list"
  | .dict => "dict"
def dvTy : Dv → Option String
  | .non => some "NoneType"
  | .bl _ => some "bool"
  | .int _ => some "int"
  | .str _ => some "str"
  | .tup _ => some "tuple"
  | .lst _ => some "list"
  | .dct _ _ => some "dict"
  | .scr _ => some "list"
  | .exc _ _ => none
theorem tyX_of (hK : W.K = X.K) {pins : List (Addr × Obj)} {s : Shared} {σ : L2.St} {H : Hp} (I : Inv X pins σ H s) {d : Dv} {x : V} (r : Rep W H x d) {n : String} (h : dvTy d = some n) : TyX X.K H x (.type n) := by
  cases r with
  | non => cases h; exact .base .non
  | bl b => cases h; exact .base (.bl b)
  | int i => cases h; exact .base (.int i)
  | str z => cases h; exact .base (.str z)
  | tup q _ =>
    cases h
    rw [hK] at q
    rcases q with (q | ⟨o, q⟩) | ⟨o, its, n, q, c, _⟩
    · exact .base (.tup q)
    · exact .fTuple q
    · exact .kTuple q c
  | lst q _ => cases h; exact .base (.lst q)
  | dct q _ _ => cases h; exact .base (.dK q)
  | scr q =>
    cases h
    rw [hK] at q
    rcases q with (q | ⟨o, q⟩) | ⟨o, its, n, q, c, _⟩
    · exact .base (.lst q)
    · exact .base (.frz q)
    · exact .kList q c
  | exc _ _ _ _ _ => cases h
theorem kitB_ok (t : Ty) (d : Dv) (n : String) (h : dvTy d = some n) : kitB n (tyName t) = some (isTy t d) := by
  cases d <;> cases h <;> cases t <;> first | rfl | decide +kernel
theorem isi_ok (hK : W.K = X.K) (t : Ty) : CallR X (.builtin "isinstance") (fun xs H Q => ∃ HF x a, xs = [x, .ty (tyName t)] ∧ Same HF H ∧ RepL W HF H x a ∧ (dvTy a).isSome = true ∧ Q (.bl (isTy t a)) H) := by
  intro pins s σ H xs us Q I r h
  obtain ⟨HF, x, a, rfl, sub, ra, e, o⟩ := h
  obtain ⟨n, hn⟩ := Option.isSome_iff_exists.mp e
  exact call_isi pins s σ H _ us Q I r ⟨x, _, _, _, _, rfl, .ty _, tyX_of hK I (ra.rep sub) hn, kit_ty (kitB_ok t a n hn), o⟩

/-! ### repr -/
mutual
theorem bare_reads : ∀ {d : Dv} {h : Heap} {u : Value} {as : List Addr}, d.bare = true → Reads h u d.toP as → as = []
  | .non, _, _, _, _, r => by cases r; rfl
  | .bl _, _, _, _, _, r => by cases r; rfl
  | .int _, _, _, _, _, r => by cases r; rfl
  | .str _, _, _, _, _, r => by cases r; rfl
  | .tup xs, _, _, _, h, r => by
    simp only [Dv.bare] at h
    simp only [Dv.toP] at r
    cases r with
    | tuple _ _ _ q => exact bares_reads h q
  | .lst _, _, _, _, h, _ => nomatch h
  | .dct _ _, _, _, _, h, _ => nomatch h
  | .scr _, _, _, _, h, _ => nomatch h
  | .exc _ _, _, _, _, h, _ => nomatch h
theorem bares_reads : ∀ {ds : List Dv} {h : Heap} {us : List Value} {as : List Addr}, Dv.bares ds = true → ReadsAll h us (Dv.toPs ds) as → as = []
  | [], _, _, _, _, r => by cases r; rfl
  | d :: ds, _, _, _, h, r => by
    simp only [Dv.bares, Bool.and_eq_true] at h
    cases r with
    | cons q1 q2 => rw [bare_reads h.1 q1, bares_reads h.2 q2, List.append_nil]
end
mutual
theorem bare_plain : ∀ {d : Dv}, d.bare = true → d.plain = true
  | .non, _ => rfl
  | .bl _, _ => rfl
  | .int _, _ => rfl
  | .str _, _ => rfl
  | .tup xs, h => by
    simp only [Dv.bare] at h
    simp only [Dv.plain]
    exact bares_plain h
  | .lst _, h => nomatch h
  | .dct _ _, h => nomatch h
  | .scr _, h => nomatch h
  | .exc _ _, h => nomatch h
theorem bares_plain : ∀ {ds : List Dv}, Dv.bares ds = true → Dv.plains ds = true
  | [], _ => rfl
  | d :: ds, h => by
    simp only [Dv.bares, Bool.and_eq_true] at h
    simp only [Dv.plains, bare_plain h.1, bares_plain h.2, Bool.and_self]
end
mutual
theorem plain_nodict : ∀ {d : Dv}, d.plain = true → d.toP.hasDict = false
  | .non, _ => rfl
  | .bl _, _ => rfl
  | .int _, _ => rfl
  | .str _, _ => rfl
  | .tup xs, h => by
    simp only [Dv.plain] at h
    simp only [Dv.toP, PyData.hasDict]
    exact plains_nodict h
  | .lst xs, h => by
    simp only [Dv.plain] at h
    simp only [Dv.toP, PyData.hasDict]
    exact plains_nodict h
  | .dct _ _, h => nomatch h
  | .scr _, h => nomatch h
  | .exc _ _, h => nomatch h
theorem plains_nodict : ∀ {ds : List Dv}, Dv.plains ds = true → PyData.hasDictAll (Dv.toPs ds) = false
  | [], _ => rfl
  | d :: ds, h => by
    simp only [Dv.plains, Bool.and_eq_true] at h
    simp only [Dv.toPs, PyData.hasDictAll, plain_nodict h.1, plains_nodict h.2, Bool.or_self]
end
theorem pairs_keys {P : Program} {w : World} : ∀ {es : List DictEntry} {kvs : List (Key × Value)}, Pairs (mixKind P w) es kvs → Vals (kvs.map fun p => kV p.1) (es.map (·.key)) ∧ es.map (·.val) = kvs.map (·.2)
  | _, _, .nil => ⟨.nil, rfl⟩
  | _, _, .cons (e := e) (kv := kv) h1 h2 t => by
    obtain ⟨r1, r2⟩ := pairs_keys t
    refine ⟨.cons ?_ r1, by rw [List.map_cons, List.map_cons, h2, r2]⟩
    rcases keyIs_shape (show keyIs kv.1 e.key = true from h1) with ⟨i, t, h3, h4⟩ | ⟨i, t, h3, h4⟩
    · show RelV (kV kv.1) e.key
      rw [h3, h4]
      exact ⟨t, rfl⟩
    · show RelV (kV kv.1) e.key
      rw [h3, h4]
      exact ⟨t, rfl⟩
theorem kv_vals : ∀ {kvs : List (Key × V)} {vs : List (Key × Value)}, KV kvs vs → Vals (kvs.map (·.2)) (vs.map (·.2)) ∧ kvs.map (fun p => kV p.1) = vs.map (fun p => kV p.1)
  | _, _, .nil => ⟨.nil, rfl⟩
  | _, _, .cons h t => by
    obtain ⟨r1, r2⟩ := kv_vals t
    exact ⟨.cons h.2 r1, by rw [List.map_cons, List.map_cons, h.1, r2]⟩
/-- a dict of plain things reads as one -/
theorem dct_reads (hK : W.K = X.K) {pins : List (Addr × Obj)} {s : Shared} {σ : L2.St} {H : Hp} (I : Inv X pins σ H s) {ks vs : List Dv} {x : V} {u : Value} (r : Rep W H x (.dct ks vs)) (h1 : Dv.bares ks = true) (h2 : Dv.bares vs = true) (hl : ks.length = vs.length) (ru : RelV x u) :
    ∃ a, u = .ref a ∧ (a == sysModules) = false ∧ Reads s.heap u (Dv.toP (.dct ks vs)) [a] := by
  cases r with
  | @dct a kvs _ _ q rk rv =>
    cases ru
    obtain ⟨_, hm, ws, kv, o, es, ep, ho, hx, hd, _, hp, _⟩ := I.hok a _ q
    obtain ⟨p1, p2⟩ := pairs_keys hp
    obtain ⟨q1, q2⟩ := kv_vals kv
    have k1 : Vals (kvs.map fun p => kV p.1) (es.toList.map (·.key)) := by rw [q2]; exact p1
    have k2 : Vals (kvs.map (·.2)) (es.toList.map (·.val)) := by rw [p2]; exact q1
    obtain ⟨as, z1⟩ := Reps.reads hK I rk (bares_plain h1) k1
    obtain ⟨bs, z2⟩ := Reps.reads hK I rv (bares_plain h2) k2
    have e1 := bares_reads h1 z1
    have e2 := bares_reads h2 z2
    subst e1 e2
    have hl' : (Dv.toPs ks).length = (Dv.toPs vs).length := by rw [Dv.toPs_map, Dv.toPs_map, List.length_map, List.length_map, hl]
    refine ⟨a, rfl, hm, ?_⟩
    simp only [Dv.toP]
    refine .dict (as := []) (bs := []) ho hx.1 hd ?_ ?_
    · rw [List.map_fst_zip (Nat.le_of_eq hl')]
      exact z1
    · rw [List.map_snd_zip (Nat.le_of_eq hl'.symm)]
      exact z2
/-- repr of what reads as data -/
theorem repr_data (hg : X.A.guards = some []) (hu : X.A.units + 200 < cLine) {pins : List (Addr × Obj)} {s : Shared} {σ : L2.St} {H : Hp} {Q : VK} (I : Inv X pins σ H s) {d : PyData} {u : Value} {as : List Addr} (r : Reads s.heap u d as)
    (hm : d.hasDict = true → sysModules ∉ as) (hs : Dv.shows d = true) (q : Q (.str d.shown) H) : wpAny (model X.prog X.w) X.A (call (.builtin "repr") [u]) (EP X pins σ Q) X.xe s := by
  unfold Dv.shows at hs
  simp only [Bool.and_eq_true, decide_eq_true_eq] at hs
  obtain ⟨⟨h1, h2⟩, h3⟩ := hs
  have hz : d.shown.length ≤ sizeLine := by rw [sizeLine_eq]; exact h2
  have fin : ∀ (h' : Heap) (t : Tok) (tk : Nat), (∀ b o, s.heap.get? b = some o → h'.get? b = some o) → EP X pins σ Q (.str d.shown t) { s with heap := h', toks := tk } := fun h' t tk k => ⟨.str _, H, I.kept k, ⟨t, rfl⟩, q⟩
  have same : ∀ (t : Tok) (tk : Nat), EP X pins σ Q (.str d.shown t) { s with toks := tk } := fun t tk => fin s.heap t tk fun _ _ e => e
  cases r with
  | none => exact PySem.P.repr_of_none (same _ _)
  | bool b => exact PySem.P.repr_of_bool (same _ _)
  | int i t =>
    simp only [PyData.showable, decide_eq_true_eq] at h1
    exact PySem.P.repr_of_int h1 (same _ _)
  | str z t => exact PySem.P.repr_of_str (same _ _) hz
  | list a1 a2 a3 a4 => exact repr_of_reads' (.list a1 a2 a3 a4) h1 hm hg (by omega) (fun _ _ e => e) (fun h' t tk k => fin h' t tk k) hz
  | tuple a1 a2 a3 a4 => exact repr_of_reads' (.tuple a1 a2 a3 a4) h1 hm hg (by omega) (fun _ _ e => e) (fun h' t tk k => fin h' t tk k) hz
  | dict a1 a2 a3 a4 a5 => exact repr_of_reads' (.dict a1 a2 a3 a4 a5) h1 hm hg (by omega) (fun _ _ e => e) (fun h' t tk k => fin h' t tk k) hz
theorem lookP_reads (hK : W.K = X.K) {pins : List (Addr × Obj)} {s : Shared} {σ : L2.St} {H : Hp} (I : Inv X pins σ H s) {d : Dv} {p : PyData} {x : V} {u : Value} (e : d.lookP = some p) (r : Rep W H x d) (ru : RelV x u) : ∃ as, Reads s.heap u p as ∧ (p.hasDict = true → sysModules ∉ as) := by
  have pl : ∀ {d : Dv} {p : PyData}, (if d.plain = true then some d.toP else none) = some p → Rep W H x d → ∃ as, Reads s.heap u p as ∧ (p.hasDict = true → sysModules ∉ as) := fun {d p} e r => by
    by_cases h : d.plain = true
    · rw [if_pos h] at e
      cases e
      obtain ⟨as, z⟩ := r.reads hK I h ru
      exact ⟨as, z, fun z => by rw [plain_nodict h] at z; cases z⟩
    · rw [if_neg h] at e
      cases e
  cases d with
  | dct ks vs =>
    have e' : (if (Dv.bares ks && Dv.bares vs && decide (ks.length = vs.length)) = true then some (Dv.toP (.dct ks vs)) else none) = some p := e
    by_cases h : (Dv.bares ks && Dv.bares vs && decide (ks.length = vs.length)) = true
    · rw [if_pos h] at e'
      cases e'
      simp only [Bool.and_eq_true, decide_eq_true_eq] at h
      obtain ⟨a, rfl, hm, z⟩ := dct_reads hK I r h.1.1 h.1.2 h.2 ru
      exact ⟨[a], z, fun _ m => by
        rw [List.mem_singleton] at m
        rw [m] at hm
        simp at hm⟩
    · rw [if_neg h] at e'
      cases e'
  | non => exact pl (d := .non) e r
  | bl b => exact pl (d := .bl b) e r
  | int i => exact pl (d := .int i) e r
  | str z => exact pl (d := .str z) e r
  | tup xs => exact pl (d := .tup xs) e r
  | lst xs => exact pl (d := .lst xs) e r
  | scr ns => exact pl (d := .scr ns) e r
  | exc c v => exact pl (d := .exc c v) e r
end
end CF

set_option Elab.async false
set_option linter.all false
set_option maxRecDepth 100000
namespace CF
open PySem PySem.Spec PyProof.Rows L2

section
variable {X : Cx} {W : Wd}
theorem str_ok : CallR X (.type "str") (fun xs H Q => rV W .str xs H Q) := by
  intro pins s σ H xs us Q I r h
  obtain ⟨HF, x, a, d, rfl, sub, rx, e, o⟩ := one_of h
  cases a <;> try cases e
  · rename_i i
    obtain ⟨e1, e2⟩ := if_some (show (if i.natAbs.log2 < 1920 then some (Dv.str (toString i)) else none) = some d from e)
    cases e2
    cases rx.int_of
    exact call_str_int pins s σ H _ us Q I r ⟨i, rfl, e1, out_v o (.str _)⟩
  · cases rx.str_of
    exact SkE.call_str_str pins s σ H _ us Q I r ⟨_, rfl, out_v o (.str _)⟩
/-! ### sorted of two -/
theorem sort2_some {xs ys : List Dv} (e : sort2 xs = some ys) : ∃ x y c, xs = [x, y] ∧ x.plain = true ∧ y.plain = true ∧ PySem.W.alike x.toP y.toP = true ∧ x.toP ≠ .none ∧ (∃ a as, x = .tup (a :: as)) ∧ (∃ b bs, y = .tup (b :: bs)) ∧ x.depth ≤ 100 ∧ y.depth ≤ 100 ∧ c = PySem.W.dataLt y.toP x.toP ∧ ys = if c = true then [y, x] else [x, y] := by
  unfold sort2 at e
  split at e
  · rename_i a as b bs
    obtain ⟨e1, e2⟩ := if_opt2 e
    obtain ⟨c, e3, rfl⟩ := Option.map_eq_some_iff.mp e2
    obtain ⟨h1, h2, h3, _, h5, h6⟩ := ltD_some e3
    obtain ⟨d1, d2⟩ := okDepth_some e1
    exact ⟨_, _, c, rfl, h2, h1, (PySem.W.alike_comm _ _).trans h3, PySem.W.ne_none_both h3 h5, ⟨a, as, rfl⟩, ⟨b, bs, rfl⟩, d1, d2, h6, rfl⟩
  · cases e
theorem Reps.duo {H : Hp} {vs : List V} {a b : Dv} (r : Reps W H vs [a, b]) : ∃ u v, vs = [u, v] ∧ Rep W H u a ∧ Rep W H v b := by
  cases r with
  | cons h1 r => cases r with
    | cons h2 r => cases r; exact ⟨_, _, rfl, h1, h2⟩
theorem vals_two {vs : List V} {us : List Value} {a b : V} (r : Vals [a, b] us) : ∃ u v, us = [u, v] ∧ RelV a u ∧ RelV b v := by
  cases r with
  | cons h1 r => cases r with
    | cons h2 r => cases r; exact ⟨_, _, rfl, h1, h2⟩
theorem sort_ok (hK : W.K = X.K) (hu : X.A.units + 200 < cLine) : CallR X (.builtin "sorted") (fun xs H Q => rV W .sorted xs H Q) := by
  intro pins s σ H xs us Q I r h
  obtain ⟨HF, x, a, d, rfl, sub, rx, e, o⟩ := one_of h
  -- what is sorted stands in the heap
  have go : ∀ {p : Addr} {T : String} {vs : List V} {ds ys : List Dv} {its : List Value} {n : Nat} {ob : Obj}, d = .lst ys → sort2 ds = some ys → Reps W HF vs ds → Vals vs its → T = "list" ∨ T = "tuple" → s.heap.get? p = some ob → ob.cls = .type T → ob.data = .seq its.toArray n →
      wpAny (model X.prog X.w) X.A (call (.builtin "sorted") [.ref p]) (EP X pins σ Q) X.xe s := by
    intro p T vs ds ys its n ob ed es rs rv hT ho hc hd
    subst ed
    obtain ⟨d1, d2, c, rfl, p1, p2, al, nn, ⟨a1, as1, rfl⟩, ⟨a2, as2, rfl⟩, dp1, dp2, ec, eys⟩ := sort2_some es
    obtain ⟨v1, v2, rfl, r1, r2⟩ := rs.duo
    obtain ⟨u1, u2, rfl, q1, q2⟩ := vals_two (vs := []) rv
    obtain ⟨z1, t1⟩ := (r1.mono sub).reads hK I p1 q1
    obtain ⟨z2, t2⟩ := (r2.mono sub).reads hK I p2 q2
    refine sorted_coll (β := V × Dv) (vs := [u1, u2]) (bs := [(v1, .tup (a1 :: as1)), (v2, .tup (a2 :: as2))]) (R := fun u b => RelV b.1 u) (enc := fun b => b.2.toP) (fun A' E' Q' k => ?_) (.cons q1 (.cons q2 .nil)) (.cons ⟨_, t1⟩ (.cons ⟨_, t2⟩ .nil)) ?_ ?_ (by show 2 ≤ sizeLine; decide) (fun b hb => ?_) fun h' q m out lo er kp hn hat => ?_
    · exact PySem.wpAny_collect_seq p hT ho hc hd k (by show 2 ≤ sizeLine; decide)
    · exact (pair_alike (Dv.toP_plain _ p1) (Dv.toP_plain _ p2) al nn).1
    · refine .inl fun x hx => ?_
      simp only [List.map_cons, List.map_nil, List.mem_cons, List.not_mem_nil, or_false] at hx
      rcases hx with rfl | rfl
      · exact ⟨_, _, by rw [Dv.toP, Dv.toPs]⟩
      · exact ⟨_, _, by rw [Dv.toP, Dv.toPs]⟩
    · simp only [List.mem_cons, List.not_mem_nil, or_false] at hb
      rcases hb with rfl | rfl
      · show X.A.units + 2 + (Dv.toP _).depth < cLine
        rw [Dv.toP_depth _ p1]
        omega
      · show X.A.units + 2 + (Dv.toP _).depth < cLine
        rw [Dv.toP_depth _ p2]
        omega
    · have hl : out.length ≤ sizeLine := by rw [lo]; show 2 ≤ sizeLine; decide
      have hn' : H q = none := I.hok.gone hn
      have fin : ∀ (b1 b2 : V × Dv) (w1 w2 : Value), out = [w1, w2] → RelV b1.1 w1 → RelV b2.1 w2 → Rep W HF b1.1 b1.2 → Rep W HF b2.1 b2.2 → ys = [b1.2, b2.2] → EP X pins σ Q (.ref q) { s with heap := h' } := fun b1 b2 w1 w2 ew k1 k2 m1 m2 ey => by
        subst ew ey
        exact ⟨.ref q, _, I.laidN (t' := s.toks) (o := .lst [b1.1, b2.1]) kp hn hn' ⟨by show 2 ≤ sizeLine; decide, [w1, w2], m, .cons k1 (.cons k2 .nil), hat⟩, rfl, out_l o hn' (.cons m1 (.cons m2 .nil))⟩
      have ems : ∀ (a b : V × Dv), [a, b].mergeSort (PySem.W.dataLe false fun b : V × Dv => b.2.toP) = if PySem.W.dataLe false (fun b : V × Dv => b.2.toP) a b = true then [a, b] else [b, a] := fun a b => by
        simp [List.mergeSort, List.MergeSort.Internal.splitInTwo]
        rw [List.merge]
        by_cases z : PySem.W.dataLe false (fun b : V × Dv => b.2.toP) a b = true <;> simp [z, List.merge]
      rw [ems] at er
      have le : PySem.W.dataLe false (fun b : V × Dv => b.2.toP) (v1, .tup (a1 :: as1)) (v2, .tup (a2 :: as2)) = !PySem.W.dataLt (Dv.toP (.tup (a2 :: as2))) (Dv.toP (.tup (a1 :: as1))) := rfl
      rw [le] at er
      rw [ec] at eys
      by_cases z : PySem.W.dataLt (Dv.toP (.tup (a2 :: as2))) (Dv.toP (.tup (a1 :: as1))) = true
      · rw [if_pos z] at eys
        rw [z, if_neg (by decide)] at er
        cases er with
        | cons k1 er => cases er with
          | cons k2 er => cases er; exact fin _ _ _ _ rfl k1 k2 r2 r1 eys
      · rw [if_neg z] at eys
        rw [if_pos (by simp [z])] at er
        cases er with
        | cons k1 er => cases er with
          | cons k2 er => cases er; exact fin _ _ _ _ rfl k1 k2 r1 r2 eys
  cases a <;> try cases e
  · rename_i ds
    obtain ⟨ys, e1, e2⟩ := Option.map_eq_some_iff.mp (show (sort2 ds).map Dv.lst = some d from e)
    obtain ⟨p, vs, rfl, hp, r1, _⟩ := rx.tup_of sub
    rw [hK] at hp
    obtain ⟨u, rfl, hr⟩ : ∃ u, us = [u] ∧ RelV (V.ref p) u := by
      cases r with
      | cons h1 r => cases r; exact ⟨_, rfl, h1⟩
    cases hr
    obtain ⟨its, rv, ⟨ob, ho, hc, n, hd⟩, _⟩ := I.tuple hp
    exact go e2.symm e1 r1 rv (.inr rfl) ho hc hd
  · rename_i ds
    obtain ⟨ys, e1, e2⟩ := Option.map_eq_some_iff.mp (show (sort2 ds).map Dv.lst = some d from e)
    obtain ⟨p, vs, rfl, hp, r1⟩ := rx.lst_of sub
    obtain ⟨u, rfl, hr⟩ : ∃ u, us = [u] ∧ RelV (V.ref p) u := by
      cases r with
      | cons h1 r => cases r; exact ⟨_, rfl, h1⟩
    cases hr
    obtain ⟨its, n, rv, ho, _⟩ := I.lst hp
    exact go e2.symm e1 r1 rv (.inl rfl) ho rfl rfl
end
end CF

set_option Elab.async false
set_option linter.all false
set_option maxRecDepth 100000
namespace CF
open PySem PySem.Spec PyProof.Rows L2

/-! ## zip(xs, ys), whatever it handed out last; enumerate(zip(xs, ys)) -/
/-- all but S stays -/
def Gr (S : List Addr) (h h1 : Heap) : Prop := ∀ c o, c ∉ S → h.get? c = some o → h1.get? c = some o
theorem Gr.of {a : Addr} {h h1 : Heap} (q : Heap.SameBut a h h1) : Gr [a] h h1 := fun c o n e => (q.2 c (by simpa using n)).trans e
theorem Gr.trans {S : List Addr} {h h1 h2 : Heap} (a : Gr S h h1) (b : Gr S h1 h2) : Gr S h h2 := fun c o n e => b c o n (a c o n e)
theorem Gr.mono {S S' : List Addr} {h h1 : Heap} (a : Gr S h h1) (k : ∀ c ∈ S, c ∈ S' := by simp) : Gr S' h h1 := fun c o n e => a c o (fun m => n (k c m)) e
theorem Gr.push {S : List Addr} {h : Heap} (o : Obj) : Gr S h (h.push o) := fun c u _ e => Heap.get?_push_of_some _ e
abbrev ZR (h : Heap) (z TI TO : Addr) (v : Value) (f : Bool) : Prop := h.get? z = some { cls := .type "zip", dict := none, data := .fields #[v, .bool f, .bool false, .ref TI, .ref TO], slots := #[] }
def ZOk (v : Value) : Prop := v = .none ∨ ∃ T : Addr, v = rawInt T
section
variable {P : Program} {w : World} {B : Around} {E : Value → Shared → Prop} {s : Shared}
theorem alive_of {a : Addr} {Q : Option Obj → Shared → Prop} (h : Q (s.heap.get? a) s) : wpAny (model P w) B (loadIfAlive a) Q E s := fun _ _ _ => h
theorem z_free {z TI TO : Addr} {v : Value} {f : Bool} {Q : Bool → Shared → Prop} (r : ZR s.heap z TI TO v f) (ok : ZOk v) (q1 : Q true s)
    (q2 : ∀ h1, ZR h1 z TI TO v true → Heap.SameBut z s.heap h1 → Q false { s with heap := h1 }) : wpAny (model P w) B (Builtin.SmallTypes.ownedTupleIsFree (.ref z)) Q E s := by
  unfold Builtin.SmallTypes.ownedTupleIsFree
  refine wpAny_bind (wpAny_field r rfl (x := v) rfl ?_)
  rcases ok with rfl | ⟨T, rfl⟩
  · exact wpAny_pure q1
  · change wpAny _ _ (loadIfAlive ((T : Int).toNat) >>= _) _ _ _
    rw [Int.toNat_natCast]
    refine wpAny_bind (alive_of ?_)
    cases s.heap.get? T with
    | none => exact wpAny_pure q1
    | some oT =>
      simp only [Option.isNone_some, Bool.false_eq_true, if_false]
      refine wpAny_bind (wpAny_field r rfl (x := .bool f) rfl ?_)
      cases f with
      | true =>
        rw [if_neg (by decide)]
        exact wpAny_pure (q2 s.heap r (Heap.SameBut.refl _ _))
      | false =>
        rw [if_pos (by decide)]
        exact wpAny_bind (wpAny_setField_rec r (by simp) fun h1 r1 k1 => wpAny_pure (q2 h1 r1 k1))
/-- what a turn of zip needs -/
structure ZIn (h : Heap) (z TI TO j1 j2 a b : Addr) (m n : Nat) (us ws : Array Value) : Prop where
  ap : ZipApart z TI TO j1 j2 a b
  r : ∃ v f, ZOk v ∧ ZR h z TI TO v f
  pI : IsPair h TI (.ref j1) (.ref j2)
  pO : ∃ g0 g1, IsPair h TO g0 g1
  c1 : h.IsListIter j1 a m
  c2 : h.IsListIter j2 b n
  e1 : h.IsList a us
  e2 : h.IsList b ws
theorem ZIn.gr {h h1 : Heap} {z TI TO j1 j2 a b : Addr} {m n : Nat} {us ws : Array Value} {S : List Addr} (I : ZIn h z TI TO j1 j2 a b m n us ws) (g : Gr S h h1) (k : ∀ c ∈ [z, TI, TO, j1, j2, a, b], c ∉ S) : ZIn h1 z TI TO j1 j2 a b m n us ws := by
  obtain ⟨D, ⟨v, f, ok, r⟩, pI, ⟨g0, g1, pO⟩, c1, c2, e1, e2⟩ := I
  exact ⟨D, ⟨v, f, ok, g _ _ (k z (by simp)) r⟩, g _ _ (k TI (by simp)) pI, ⟨g0, g1, g _ _ (k TO (by simp)) pO⟩, c1.at fun o q => g _ o (k j1 (by simp)) q, c2.at fun o q => g _ o (k j2 (by simp)) q, e1.at fun o q => g _ o (k a (by simp)) q, e2.at fun o q => g _ o (k b (by simp)) q⟩
theorem z_step {z TI TO j1 j2 a b : Addr} {m n : Nat} {us ws : Array Value} {x y : Value} {Q : Value → Shared → Prop} (I : ZIn s.heap z TI TO j1 j2 a b m n us ws) (hx : us[m]? = some x) (hy : ws[n]? = some y)
    (fin : ∀ h1, ZIn h1 z TI TO j1 j2 a b (m + 1) (n + 1) us ws → IsPair h1 s.heap.objs.size x y → h1.objs.size = s.heap.objs.size + 1 → Gr [z, TO, j1, j2] s.heap h1 → Q (.ref s.heap.objs.size) { s with heap := h1 }) :
    wpAny (model P w) B (Builtin.«zip.__next__» ⟨[.ref z], []⟩) (fun r s1 => ∃ v, r = .done (.ret v) ∧ Q v s1) E s := by
  obtain ⟨D, ⟨v, f, ok, r⟩, pI, ⟨g0, g1, pO⟩, c1, c2, e1, e2⟩ := I
  change wpAny _ _ (field (.ref z) 2 >>= _) _ _ _
  refine wpAny_bind (wpAny_field r rfl (x := .bool false) rfl ?_)
  change wpAny _ _ (field (.ref z) 3 >>= _) _ _ _
  refine wpAny_bind (wpAny_field r rfl (x := .ref TI) rfl ?_)
  refine wpAny_bind (wpAny_seqItems pI rfl ?_)
  change wpAny _ _ (Builtin.SmallTypes.ownedTupleIsFree (.ref z) >>= _) _ _ _
  refine wpAny_bind (z_free r ok ?_ fun h1 r1 k1 => ?_)
  · simp only [if_true]
    refine wpAny_bind (wpAny_rule ?_)
    refine wpAny_bind (wpAny_field r rfl (x := .ref TO) rfl ?_)
    refine wpAny_bind (wpAny_setField_rec r (by simp) fun h1 r1 k1 => ?_)
    replace r1 : ZR h1 z TI TO .ellipsis f := r1
    refine wpAny_bind ?_
    simp only [List.zipIdx_cons, List.zipIdx_nil, List.forIn_cons, List.forIn_nil]
    refine wpAny_bind (wpAny_bind (wpAny_onRaise ?_))
    change wpAny _ _ (Builtin.SmallTypes.nextOf (.ref j1) >>= _) _ _ _
    refine wpAny_bind (wpAny_nextOf_list_item (c1.extBut k1.extBut D.i1z) (e1.extBut k1.extBut D.l1z) hx fun h2 d1 k2 => wpAny_pure ?_)
    have p2 : IsPair h2 TO g0 g1 := k2.extBut _ _ D.TOi1 (k1.extBut _ _ D.TOz pO)
    refine wpAny_bind (wpAny_seqItems p2 rfl ?_)
    refine wpAny_bind (wpAny_updateSeq_pair p2 fun h3 p3 k3 => ?_)
    replace p3 : IsPair h3 TO x g1 := p3
    refine wpAny_bind (wpAny_letGo (wpAny_pure ?_))
    refine wpAny_bind (wpAny_bind (wpAny_onRaise ?_))
    change wpAny _ _ (Builtin.SmallTypes.nextOf (.ref j2) >>= _) _ _ _
    refine wpAny_bind (wpAny_nextOf_list_item (((c2.extBut k1.extBut D.i2z).extBut k2.extBut D.i12.symm).extBut k3.extBut D.TOi2.symm) (((e2.extBut k1.extBut D.l2z).extBut k2.extBut D.l2i1).extBut k3.extBut D.l2TO) hy fun h4 d2 k4 => wpAny_pure ?_)
    have p4 : IsPair h4 TO x g1 := k4.extBut _ _ D.TOi2 p3
    refine wpAny_bind (wpAny_seqItems p4 rfl ?_)
    refine wpAny_bind (wpAny_updateSeq_pair p4 fun h5 p5 k5 => ?_)
    replace p5 : IsPair h5 TO x y := p5
    refine wpAny_bind (wpAny_letGo (wpAny_pure (wpAny_pure ?_)))
    refine wpAny_bind (wpAny_seqItems p5 rfl ?_)
    refine wpAny_bind (wpAny_newTuple ?_)
    have sz : h5.objs.size = s.heap.objs.size := by rw [k5.1, k4.1, k3.1, k2.1, k1.1]
    have r5 : ZR h5 z TI TO .ellipsis f := k5.extBut _ _ D.TOz.symm (k4.extBut _ _ D.i2z.symm (k3.extBut _ _ D.TOz.symm (k2.extBut _ _ D.i1z.symm r1)))
    have g5 : Gr [z, TO, j1, j2] s.heap h5 := ((Gr.of k1).mono.trans (Gr.of k2).mono).trans (((Gr.of k3).mono.trans (Gr.of k4).mono).trans (Gr.of k5).mono)
    have d15 : h5.IsListIter j1 a (m + 1) := ((d1.extBut k3.extBut D.TOi1.symm).extBut k4.extBut D.i12).extBut k5.extBut D.TOi1.symm
    have d25 : h5.IsListIter j2 b (n + 1) := d2.extBut k5.extBut D.TOi2.symm
    have zl : z < h5.objs.size := Heap.lt_size r5
    change wpAny _ _ (Builtin.SmallTypes.ownedTupleHandOut (.ref z) (.ref h5.objs.size) >>= _) _ _ _
    refine wpAny_bind ?_
    unfold Builtin.SmallTypes.ownedTupleHandOut
    have r6 : ZR (h5.push { cls := .type "tuple", data := .seq #[x, y] }) z TI TO .ellipsis f := Heap.get?_push_of_some _ r5
    refine wpAny_bind (wpAny_setField_rec r6 (by simp) fun h7 r7 k7 => ?_)
    replace r7 : ZR h7 z TI TO (rawInt h5.objs.size) f := r7
    refine wpAny_setField_rec r7 (by simp) fun h8 r8 k8 => ?_
    replace r8 : ZR h8 z TI TO (rawInt h5.objs.size) false := r8
    have g8 : Gr [z] h5 h8 := (Gr.push _).trans ((Gr.of k7).trans (Gr.of k8))
    have t8 : IsPair h8 h5.objs.size x y := k8.extBut _ _ (Nat.ne_of_gt zl) (k7.extBut _ _ (Nat.ne_of_gt zl) (Heap.get?_push_size _ rfl))
    have s8 : h8.objs.size = h5.objs.size + 1 := by rw [k8.1, k7.1, Heap.size_push]
    rw [sz] at t8 s8
    refine wpAny_pure ⟨_, rfl, ?_⟩
    change Q (.ref h5.objs.size) _
    rw [sz]
    have no : ∀ {c : Addr}, c ≠ z → c ∉ [z] := fun h => by simpa using h
    have G : Gr [z, TO, j1, j2] s.heap h8 := g5.trans g8.mono
    refine fin h8 ⟨D, ⟨_, _, .inr ⟨_, rfl⟩, r8⟩, G _ _ (by simp [D.TIz, D.TITO, D.TIi1, D.TIi2]) pI, ⟨x, y, g8 _ _ (no D.TOz) p5⟩, d15.at fun o q => g8 _ o (no D.i1z) q, d25.at fun o q => g8 _ o (no D.i2z) q, e1.at fun o q => G _ o (by simp [D.l1z, D.l1TO, D.l1i1, D.l1i2]) q, e2.at fun o q => G _ o (by simp [D.l2z, D.l2TO, D.l2i1, D.l2i2]) q⟩ t8 s8 G
  · simp only [Bool.false_eq_true, if_false]
    refine wpAny_bind ?_
    rw [← Array.forIn_toList]
    simp only [List.forIn_cons, List.forIn_nil]
    refine wpAny_bind (wpAny_bind (wpAny_holding ?_))
    change wpAny _ _ (Builtin.SmallTypes.nextOf (.ref j1) >>= _) _ _ _
    refine wpAny_bind (wpAny_nextOf_list_item (s := { s with heap := h1 }) (c1.extBut k1.extBut D.i1z) (e1.extBut k1.extBut D.l1z) hx fun h2 d1 k2 => wpAny_pure ?_)
    refine wpAny_pure ?_
    refine wpAny_bind (wpAny_bind (wpAny_holding ?_))
    change wpAny _ _ (Builtin.SmallTypes.nextOf (.ref j2) >>= _) _ _ _
    refine wpAny_bind (wpAny_nextOf_list_item (s := { s with heap := h2 }) ((c2.extBut k1.extBut D.i2z).extBut k2.extBut D.i12.symm) ((e2.extBut k1.extBut D.l2z).extBut k2.extBut D.l2i1) hy fun h3 d2 k3 => wpAny_pure ?_)
    refine wpAny_pure (wpAny_pure ?_)
    change wpAny _ _ (newTuple [x, y] >>= _) _ _ _
    refine wpAny_bind (wpAny_newTuple ?_)
    have sz : h3.objs.size = s.heap.objs.size := by rw [k3.1, k2.1, k1.1]
    have r3 : ZR h3 z TI TO v true := k3.extBut _ _ D.i2z.symm (k2.extBut _ _ D.i1z.symm r1)
    have g3 : Gr [z, TO, j1, j2] s.heap h3 := (Gr.of k1).mono.trans ((Gr.of k2).mono.trans (Gr.of k3).mono)
    refine wpAny_pure ⟨_, rfl, ?_⟩
    change Q (.ref h3.objs.size) _
    have t4 : IsPair (h3.push { cls := .type "tuple", data := .seq #[x, y] }) h3.objs.size x y := Heap.get?_push_size _ rfl
    have s4 : (h3.push { cls := .type "tuple", data := .seq #[x, y] }).objs.size = h3.objs.size + 1 := Heap.size_push ..
    have g4 : Gr [] h3 (h3.push { cls := .type "tuple", data := .seq #[x, y] }) := Gr.push _
    generalize h3.push { cls := .type "tuple", data := .seq #[x, y] } = h4 at t4 s4 g4 ⊢
    rw [sz] at t4 s4 ⊢
    have G : Gr [z, TO, j1, j2] s.heap h4 := g3.trans g4.mono
    have no : ∀ {c : Addr}, c ∉ ([] : List Addr) := by simp
    have pO3 : IsPair h3 TO g0 g1 := k3.extBut _ _ D.TOi2 (k2.extBut _ _ D.TOi1 (k1.extBut _ _ D.TOz pO))
    refine fin h4 ⟨D, ⟨v, true, ok, g4 _ _ no r3⟩, G _ _ (by simp [D.TIz, D.TITO, D.TIi1, D.TIi2]) pI, ⟨g0, g1, g4 _ _ no pO3⟩, (d1.extBut k3.extBut D.i12).at fun o q => g4 _ o no q, d2.at fun o q => g4 _ o no q, e1.at fun o q => G _ o (by simp [D.l1z, D.l1TO, D.l1i1, D.l1i2]) q, e2.at fun o q => G _ o (by simp [D.l2z, D.l2TO, D.l2i1, D.l2i2]) q⟩ t4 s4 G
end
end CF

set_option Elab.async false
set_option linter.all false
set_option maxRecDepth 100000
namespace CF
open PySem PySem.Spec PyProof.Rows L2

section
variable {P : Program} {w : World} {B : Around} {E : Value → Shared → Prop} {s : Shared}
theorem z_stop {z TI TO j1 j2 a b : Addr} {m n : Nat} {us ws : Array Value} {Q : Fin → Shared → Prop} (hh : B.handled = none) (I : ZIn s.heap z TI TO j1 j2 a b m n us ws) (he : us[m]? = none ∨ ws[n]? = none)
    (fin : ∀ h1 e, Gr [z, TO, j1, j2] s.heap h1 → (∃ o, h1.get? e = some o ∧ o.cls = .type "StopIteration") → E (.ref e) { s with heap := h1 }) :
    wpAny (model P w) B (Builtin.«zip.__next__» ⟨[.ref z], []⟩) Q E s := by
  obtain ⟨D, ⟨v, f, ok, r⟩, pI, ⟨g0, g1, pO⟩, c1, c2, e1, e2⟩ := I
  have ex : ∀ {c : Addr} {h h1 : Heap}, Heap.ExtBut c h h1 → Gr [c] h h1 := fun {c h h1} k b o nb e => k b o (by simpa using nb) e
  change wpAny _ _ (field (.ref z) 2 >>= _) _ _ _
  refine wpAny_bind (wpAny_field r rfl (x := .bool false) rfl ?_)
  change wpAny _ _ (field (.ref z) 3 >>= _) _ _ _
  refine wpAny_bind (wpAny_field r rfl (x := .ref TI) rfl ?_)
  refine wpAny_bind (wpAny_seqItems pI rfl ?_)
  change wpAny _ _ (Builtin.SmallTypes.ownedTupleIsFree (.ref z) >>= _) _ _ _
  refine wpAny_bind (z_free r ok ?_ fun h1 r1 k1 => ?_)
  · simp only [if_true]
    refine wpAny_bind (wpAny_rule ?_)
    refine wpAny_bind (wpAny_field r rfl (x := .ref TO) rfl ?_)
    refine wpAny_bind (wpAny_setField_rec r (by simp) fun h1 r1 k1 => ?_)
    replace r1 : ZR h1 z TI TO .ellipsis f := r1
    refine wpAny_bind ?_
    simp only [List.zipIdx_cons, List.zipIdx_nil, List.forIn_cons, List.forIn_nil]
    refine wpAny_bind (wpAny_bind (wpAny_onRaise ?_))
    change wpAny _ _ (Builtin.SmallTypes.nextOf (.ref j1) >>= _) _ _ _
    cases hx : us[m]? with
    | none =>
      refine wpAny_bind (wpAny_nextOf_list_end hh (c1.extBut k1.extBut D.i1z) (e1.extBut k1.extBut D.l1z) hx fun h2 e k2 x2 => ?_)
      obtain ⟨oe, x3, x4⟩ := x2
      have r2 : ZR h2 z TI TO .ellipsis f := k2 _ _ D.i1z.symm r1
      have ne : e ≠ z := fun q => by rw [q] at x3; rw [r2] at x3; cases x3; simp at x4
      exact wpAny_setField_rec r2 (by simp) fun h3 _ k3 => fin h3 e (((Gr.of k1).mono.trans (ex k2).mono).trans (Gr.of k3).mono) ⟨oe, k3.extBut _ _ ne x3, x4⟩
    | some x =>
      have hy : ws[n]? = none := he.resolve_left (by rw [hx]; simp)
      refine wpAny_bind (wpAny_nextOf_list_item (c1.extBut k1.extBut D.i1z) (e1.extBut k1.extBut D.l1z) hx fun h2 d1 k2 => wpAny_pure ?_)
      have p2 : IsPair h2 TO g0 g1 := k2.extBut _ _ D.TOi1 (k1.extBut _ _ D.TOz pO)
      refine wpAny_bind (wpAny_seqItems p2 rfl ?_)
      refine wpAny_bind (wpAny_updateSeq_pair p2 fun h3 p3 k3 => ?_)
      refine wpAny_bind (wpAny_letGo (wpAny_pure ?_))
      refine wpAny_bind (wpAny_bind (wpAny_onRaise ?_))
      change wpAny _ _ (Builtin.SmallTypes.nextOf (.ref j2) >>= _) _ _ _
      refine wpAny_bind (wpAny_nextOf_list_end hh (((c2.extBut k1.extBut D.i2z).extBut k2.extBut D.i12.symm).extBut k3.extBut D.TOi2.symm) (((e2.extBut k1.extBut D.l2z).extBut k2.extBut D.l2i1).extBut k3.extBut D.l2TO) hy fun h4 e k4 x2 => ?_)
      obtain ⟨oe, x3, x4⟩ := x2
      have r4 : ZR h4 z TI TO .ellipsis f := k4 _ _ D.i2z.symm (k3.extBut _ _ D.TOz.symm (k2.extBut _ _ D.i1z.symm r1))
      have ne : e ≠ z := fun q => by rw [q] at x3; rw [r4] at x3; cases x3; simp at x4
      exact wpAny_setField_rec r4 (by simp) fun h5 _ k5 => fin h5 e ((((Gr.of k1).mono.trans (Gr.of k2).mono).trans ((Gr.of k3).mono.trans (ex k4).mono)).trans (Gr.of k5).mono) ⟨oe, k5.extBut _ _ ne x3, x4⟩
  · simp only [Bool.false_eq_true, if_false]
    refine wpAny_bind ?_
    rw [← Array.forIn_toList]
    simp only [List.forIn_cons, List.forIn_nil]
    refine wpAny_bind (wpAny_bind (wpAny_holding ?_))
    change wpAny _ _ (Builtin.SmallTypes.nextOf (.ref j1) >>= _) _ _ _
    cases hx : us[m]? with
    | none =>
      exact wpAny_bind (wpAny_nextOf_list_end (s := { s with heap := h1 }) hh (c1.extBut k1.extBut D.i1z) (e1.extBut k1.extBut D.l1z) hx fun h2 e k2 x2 => fin h2 e ((Gr.of k1).mono.trans (ex k2).mono) x2)
    | some x =>
      have hy : ws[n]? = none := he.resolve_left (by rw [hx]; simp)
      refine wpAny_bind (wpAny_nextOf_list_item (s := { s with heap := h1 }) (c1.extBut k1.extBut D.i1z) (e1.extBut k1.extBut D.l1z) hx fun h2 d1 k2 => wpAny_pure ?_)
      refine wpAny_pure ?_
      refine wpAny_bind (wpAny_bind (wpAny_holding ?_))
      change wpAny _ _ (Builtin.SmallTypes.nextOf (.ref j2) >>= _) _ _ _
      exact wpAny_bind (wpAny_nextOf_list_end (s := { s with heap := h2 }) hh ((c2.extBut k1.extBut D.i2z).extBut k2.extBut D.i12.symm) ((e2.extBut k1.extBut D.l2z).extBut k2.extBut D.l2i1) hy fun h3 e k3 x2 => fin h3 e (((Gr.of k1).mono.trans (Gr.of k2).mono).trans (ex k3).mono) x2)
theorem ZIn.ty {z TI TO j1 j2 a b : Addr} {m n : Nat} {us ws : Array Value} (I : ZIn s.heap z TI TO j1 j2 a b m n us ws) : s.TypeIs (.ref z) "zip" := let ⟨_, _, _, r⟩ := I.r; ⟨_, r, rfl⟩
theorem z_next {z TI TO j1 j2 a b : Addr} {m n : Nat} {us ws : Array Value} {x y : Value} {Q : Option Value → Shared → Prop} (I : ZIn s.heap z TI TO j1 j2 a b m n us ws) (hx : us[m]? = some x) (hy : ws[n]? = some y)
    (fin : ∀ h1, ZIn h1 z TI TO j1 j2 a b (m + 1) (n + 1) us ws → IsPair h1 s.heap.objs.size x y → h1.objs.size = s.heap.objs.size + 1 → Gr [z, TO, j1, j2] s.heap h1 → Q (some (.ref s.heap.objs.size)) { s with heap := h1 }) :
    wpAny (model P w) B (pyNext (.ref z)) Q E s := by
  unfold pyNext
  exact wpAny_bind (wpAny_attempt (wpAny_callSpecial?_slot (name := Str.ofString "__next__") I.ty F.slot_zip_next
    (wpAny_call_entry F.slot_zip_next I.ty F.entry_zip_next (z_step I hx hy fun h1 q1 q2 q3 q4 => wpAny_pure (fin h1 q1 q2 q3 q4)) (F.args_zip_next_1 _))))
theorem z_end {z TI TO j1 j2 a b : Addr} {m n : Nat} {us ws : Array Value} {Q : Option Value → Shared → Prop} (hh : B.handled = none) (I : ZIn s.heap z TI TO j1 j2 a b m n us ws) (he : us[m]? = none ∨ ws[n]? = none)
    (fin : ∀ h1, Gr [z, TO, j1, j2] s.heap h1 → Q none { s with heap := h1 }) : wpAny (model P w) B (pyNext (.ref z)) Q E s := by
  unfold pyNext
  refine wpAny_bind (wpAny_attempt (wpAny_callSpecial?_slot (name := Str.ofString "__next__") I.ty F.slot_zip_next
    (wpAny_call_entry F.slot_zip_next I.ty F.entry_zip_next (z_stop hh I he fun h1 e g x => ?_) (F.args_zip_next_1 _))))
  obtain ⟨oe, x3, x4⟩ := x
  exact wpAny_bind (wpAny_isInstance (T := "StopIteration") (b := true) ⟨oe, x3, x4⟩ isSubtype_stop (wpAny_pure (fin h1 g)))
theorem z_of {z TI TO j1 j2 a b : Addr} {m n : Nat} {us ws : Array Value} {x y : Value} {Q : Value → Shared → Prop} (I : ZIn s.heap z TI TO j1 j2 a b m n us ws) (hx : us[m]? = some x) (hy : ws[n]? = some y)
    (fin : ∀ h1, ZIn h1 z TI TO j1 j2 a b (m + 1) (n + 1) us ws → IsPair h1 s.heap.objs.size x y → h1.objs.size = s.heap.objs.size + 1 → Gr [z, TO, j1, j2] s.heap h1 → Q (.ref s.heap.objs.size) { s with heap := h1 }) :
    wpAny (model P w) B (Builtin.SmallTypes.nextOf (.ref z)) Q E s := by
  unfold Builtin.SmallTypes.nextOf
  exact wpAny_bind (wpAny_callSpecial?_slot (name := Str.ofString "__next__") I.ty F.slot_zip_next
    (wpAny_call_entry F.slot_zip_next I.ty F.entry_zip_next (z_step I hx hy fun h1 q1 q2 q3 q4 => wpAny_pure (fin h1 q1 q2 q3 q4)) (F.args_zip_next_1 _)))
theorem z_ofEnd {z TI TO j1 j2 a b : Addr} {m n : Nat} {us ws : Array Value} {Q : Value → Shared → Prop} (hh : B.handled = none) (I : ZIn s.heap z TI TO j1 j2 a b m n us ws) (he : us[m]? = none ∨ ws[n]? = none)
    (fin : ∀ h1 e, Gr [z, TO, j1, j2] s.heap h1 → (∃ o, h1.get? e = some o ∧ o.cls = .type "StopIteration") → E (.ref e) { s with heap := h1 }) :
    wpAny (model P w) B (Builtin.SmallTypes.nextOf (.ref z)) Q E s := by
  unfold Builtin.SmallTypes.nextOf
  exact wpAny_bind (wpAny_callSpecial?_slot (name := Str.ofString "__next__") I.ty F.slot_zip_next
    (wpAny_call_entry F.slot_zip_next I.ty F.entry_zip_next (z_stop hh I he fin) (F.args_zip_next_1 _)))
/-- a name or a tuple of targets -/
def NT : PySem.Expr → Bool
  | .Name _ _ => true
  | .Tuple _ _ _ => true
  | _ => false
theorem z_go {tg : PySem.Expr} (ht : NT tg = true) {z TI TO T : Addr} {v : Value} {f : Bool} {Q : Unit → Shared → Prop} (r : ZR s.heap z TI TO v f) (ok : ZOk v)
    (q : ∀ h1, (∃ v f, ZOk v ∧ ZR h1 z TI TO v f) → Heap.SameBut z s.heap h1 → Q () { s with heap := h1 }) : wpAny (model P w) B (letOwnedTupleGo tg (.ref z) (.ref T)) Q E s := by
  have same : Q () s := q s.heap ⟨v, f, ok, r⟩ (Heap.SameBut.refl _ _)
  cases tg <;> first | cases ht; done | skip
  · unfold letOwnedTupleGo
    exact wpAny_pure same
  · unfold letOwnedTupleGo
    refine wpAny_bind (wpAny_load r ?_)
    dsimp only
    split
    · refine wpAny_bind (wpAny_rule ?_)
      change wpAny _ _ (setField (.ref z) 0 .none) _ _ _
      exact wpAny_setField_rec r (by simp) fun h1 r1 k1 => q h1 ⟨.none, f, .inl rfl, r1⟩ k1
    · exact wpAny_pure same
end
end CF

set_option Elab.async false
set_option linter.all false
set_option maxRecDepth 100000
namespace CF
open PySem PySem.Spec PyProof.Rows L2

/-! ### the walk over zip(xs, ys) -/
def iZp (K : PySem.W.Frag) (ta : TA) : TI := fun σ H R => ta σ H fun vs H1 => ∃ a b xs ys, vs = [.ref a, .ref b] ∧ SqL K H1 a xs ∧ SqL K H1 b ys ∧ R (Itz K a b) H1
def TnZ (z TI TO j1 j2 a b : Addr) (i : Nat) (h : Heap) : Prop := (∃ v f, ZOk v ∧ ZR h z TI TO v f) ∧ IsPair h TI (.ref j1) (.ref j2) ∧ (∃ g0 g1, IsPair h TO g0 g1) ∧ h.IsListIter j1 a i ∧ h.IsListIter j2 b i
section
variable {z TI TO j1 j2 a b : Addr}
theorem TnZ.obj {i : Nat} {h : Heap} (st : TnZ z TI TO j1 j2 a b i h) : ∀ c ∈ [z, TI, TO, j1, j2], ∃ o, h.get? c = some o ∧ ∀ v, o.data ≠ .cell v := fun c hc => by
  obtain ⟨⟨v, f, _, r⟩, pI, ⟨g0, g1, pO⟩, ⟨o1, e1, _, d1⟩, ⟨o2, e2, _, d2⟩⟩ := st
  simp only [List.mem_cons, List.not_mem_nil, or_false] at hc
  rcases hc with rfl | rfl | rfl | rfl | rfl
  · exact ⟨_, r, fun v q => nomatch q⟩
  · exact ⟨_, pI, fun v q => nomatch q⟩
  · exact ⟨_, pO, fun v q => nomatch q⟩
  · exact ⟨o1, e1, fun v q => by rw [d1] at q; cases q⟩
  · exact ⟨o2, e2, fun v q => by rw [d2] at q; cases q⟩
theorem TnZ.keep {i : Nat} {h h1 : Heap} (st : TnZ z TI TO j1 j2 a b i h) (k : ∀ c ∈ [z, TI, TO, j1, j2], ∀ o, h.get? c = some o → h1.get? c = some o) : TnZ z TI TO j1 j2 a b i h1 := by
  obtain ⟨⟨v, f, ok, r⟩, pI, ⟨g0, g1, pO⟩, c1, c2⟩ := st
  exact ⟨⟨v, f, ok, k z (by simp) _ r⟩, k TI (by simp) _ pI, ⟨g0, g1, k TO (by simp) _ pO⟩, c1.at fun o q => k j1 (by simp) o q, c2.at fun o q => k j2 (by simp) o q⟩
theorem TnZ.zin {i : Nat} {h : Heap} {us ws : Array Value} (st : TnZ z TI TO j1 j2 a b i h) (D : ZipApart z TI TO j1 j2 a b) (e1 : h.IsList a us) (e2 : h.IsList b ws) : ZIn h z TI TO j1 j2 a b i i us ws := by
  obtain ⟨r, pI, pO, c1, c2⟩ := st
  exact ⟨D, r, pI, pO, c1, c2, e1, e2⟩
theorem ZIn.tn {i : Nat} {h : Heap} {us ws : Array Value} (I : ZIn h z TI TO j1 j2 a b i i us ws) : TnZ z TI TO j1 j2 a b i h := ⟨I.r, I.pI, I.pO, I.c1, I.c2⟩
theorem TnZ.lt {i : Nat} {h : Heap} (st : TnZ z TI TO j1 j2 a b i h) : ∀ c ∈ [z, TI, TO, j1, j2], c < h.objs.size := fun c hc => let ⟨_, e, _⟩ := st.obj c hc; Heap.lt_size e
theorem ends_of {xs ys : List V} {us ws : List Value} {i : Nat} (r1 : Vals xs us) (r2 : Vals ys ws) (h : xs.length ≤ i ∨ ys.length ≤ i) : us.toArray[i]? = none ∨ ws.toArray[i]? = none := by
  have l1 := r1.length
  have l2 := r2.length
  rcases h with q | q
  · exact .inl (by simp; omega)
  · exact .inr (by simp; omega)
theorem turn_z {P : Program} {w : World} {K : PySem.W.Frag} {tg : PySem.Expr} (D : ZipApart z TI TO j1 j2 a b) (ht : NT tg = true) : Turn P w K tg (Itz K a b) [z, TI, TO, j1, j2] z (TnZ z TI TO j1 j2 a b) where
  mem := List.mem_cons_self
  obj := fun i h st => st.obj
  keep := fun i h h1 st k => st.keep k
  item := by
    intro X hP hw hK hc i pins s σ H E I hf st hg
    subst hP hw hK
    obtain ⟨xs, ys, x, y, qx, qy, ex, ey⟩ := hg
    obtain ⟨us, rv1, p1, _⟩ := I.list qx
    obtain ⟨ws, rv2, p2, _⟩ := I.list qy
    obtain ⟨u, eu, ru⟩ := rv1.get ex
    obtain ⟨w', ew, rw'⟩ := rv2.get ey
    have lt := st.lt
    refine z_next (st.zin D p1.isList p2.isList) (x := u) (y := w') (by simpa using eu) (by simpa using ew) fun h1 z1 t1 s1 g1 => ?_
    obtain ⟨v1, f1, ok1, r1⟩ := z1.r
    refine ⟨_, rfl, z_go (s := { s with heap := h1 }) ht r1 ok1 fun h2 r2 k2 => ?_⟩
    have zl : z ≠ s.heap.objs.size := Nat.ne_of_lt (lt z (by simp))
    have t2 : h2.get? s.heap.objs.size = some { cls := .type "tuple", data := .seq #[u, w'] } := (k2.2 _ (Ne.symm zl)).trans t1
    have new : ObjOk X.prog X.w (upd H s.heap.objs.size (.tup [x, y])) h2 s.heap.objs.size (.tup [x, y]) := ⟨by show 2 ≤ sizeLine; decide, [u, w'], .cons ru (.cons rw' .nil), ⟨_, t2, rfl, _, rfl⟩⟩
    have G : Gr [z, TI, TO, j1, j2] s.heap h2 := (g1.mono (fun c hc => by simp only [List.mem_cons, List.not_mem_nil, or_false] at hc ⊢; rcases hc with q | q | q | q <;> simp [q])).trans (Gr.of k2).mono
    have J : Inv X pins σ (upd H s.heap.objs.size (.tup [x, y])) { s with heap := h2 } := I.turnedNew (t' := s.toks) (ch := [z, TI, TO, j1, j2]) G hf (Nat.le_refl _) new
    refine ⟨.ref s.heap.objs.size, _, J, rfl, ⟨_, x, y, rfl, I.hok.fresh (Nat.le_refl _), rfl, fun l hl => by rw [I.list_inj hl qx]; exact ex, fun l hl => by rw [I.list_inj hl qy]; exact ey⟩, ⟨r2, ?_, ?_, ?_, ?_⟩, fun c hc => ?_⟩
    · exact (k2.2 _ D.TIz).trans z1.pI
    · obtain ⟨g2, g3, q⟩ := z1.pO
      exact ⟨g2, g3, (k2.2 _ D.TOz).trans q⟩
    · exact z1.c1.at fun o q => (k2.2 _ D.i1z).trans q
    · exact z1.c2.at fun o q => (k2.2 _ D.i2z).trans q
    · rw [upd_ne (Nat.ne_of_lt (lt c hc))]
      exact (hf c hc).1
  done := by
    intro X hP hw hK hc i pins s σ H E I hf st hg
    subst hP hw hK
    obtain ⟨xs, ys, qx, qy, hend⟩ := hg
    obtain ⟨us, rv1, p1, _⟩ := I.list qx
    obtain ⟨ws, rv2, p2, _⟩ := I.list qy
    exact z_end (I.ok.hd hc) (st.zin D p1.isList p2.isList) (ends_of rv1 rv2 hend) fun h1 g1 => ⟨rfl, I.turnedL (t' := s.toks) (ch := [z, TI, TO, j1, j2]) (g1.mono (fun c hc => by simp only [List.mem_cons, List.not_mem_nil, or_false] at hc ⊢; rcases hc with q | q | q | q <;> simp [q])) hf⟩
  self := fun A i s Q E st h => by
    obtain ⟨⟨v, f, _, r⟩, _⟩ := st
    have ty : s.TypeIs (.ref z) "zip" := ⟨_, r, rfl⟩
    refine wpAny_pyIter_slot ty F.slot_zip_iter (wpAny_call_entry F.slot_zip_iter ty F.entry_zip_iter ?_ (F.args_zip_iter_1 _))
    change wpAny _ _ (ret (Value.ref z)) _ _ s
    exact wpAny_pure ⟨_, rfl, "zip", _, ty, F.slot_zip_next.lookup, h⟩
theorem five {x c : Nat} (h : c ∈ [x + 4, x + 2, x + 3, x, x + 1]) : x ≤ c := by
  simp only [List.mem_cons, List.not_mem_nil, or_false] at h
  omega
theorem pi_zp {X : Cx} {e e2 tg : PySem.Expr} {ta : TA} {p pos : Pos} (ht : NT tg = true) (hg : Gl X "zip") (hm : X.mg "zip" = none) (ha : PA X [e, e2] ta)
    (hs : starEach [e, e2] X.env = (false, eval e X.env) :: starEach [e2] X.env) (hpl : (backTo pos (starEach [e2] X.env)).any (·.1) = false) :
    PI X tg (.Call (.Name "zip" p) [e, e2] [] pos) (iZp X.K ta) := by
  refine ⟨fun pins s σ H R I h => ?_⟩
  refine Call_ (ld_blt I hg hm PyProof.Rows.boot_zip (PyProof.Rows.callWith_type1 (thn (ha.run pos pins s σ H _ I h) fun us s1 ⟨vs, H1, I1, r1, q1⟩ => ?_) hs hpl))
  obtain ⟨a, b, xs, ys, rfl, qx, qy, q⟩ := q1
  obtain ⟨u1, u2, rfl, k1, k2⟩ := vals_two (vs := []) r1
  cases k1
  cases k2
  obtain ⟨us, rv1, p1, _⟩ := I1.list qx
  obtain ⟨ws, rv2, p2, _⟩ := I1.list qy
  have D := PySem.W.ktu_apart s1.heap.objs.size a b p1.lt p2.lt
  refine call_zip_2 p1.isList p2.isList fun h1 m1 m2 m3 m4 m5 m6 mk => wpAny_pyIter_zip m1 ?_
  refine ⟨_, [s1.heap.objs.size + 4, s1.heap.objs.size + 2, s1.heap.objs.size + 3, s1.heap.objs.size, s1.heap.objs.size + 1], _, _, H1, rfl, I1.kept (t' := s1.toks) mk, turn_z D ht, ⟨⟨.none, false, .inl rfl, m1⟩, m2, ⟨_, _, m3⟩, m4, m5⟩, fun c hc => ?_, q⟩
  exact I1.fpOk (five hc) (I1.hok.fresh (five hc))
end

/-! ### the walk over enumerate(zip(xs, ys)) -/
section
variable {P : Program} {w : World} {B : Around} {E : Value → Shared → Prop} {s : Shared} {e z TI TO j1 j2 a b : Addr}
abbrev ER (h : Heap) (e z : Addr) (v : Value) (f : Bool) (i : Int) (old : Value) : Prop := h.get? e = some { cls := .type "enumerate", dict := none, data := .fields #[v, .bool f, .ref z, rawInt i, .none, old], slots := #[] }
theorem e_step {i m n : Nat} {us ws : Array Value} {x y old : Value} {Q : Value → Shared → Prop} (r : ER s.heap e z .none false (i : Int) old) (I : ZIn s.heap z TI TO j1 j2 a b m n us ws) (ne : e ∉ [z, TI, TO, j1, j2, a, b]) (hx : us[m]? = some x) (hy : ws[n]? = some y)
    (fin : ∀ h1, ER h1 e z (rawInt (s.heap.objs.size + 1 : Nat)) false ((i : Int) + 1) (.ref s.heap.objs.size) → ZIn h1 z TI TO j1 j2 a b (m + 1) (n + 1) us ws → IsPair h1 s.heap.objs.size x y → IsPair h1 (s.heap.objs.size + 1) (.int i s.toks) (.ref s.heap.objs.size) →
      h1.objs.size = s.heap.objs.size + 2 → Gr [e, z, TO, j1, j2] s.heap h1 → Q (.ref (s.heap.objs.size + 1)) { s with heap := h1, toks := s.toks + 1 }) :
    wpAny (model P w) B (Builtin.«enumerate.__next__» ⟨[.ref e], []⟩) (fun r s1 => ∃ v, r = .done (.ret v) ∧ Q v s1) E s := by
  simp only [List.mem_cons, List.not_mem_nil, or_false, not_or] at ne
  obtain ⟨nz, nI, nO, n1, n2, na, nb⟩ := ne
  change wpAny _ _ (field (.ref e) 2 >>= _) _ _ _
  refine wpAny_bind (wpAny_field r rfl (x := .ref z) rfl ?_)
  refine wpAny_bind (z_of I hx hy fun h1 z1 t1 s1 g1 => ?_)
  have r1 : ER h1 e z .none false i old := g1 _ _ (by simp [nz, nO, n1, n2]) r
  change wpAny _ _ (field (.ref e) 3 >>= _) _ _ { s with heap := h1 }
  refine wpAny_bind (wpAny_field r1 rfl (x := rawInt i) rfl ?_)
  change wpAny _ _ (field (.ref e) 4 >>= _) _ _ { s with heap := h1 }
  refine wpAny_bind (wpAny_field r1 rfl (x := .none) rfl ?_)
  change wpAny _ _ (mkInt i >>= _) _ _ { s with heap := h1 }
  refine wpAny_bind (wpAny_mkInt ?_)
  change wpAny _ _ (setField (.ref e) 3 (rawInt ((i : Int) + 1)) >>= _) _ _ { s with heap := h1, toks := s.toks + 1 }
  refine wpAny_bind (wpAny_setField_rec r1 (by simp) fun h2 r2 k2 => ?_)
  replace r2 : ER h2 e z .none false ((i : Int) + 1) old := r2
  change wpAny _ _ (setField (.ref e) 4 .none >>= _) _ _ { s with heap := h2, toks := s.toks + 1 }
  refine wpAny_bind (wpAny_setField_rec r2 (by simp) fun h3 r3 k3 => ?_)
  replace r3 : ER h3 e z .none false ((i : Int) + 1) old := r3
  change wpAny _ _ (newTuple [.int i s.toks, .ref s.heap.objs.size] >>= _) _ _ { s with heap := h3, toks := s.toks + 1 }
  refine wpAny_bind (wpAny_newTuple ?_)
  have sz : h3.objs.size = s.heap.objs.size + 1 := by rw [k3.1, k2.1]; exact s1
  have r4 : ER (h3.push { cls := .type "tuple", data := .seq #[.int i s.toks, .ref s.heap.objs.size] }) e z .none false ((i : Int) + 1) old := Heap.get?_push_of_some _ r3
  have g4 : Gr [e] h1 (h3.push { cls := .type "tuple", data := .seq #[.int i s.toks, .ref s.heap.objs.size] }) := ((Gr.of k2).trans (Gr.of k3)).trans (Gr.push _)
  have t4 : IsPair (h3.push { cls := .type "tuple", data := .seq #[.int i s.toks, .ref s.heap.objs.size] }) h3.objs.size (.int i s.toks) (.ref s.heap.objs.size) := Heap.get?_push_size _ rfl
  have s4 : (h3.push { cls := .type "tuple", data := .seq #[.int i s.toks, .ref s.heap.objs.size] }).objs.size = h3.objs.size + 1 := Heap.size_push ..
  change wpAny _ _ (Builtin.SmallTypes.ownedTupleIsFree (.ref e) >>= _) _ _ { s with heap := h3.push { cls := .type "tuple", data := .seq #[.int i s.toks, .ref s.heap.objs.size] }, toks := s.toks + 1 }
  generalize h3.push { cls := .type "tuple", data := .seq #[.int i s.toks, .ref s.heap.objs.size] } = h4 at r4 g4 t4 s4 ⊢
  rw [sz] at t4 s4 ⊢
  have el : e < s.heap.objs.size := Heap.lt_size r
  refine wpAny_bind ?_
  unfold Builtin.SmallTypes.ownedTupleIsFree
  refine wpAny_bind (wpAny_field r4 rfl (x := .none) rfl (wpAny_pure ?_))
  simp only [if_true]
  refine wpAny_bind (wpAny_rule ?_)
  refine wpAny_bind (wpAny_field r4 rfl (x := old) rfl ?_)
  refine wpAny_bind (wpAny_setField_rec r4 (by simp) fun h5 r5 k5 => ?_)
  replace r5 : ER h5 e z .none false ((i : Int) + 1) (.ref s.heap.objs.size) := r5
  change wpAny _ _ (Builtin.SmallTypes.ownedTupleHandOut (.ref e) (.ref (s.heap.objs.size + 1)) >>= _) _ _ { s with heap := h5, toks := s.toks + 1 }
  refine wpAny_bind ?_
  unfold Builtin.SmallTypes.ownedTupleHandOut
  refine wpAny_bind (wpAny_setField_rec r5 (by simp) fun h6 r6 k6 => ?_)
  replace r6 : ER h6 e z (rawInt (s.heap.objs.size + 1 : Nat)) false ((i : Int) + 1) (.ref s.heap.objs.size) := r6
  refine wpAny_setField_rec r6 (by simp) fun h7 r7 k7 => ?_
  replace r7 : ER h7 e z (rawInt (s.heap.objs.size + 1 : Nat)) false ((i : Int) + 1) (.ref s.heap.objs.size) := r7
  have g7 : Gr [e] h4 h7 := ((Gr.of k5).trans (Gr.of k6)).trans (Gr.of k7)
  have g17 : Gr [e] h1 h7 := g4.trans g7
  refine wpAny_bind (wpAny_letGo (wpAny_pure ⟨_, rfl, fin h7 r7 (z1.gr g17 (fun c hc => ?_)) (g17 _ _ (by simpa using Nat.ne_of_gt el) t1) (g7 _ _ (by simpa using Nat.ne_of_gt (Nat.lt_succ_of_lt el)) t4) (by rw [k7.1, k6.1, k5.1, s4]) ((g1.mono fun c hc => List.mem_cons_of_mem _ hc).trans g17.mono)⟩))
  simp only [List.mem_cons, List.not_mem_nil, or_false] at hc ⊢
  rcases hc with q | q | q | q | q | q | q <;> rw [q] <;> exact Ne.symm ‹_›
theorem e_next {i m n : Nat} {us ws : Array Value} {x y old : Value} {Q : Option Value → Shared → Prop} (r : ER s.heap e z .none false (i : Int) old) (I : ZIn s.heap z TI TO j1 j2 a b m n us ws) (ne : e ∉ [z, TI, TO, j1, j2, a, b]) (hx : us[m]? = some x) (hy : ws[n]? = some y)
    (fin : ∀ h1, ER h1 e z (rawInt (s.heap.objs.size + 1 : Nat)) false ((i : Int) + 1) (.ref s.heap.objs.size) → ZIn h1 z TI TO j1 j2 a b (m + 1) (n + 1) us ws → IsPair h1 s.heap.objs.size x y → IsPair h1 (s.heap.objs.size + 1) (.int i s.toks) (.ref s.heap.objs.size) →
      h1.objs.size = s.heap.objs.size + 2 → Gr [e, z, TO, j1, j2] s.heap h1 → Q (some (.ref (s.heap.objs.size + 1))) { s with heap := h1, toks := s.toks + 1 }) :
    wpAny (model P w) B (pyNext (.ref e)) Q E s := by
  have ty : s.TypeIs (.ref e) "enumerate" := ⟨_, r, rfl⟩
  unfold pyNext
  exact wpAny_bind (wpAny_attempt (wpAny_callSpecial?_slot (name := Str.ofString "__next__") ty F.slot_enumerate_next
    (wpAny_call_entry F.slot_enumerate_next ty F.entry_enumerate_next (e_step r I ne hx hy fun h1 q1 q2 q3 q4 q5 q6 => wpAny_pure (fin h1 q1 q2 q3 q4 q5 q6)) (F.args_enumerate_next_1 _))))
theorem e_end {i m n : Nat} {us ws : Array Value} {old : Value} {Q : Option Value → Shared → Prop} (hh : B.handled = none) (r : ER s.heap e z .none false (i : Int) old) (I : ZIn s.heap z TI TO j1 j2 a b m n us ws) (he : us[m]? = none ∨ ws[n]? = none)
    (fin : ∀ h1, Gr [z, TO, j1, j2] s.heap h1 → Q none { s with heap := h1 }) : wpAny (model P w) B (pyNext (.ref e)) Q E s := by
  have ty : s.TypeIs (.ref e) "enumerate" := ⟨_, r, rfl⟩
  unfold pyNext
  refine wpAny_bind (wpAny_attempt (wpAny_callSpecial?_slot (name := Str.ofString "__next__") ty F.slot_enumerate_next
    (wpAny_call_entry F.slot_enumerate_next ty F.entry_enumerate_next ?_ (F.args_enumerate_next_1 _))))
  change wpAny _ _ (field (.ref e) 2 >>= _) _ _ _
  refine wpAny_bind (wpAny_field r rfl (x := .ref z) rfl ?_)
  refine wpAny_bind (z_ofEnd hh I he fun h1 e1 g x => ?_)
  obtain ⟨oe, x3, x4⟩ := x
  exact wpAny_bind (wpAny_isInstance (T := "StopIteration") (b := true) ⟨oe, x3, x4⟩ isSubtype_stop (wpAny_pure (fin h1 g)))
end
end CF

set_option Elab.async false
set_option linter.all false
set_option maxRecDepth 100000
namespace CF
open PySem PySem.Spec PyProof.Rows L2

/-- the lists at a and b, the items in pairs, each pair behind its number -/
def Itez (K : PySem.W.Frag) (a b : Addr) : L2.It :=
  ⟨(Itz K a b).go, fun i H v H1 => ∃ T U x y, v = .ref T ∧ H U = none ∧ H T = none ∧ T ≠ U ∧ H1 = upd (upd H U (.tup [x, y])) T (.tup [.int (i : Nat), .ref U]) ∧ (∀ xs, SqL K H a xs → xs[i]? = some x) ∧ ∀ ys, SqL K H b ys → ys[i]? = some y, (Itz K a b).stop⟩
def iEz (K : PySem.W.Frag) (ta : TA) : TI := fun σ H R => ta σ H fun vs H1 => ∃ a b xs ys, vs = [.ref a, .ref b] ∧ SqL K H1 a xs ∧ SqL K H1 b ys ∧ R (Itez K a b) H1
section
variable {P : Program} {w : World} {K : PySem.W.Frag} {e z TI TO j1 j2 a b : Addr}
theorem go_tup {tg : PySem.Expr} (ht : ∃ es k p, tg = .Tuple es k p) {T : Addr} {i : Int} {x : Value} {B : Around} {E : Value → Shared → Prop} {s : Shared} {Q : Unit → Shared → Prop} (r : ER s.heap e z (rawInt T) false i x)
    (q : ∀ h1, ER h1 e z .none false i x → Heap.SameBut e s.heap h1 → Q () { s with heap := h1 }) : wpAny (model P w) B (letOwnedTupleGo tg (.ref e) (.ref T)) Q E s := by
  obtain ⟨es, k, p, rfl⟩ := ht
  exact PySem.wpAny_letOwnedTupleGo_enum r q
theorem turn_ez {tg : PySem.Expr} (D : ZipApart z TI TO j1 j2 a b) (ne : e ∉ [z, TI, TO, j1, j2, a, b]) (ht : ∃ es k p, tg = .Tuple es k p) :
    Turn P w K tg (Itez K a b) [e, z, TI, TO, j1, j2] e (fun i h => (∃ old, ER h e z .none false ((i : Nat) : Int) old) ∧ TnZ z TI TO j1 j2 a b i h) where
  mem := List.mem_cons_self
  obj := fun i h st c hc => by
    obtain ⟨⟨old, r⟩, zz⟩ := st
    rcases List.mem_cons.mp hc with rfl | hc
    · exact ⟨_, r, fun v q => nomatch q⟩
    · exact zz.obj c hc
  keep := fun i h h1 st k => by
    obtain ⟨⟨old, r⟩, zz⟩ := st
    exact ⟨⟨old, k e List.mem_cons_self _ r⟩, zz.keep fun c hc => k c (List.mem_cons_of_mem _ hc)⟩
  item := by
    intro X hP hw hK hc i pins s σ H E I hf st hg
    subst hP hw hK
    obtain ⟨⟨old, r⟩, zz⟩ := st
    obtain ⟨xs, ys, x, y, qx, qy, ex, ey⟩ := hg
    obtain ⟨us, rv1, p1, _⟩ := I.list qx
    obtain ⟨ws, rv2, p2, _⟩ := I.list qy
    obtain ⟨u, eu, ru⟩ := rv1.get ex
    obtain ⟨w', ew, rw'⟩ := rv2.get ey
    have lt : ∀ c ∈ [e, z, TI, TO, j1, j2], c < s.heap.objs.size := fun c hc => by
      rcases List.mem_cons.mp hc with rfl | hc
      · exact Heap.lt_size r
      · exact zz.lt c hc
    refine e_next r (zz.zin D p1.isList p2.isList) ne (x := u) (y := w') (by simpa using eu) (by simpa using ew) fun h1 r1 z1 t1 t2 s1 g1 => ?_
    refine ⟨_, rfl, go_tup (s := { s with heap := h1, toks := s.toks + 1 }) ht r1 fun h2 r2 k2 => ?_⟩
    have el : e < s.heap.objs.size := lt e List.mem_cons_self
    have t1' : h2.get? s.heap.objs.size = some { cls := .type "tuple", data := .seq #[u, w'] } := (k2.2 _ (Nat.ne_of_gt el)).trans t1
    have t2' : h2.get? (s.heap.objs.size + 1) = some { cls := .type "tuple", data := .seq #[.int i s.toks, .ref s.heap.objs.size] } := (k2.2 _ (Nat.ne_of_gt (Nat.lt_succ_of_lt el))).trans t2
    have nU : H s.heap.objs.size = none := I.hok.fresh (Nat.le_refl _)
    have nT : H (s.heap.objs.size + 1) = none := I.hok.fresh (Nat.le_succ _)
    have G : Gr [e, z, TI, TO, j1, j2] s.heap h2 := (g1.mono (fun c hc => by simp only [List.mem_cons, List.not_mem_nil, or_false] at hc ⊢; rcases hc with q | q | q | q | q <;> simp [q])).trans (Gr.of k2).mono
    obtain ⟨G2, g2, g3⟩ := restrict h2 fun c => decide (c ≠ s.heap.objs.size + 1)
    have gk : ∀ c o, c ≠ s.heap.objs.size + 1 → h2.get? c = some o → G2.get? c = some o := fun c o hc q => by
      rw [g2 c (decide_eq_true hc)]
      exact q
    have gn : G2.get? (s.heap.objs.size + 1) = none := g3 _ (decide_eq_false fun q => q rfl)
    have gb : ∀ c o, G2.get? c = some o → h2.get? c = some o := fun c o q => by
      by_cases hc : c = s.heap.objs.size + 1
      · rw [hc, gn] at q
        cases q
      · rw [g2 c (decide_eq_true hc)] at q
        exact q
    have GG : Gr [e, z, TI, TO, j1, j2] s.heap G2 := fun c o hc q => gk c o (Nat.ne_of_lt (Nat.lt_succ_of_lt (Heap.lt_size q))) (G c o hc q)
    have new1 : ObjOk X.prog X.w (upd H s.heap.objs.size (.tup [x, y])) G2 s.heap.objs.size (.tup [x, y]) := ⟨by show 2 ≤ sizeLine; decide, [u, w'], .cons ru (.cons rw' .nil), ⟨_, gk _ _ (Nat.ne_of_lt (Nat.lt_succ_self _)) t1', rfl, _, rfl⟩⟩
    have J1 : Inv X pins σ (upd H s.heap.objs.size (.tup [x, y])) { s with heap := G2, toks := s.toks + 1 } := I.turnedNew (ch := [e, z, TI, TO, j1, j2]) GG hf (Nat.le_refl _) new1
    have nT1 : upd H s.heap.objs.size (.tup [x, y]) (s.heap.objs.size + 1) = none := by rw [upd_ne (Nat.succ_ne_self _)]; exact nT
    have new2 : ObjOk X.prog X.w (upd (upd H s.heap.objs.size (.tup [x, y])) (s.heap.objs.size + 1) (.tup [.int (i : Nat), .ref s.heap.objs.size])) h2 (s.heap.objs.size + 1) (.tup [.int (i : Nat), .ref s.heap.objs.size]) :=
      ⟨by show 2 ≤ sizeLine; decide, [.int i s.toks, .ref s.heap.objs.size], .cons ⟨_, rfl⟩ (.cons rfl .nil), ⟨_, t2', rfl, _, rfl⟩⟩
    have J2 := J1.laidN (t' := s.toks + 1) gb gn nT1 new2
    refine ⟨.ref (s.heap.objs.size + 1), _, J2, rfl, ⟨_, _, x, y, rfl, nU, nT, Nat.succ_ne_self _, rfl, fun l hl => by rw [I.list_inj hl qx]; exact ex, fun l hl => by rw [I.list_inj hl qy]; exact ey⟩, ⟨⟨.ref s.heap.objs.size, ?_⟩, (z1.gr (Gr.of k2) fun c hc m => ?_).tn⟩, fun c hc => ?_⟩
    · have e1 : ((i + 1 : Nat) : Int) = (i : Int) + 1 := by omega
      rw [e1]
      exact r2
    · rw [List.mem_singleton] at m
      exact ne (m ▸ hc)
    · have l := lt c hc
      rw [upd_ne (Nat.ne_of_lt (Nat.lt_succ_of_lt l)), upd_ne (Nat.ne_of_lt l)]
      exact (hf c hc).1
  done := by
    intro X hP hw hK hc i pins s σ H E I hf st hg
    subst hP hw hK
    obtain ⟨⟨old, r⟩, zz⟩ := st
    obtain ⟨xs, ys, qx, qy, hend⟩ := hg
    obtain ⟨us, rv1, p1, _⟩ := I.list qx
    obtain ⟨ws, rv2, p2, _⟩ := I.list qy
    exact e_end (I.ok.hd hc) r (zz.zin D p1.isList p2.isList) (ends_of rv1 rv2 hend) fun h1 g1 => ⟨rfl, I.turnedL (t' := s.toks) (ch := [e, z, TI, TO, j1, j2]) (g1.mono (fun c hc => by simp only [List.mem_cons, List.not_mem_nil, or_false] at hc ⊢; rcases hc with q | q | q | q <;> simp [q])) hf⟩
  self := fun A i s Q E st h => by
    obtain ⟨⟨old, r⟩, _⟩ := st
    exact wpAny_pyIter_enum r h
end
/-- enumerate(z), z a zip -/
theorem new_ez (z : Addr) (TI TO : Addr) :
    Meets (Builtin.«enumerate.__new__» ⟨[.type "enumerate", .ref z], []⟩) (fun _ R s => IsZip s.heap z TI TO .none ∧
      R (.ok (.ret (.ref s.heap.objs.size))) { s with heap := s.heap.push { cls := .type "enumerate", data := .fields #[.none, .bool false, .ref z, rawInt 0, .none, .none] } }) :=
  .of_wp fun prog w A R s h => by
    obtain ⟨hp, g, d, tk, os⟩ := s
    obtain ⟨hz, h⟩ := h
    have hsub := sub_enumerate
    have hL : IsZip (Shared.heap ⟨hp, g, d, tk, os⟩) z TI TO .none := hz
    wp_walk using wpAny_loadPart' hz
    refine wpAny_stack_any fun st => wpAny_pure ?_
    split
    · rename_i c _ _ _ _ _
      cases (c == Value.type "enumerate")
      · wp_walk using wpAny_loadPart' hz, wpAny_pyIter_zip hL
        exact ⟨_, rfl, h⟩
      · wp_walk using wpAny_loadPart' hz, wpAny_pyIter_zip hL
        exact ⟨_, rfl, h⟩
    · wp_walk using wpAny_loadPart' hz, wpAny_pyIter_zip hL
      exact ⟨_, rfl, h⟩
section
theorem boot_ez : bootBuiltins ("enumerate" : Str) = some (.type "enumerate") := by kernel_rfl
theorem six {x c : Nat} (h : c ∈ [x + 5, x + 4, x + 2, x + 3, x, x + 1]) : x ≤ c := by
  simp only [List.mem_cons, List.not_mem_nil, or_false] at h
  omega
theorem six_ap {x a b : Nat} (la : a < x) (lb : b < x) (m : x + 5 ∈ [x + 4, x + 2, x + 3, x, x + 1, a, b]) : False := by
  simp only [List.mem_cons, List.not_mem_nil, or_false] at m
  omega
theorem pi_ez {X : Cx} {x1 x2 tg : PySem.Expr} {ta : TA} {p p2 q2 pos : Pos} (ht : ∃ es k p, tg = .Tuple es k p) (hg : Gl X "enumerate") (hm : X.mg "enumerate" = none) (hg2 : Gl X "zip") (hm2 : X.mg "zip" = none) (ha : PA X [x1, x2] ta)
    (hs : starEach [x1, x2] X.env = (false, eval x1 X.env) :: starEach [x2] X.env) (hpl : (backTo q2 (starEach [x2] X.env)).any (·.1) = false) :
    PI X tg (.Call (.Name "enumerate" p) [.Call (.Name "zip" p2) [x1, x2] [] q2] [] pos) (iEz X.K ta) := by
  refine ⟨fun pins s σ H R I h => ?_⟩
  refine Call_ (ld_blt I hg hm boot_ez (PyProof.Rows.callWith_type1 ?_ rfl rfl))
  refine Calls.spliced_cons ?_
  refine Call_ (ld_blt I hg2 hm2 PyProof.Rows.boot_zip (PyProof.Rows.callWith_type1 (thn (ha.run q2 pins s σ H _ I h) fun us s1 ⟨vs, H1, I1, r1, q1⟩ => ?_) hs hpl))
  obtain ⟨a, b, xs, ys, rfl, qx, qy, q⟩ := q1
  obtain ⟨u1, u2, rfl, k1, k2⟩ := vals_two (vs := []) r1
  cases k1
  cases k2
  obtain ⟨us, rv1, p1, _⟩ := I1.list qx
  obtain ⟨ws, rv2, p2, _⟩ := I1.list qy
  have D := PySem.W.ktu_apart s1.heap.objs.size a b p1.lt p2.lt
  have la := p1.lt
  have lb := p2.lt
  refine call_zip_2 p1.isList p2.isList fun h1 m1 m2 m3 m4 m5 m6 mk => ?_
  refine Calls.spliced_nil ?_
  refine callType_new F.called_enumerate (by decide) (F.typeCall_enumerate_1 _) (F.newCall_enumerate_1 _) (fun obj => F.args_object_init_2 obj _) F.entry_enumerate_new (new_ez (s1.heap.objs.size + 4) (s1.heap.objs.size + 2) (s1.heap.objs.size + 3)) ⟨m1, ?_⟩
  rw [m6]
  have g5 : Gr [] h1 (h1.push { cls := .type "enumerate", data := .fields #[.none, .bool false, .ref (s1.heap.objs.size + 4), rawInt 0, .none, .none] }) := Gr.push _
  have r5 : (h1.push { cls := .type "enumerate", data := .fields #[.none, .bool false, .ref (s1.heap.objs.size + 4), rawInt 0, .none, .none] }).get? h1.objs.size = some { cls := .type "enumerate", data := .fields #[.none, .bool false, .ref (s1.heap.objs.size + 4), rawInt 0, .none, .none] } := Heap.get?_push_size _ rfl
  generalize h1.push { cls := .type "enumerate", data := .fields #[.none, .bool false, .ref (s1.heap.objs.size + 4), rawInt 0, .none, .none] } = h2 at g5 r5 ⊢
  rw [m6] at r5
  have no : ∀ {c : Addr}, c ∉ ([] : List Addr) := by simp
  have r5' : ER h2 (s1.heap.objs.size + 5) (s1.heap.objs.size + 4) .none false ((0 : Nat) : Int) .none := r5
  refine ⟨⟨_, r5, rfl⟩, wpAny_pyIter_enum r5' ?_⟩
  refine ⟨s1.heap.objs.size + 5, [s1.heap.objs.size + 5, s1.heap.objs.size + 4, s1.heap.objs.size + 2, s1.heap.objs.size + 3, s1.heap.objs.size, s1.heap.objs.size + 1], _, _, H1, rfl, I1.kept (t' := s1.toks) fun c o k => g5 c o no (mk c o k), turn_ez D (fun m => ?_) ht, ⟨⟨.none, r5'⟩, ⟨.none, false, .inl rfl, g5 _ _ no m1⟩, g5 _ _ no m2, ⟨_, _, g5 _ _ no m3⟩, m4.at fun o k => g5 _ o no k, m5.at fun o k => g5 _ o no k⟩, fun c hc => ?_, q⟩
  · exact six_ap la lb m
  · exact I1.fpOk (six hc) (I1.hok.fresh (six hc))
end
end CF

set_option Elab.async false
set_option linter.all false
set_option maxRecDepth 100000
namespace CF
open PySem PySem.Spec PyProof.Rows L2

/-! ## a dict of the def's own, with tuples as keys -/
section
variable {X : Cx} {pins : List (Addr × Obj)} {σ : L2.St} {H : Hp} {s : Shared} {W : Wd}
mutual
theorem Rep.key (hK : W.K = X.K) (I : Inv X pins σ H s) : ∀ {d : Dv} {x : V} {u : Value} {k : NestedKey}, Rep W H x d → keyOf d = some k → RelV x u → NestedIs s.heap k u
  | _, _, _, _, .non, e, r => by
    cases e
    cases r
    exact .none
  | _, _, _, _, .bl b, e, r => by
    cases e
    cases r
    exact .bool rfl
  | _, _, _, _, .int i, e, r => by
    cases e
    obtain ⟨t, rfl⟩ := r
    exact .int _ t
  | _, _, _, _, .str i, e, r => by
    cases e
    obtain ⟨t, rfl⟩ := r
    exact .text _ t
  | _, _, _, _, .tup h rs, e, r => by
    rw [keyOf] at e
    obtain ⟨ks, e1, rfl⟩ := Option.map_eq_some_iff.mp e
    cases r
    rw [hK] at h
    obtain ⟨its, rv, ⟨o, ho, hc, n, hd⟩, _⟩ := I.tuple h
    exact .tup ho hc hd (by simpa using Reps.keys hK I rs e1 rv)
  | _, _, _, _, .lst _ _, e, _ => by cases e
  | _, _, _, _, .dct _ _ _, e, _ => by cases e
  | _, _, _, _, .scr _, e, _ => by cases e
  | _, _, _, _, .exc _ _ _ _ _, e, _ => by cases e
theorem Reps.keys (hK : W.K = X.K) (I : Inv X pins σ H s) : ∀ {ds : List Dv} {xs : List V} {us : List Value} {ks : List NestedKey}, Reps W H xs ds → keysOf ds = some ks → Vals xs us → NestedAll s.heap ks us
  | _, _, _, _, .nil, e, .nil => by
    cases e
    exact .nil
  | _, _, _, _, .cons h r, e, .cons a b => by
    rw [keysOf] at e
    split at e
    · rename_i k ks e1 e2
      cases e
      exact .cons (Rep.key hK I h e1 a) (Reps.keys hK I r e2 b)
    · cases e
end
theorem tkey_some {d : Dv} {k : NestedKey} (h : tkey d = some k) : keyOf d = some k ∧ k.depth ≤ 8 ∧ ∃ xs, d = .tup xs := by
  cases d <;> try cases h
  rename_i xs
  obtain ⟨k', e1, e2⟩ := Option.bind_eq_some_iff.mp (show ((keyOf (.tup xs)).bind fun k => if k.depth ≤ 8 then some k else none) = some k from h)
  obtain ⟨e3, rfl⟩ := if_some e2
  exact ⟨e1, e3, xs, rfl⟩
/-- a tuple that is a key -/
theorem tkey_at (hK : W.K = X.K) (I : Inv X pins σ H s) {d : Dv} {x : V} {u : Value} {k : NestedKey} (r : Rep W H x d) (h : tkey d = some k) (ru : RelV x u) : ∃ a, x = .ref a ∧ u = .ref a ∧ (nestedKind X.prog X.w).is s.heap k a := by
  obtain ⟨h1, h2, xs, rfl⟩ := tkey_some h
  have q := r.key hK I h1 ru
  cases r with
  | tup h rs =>
    cases ru
    exact ⟨_, rfl, rfl, q, h2⟩
def PairOk (rs : List (NestedKey × Addr × V)) (xs : List (NestedKey × Addr × Value)) : Prop := Paired (fun p q => p.1 = q.1 ∧ p.2.1 = q.2.1 ∧ L2.RelV p.2.2 q.2.2) rs xs
theorem pair_is (hK : W.K = X.K) (I : Inv X pins σ H s) {HF : Hp} (sub : Same HF H) : ∀ {rs : List (NestedKey × Addr × V)} {xs : List (NestedKey × Addr × Value)} {kvs : List (Dv × Dv)}, PairOk rs xs → DRel W HF rs kvs → ∀ x ∈ xs, (nestedKind X.prog X.w).is s.heap x.1 x.2.1
  | _, _, _, .nil, .nil, x, hx => (List.not_mem_nil hx).elim
  | _, _, _, .cons h p, .cons h1 h2 h3 h4 r, x, hx => by
    rcases List.mem_cons.mp hx with rfl | hx
    · obtain ⟨e1, e2, _⟩ := h
      rw [← e1, ← e2]
      exact ⟨(h1.mono sub).key hK I h2 rfl, h3⟩
    · exact pair_is hK I sub p r x hx
/-- the dict as the model's dict -/
theorem dic_at (hP : W.P = X.prog) (hw : W.w = X.w) (hK : W.K = X.K) (I : Inv X pins σ H s) {HF : Hp} (sub : Same HF H) {p : Addr} {rs : List (NestedKey × Addr × V)} {kvs : List (Dv × Dv)} (h : H p = some (DicO W p rs)) (r : DRel W HF rs kvs) :
    (p == sysModules) = false ∧ ∃ xs, PairOk rs xs ∧ s.heap.DictOfH (nestedKind X.prog X.w) p xs := by
  obtain ⟨⟨hm, xs, pr, o, es, ep, ho, hx, hd, he, nd⟩, _⟩ := I.hok p _ h
  rw [hP, hw] at he
  exact ⟨hm, xs, pr, o, es, ep, ho, hx, hd, he, pair_is hK I sub pr r, nd⟩
theorem dfind_at {HF : Hp} {k : NestedKey} : ∀ {rs : List (NestedKey × Addr × V)} {xs : List (NestedKey × Addr × Value)} {kvs : List (Dv × Dv)}, PairOk rs xs → DRel W HF rs kvs →
    (dfind k kvs = none ∧ atKey xs k = none) ∨ ∃ e a v w, dfind k kvs = some e ∧ atKey xs k = some (a, w) ∧ RelV v w ∧ Rep W HF v e
  | _, _, _, .nil, .nil => .inl ⟨rfl, rfl⟩
  | _, _, _, .cons (a := p) (b := q) (l₂ := qs) h p', .cons (d := d) h1 h2 h3 h4 r => by
    obtain ⟨e1, e2, e3⟩ := h
    unfold dfind
    by_cases c : q.1 = k
    · have : keyOf d = some k := by rw [h2]; exact congrArg some (e1.trans c)
      refine .inr ⟨_, q.2.1, _, q.2.2, by rw [if_pos this], ?_, e3, h4⟩
      simp [atKey, c]
    · have : keyOf d ≠ some k := by rw [h2]; exact fun z => c (e1.symm.trans (Option.some.inj z))
      rw [if_neg this]
      have ea : atKey (q :: qs) k = atKey qs k := by simp [atKey, c]
      rw [ea]
      exact dfind_at p' r
def stoR (k : NestedKey) (a : Addr) (v : V) : List (NestedKey × Addr × V) → List (NestedKey × Addr × V)
  | [] => [(k, a, v)]
  | p :: r => if p.1 = k then (p.1, p.2.1, v) :: r else p :: stoR k a v r
def stoH (k : NestedKey) (a : Addr) (v : Value) : List (NestedKey × Addr × Value) → List (NestedKey × Addr × Value)
  | [] => [(k, a, v)]
  | p :: r => if p.1 = k then (p.1, p.2.1, v) :: r else p :: stoH k a v r
theorem putAt_out {k : NestedKey} {v : Value} : ∀ {xs : List (NestedKey × Addr × Value)}, k ∉ xs.map (·.1) → xs.map (putAt k v) = xs
  | [], _ => rfl
  | x :: xs, h => by
    rw [List.map_cons, List.mem_cons, not_or] at h
    rw [List.map_cons, putAt_out h.2]
    simp [putAt, Ne.symm h.1]
theorem stored_sto (k : NestedKey) (a : Addr) (v : Value) : ∀ {xs : List (NestedKey × Addr × Value)}, (xs.map (·.1)).Nodup → storedH xs k a v = stoH k a v xs
  | [], _ => rfl
  | x :: xs, n => by
    rw [List.map_cons, List.nodup_cons] at n
    unfold stoH
    by_cases c : x.1 = k
    · rw [if_pos c]
      have e : (atKey (x :: xs) k).isSome = true := by simp [atKey, c]
      unfold storedH
      rw [if_pos e, List.map_cons, putAt_out (by rw [← c]; exact n.1)]
      simp [putAt, c]
    · rw [if_neg c, ← stored_sto k a v n.2]
      have e : atKey (x :: xs) k = atKey xs k := by simp [atKey, c]
      unfold storedH
      rw [e]
      split
      · rw [List.map_cons]
        simp [putAt, c]
      · rfl
theorem sto_pair {k : NestedKey} {a : Addr} {v : V} {w : Value} (rv : RelV v w) : ∀ {rs : List (NestedKey × Addr × V)} {xs : List (NestedKey × Addr × Value)}, PairOk rs xs → PairOk (stoR k a v rs) (stoH k a w xs)
  | _, _, .nil => .cons ⟨rfl, rfl, rv⟩ .nil
  | _, _, .cons (a := p) (b := q) h r => by
    obtain ⟨e1, e2, e3⟩ := h
    unfold stoR stoH
    by_cases c : q.1 = k
    · rw [if_pos c, if_pos (e1.trans c)]
      exact .cons ⟨e1, e2, rv⟩ r
    · rw [if_neg c, if_neg (fun z => c (e1.symm.trans z))]
      exact .cons ⟨e1, e2, e3⟩ (sto_pair rv r)
theorem sto_rel {HF : Hp} {k : NestedKey} {a : Addr} {v : V} {d x : Dv} (rd : Rep W HF (.ref a) d) (hk : keyOf d = some k) (hd : k.depth ≤ 8) (rv : Rep W HF v x) : ∀ {rs : List (NestedKey × Addr × V)} {kvs : List (Dv × Dv)}, DRel W HF rs kvs → DRel W HF (stoR k a v rs) (dstore k d x kvs)
  | _, _, .nil => .cons rd hk hd rv .nil
  | _, _, .cons (d := d') (k := k') h1 h2 h3 h4 r => by
    unfold stoR dstore
    by_cases c : k' = k
    · rw [if_pos c, if_pos (by rw [h2, c])]
      exact .cons h1 h2 h3 rv r
    · rw [if_neg c, if_neg (by rw [h2]; exact fun z => c (Option.some.inj z))]
      exact .cons h1 h2 h3 h4 (sto_rel rd hk hd rv r)
theorem sto_keys {k : NestedKey} {a : Addr} {v : Value} : ∀ {xs : List (NestedKey × Addr × Value)}, (xs.map (·.1)).Nodup → ((stoH k a v xs).map (·.1)).Nodup := fun {xs} n => by
  have key : ∀ {xs : List (NestedKey × Addr × Value)} (y : NestedKey), y ∈ (stoH k a v xs).map (·.1) → y = k ∨ y ∈ xs.map (·.1) := fun {xs} => by
    induction xs with
    | nil => intro y h; simp [stoH] at h; exact .inl h
    | cons x xs ih =>
      intro y h
      unfold stoH at h
      split at h
      · exact .inr h
      · rw [List.map_cons, List.mem_cons] at h
        rcases h with rfl | h
        · exact .inr (by simp)
        · rcases ih y h with z | z
          · exact .inl z
          · exact .inr (by rw [List.map_cons]; exact List.mem_cons_of_mem _ z)
  induction xs with
  | nil => simp [stoH]
  | cons x xs ih =>
    rw [List.map_cons, List.nodup_cons] at n
    unfold stoH
    split
    · rw [List.map_cons, List.nodup_cons]
      exact n
    · rename_i c
      rw [List.map_cons, List.nodup_cons]
      refine ⟨fun m => ?_, ih n.2⟩
      rcases key _ m with z | z
      · exact c z
      · exact n.1 z
end
/-! ### what one does with it -/
section
variable {X : Cx} {W : Wd}
/-- a dict of the def's own at hand, a key -/
structure DAt (W : Wd) (H HF : Hp) (p : Addr) (rs : List (NestedKey × Addr × V)) (kvs : List (Dv × Dv)) (y : V) (d : Dv) (k : NestedKey) : Prop where
  h : H p = some (DicO W p rs)
  r : DRel W HF rs kvs
  sub : Same HF H
  rd : Rep W HF y d
  k : tkey d = some k
def rDg (W : Wd) : R2 := fun x y H Q => ∃ HF p rs kvs d k e, x = .ref p ∧ DAt W H HF p rs kvs y d k ∧ dfind k kvs = some e ∧ ∀ v, Rep W HF v e → Q v H
theorem dg_ok (hP : W.P = X.prog) (hw : W.w = X.w) (hK : W.K = X.K) (hu : X.A.units + 200 < cLine) : IxR X (rDg W) := by
  intro value slice pins s σ H x y v u Q I rx ry h hs
  obtain ⟨HF, p, rs, kvs, d, k, e, rfl, A, hf, q⟩ := h
  cases rx
  obtain ⟨a, rfl, rfl, is⟩ := tkey_at hK I (A.rd.mono A.sub) A.k ry
  obtain ⟨hm, xs, pr, dx⟩ := dic_at hP hw hK I A.sub A.h A.r
  rcases dfind_at (k := k) pr A.r with ⟨z, _⟩ | ⟨e', a', v', w', z1, z2, z3, z4⟩
  · rw [hf] at z
    cases z
  · rw [hf] at z1
    cases z1
    refine tail_any dx.typeIs PySem.F.slot_dict_getitem.lookup (wpAny_getItem_heap ?_ is dx z2 ?_) hs
    · show X.A.in1.units + 8 < cLine
      rw [Around.in1_units]
      omega
    · exact ⟨v', H, I.tok _, z3, q _ z4⟩
def rDi (W : Wd) (neg : Bool) : R2 := fun y x H Q => ∃ HF p rs kvs d k, x = .ref p ∧ DAt W H HF p rs kvs y d k ∧ Q (.bl (xor neg (dfind k kvs).isSome)) H
theorem find_some {HF : Hp} {k : NestedKey} {rs : List (NestedKey × Addr × V)} {xs : List (NestedKey × Addr × Value)} {kvs : List (Dv × Dv)} (p : PairOk rs xs) (r : DRel W HF rs kvs) : (atKey xs k).isSome = (dfind k kvs).isSome := by
  rcases dfind_at (k := k) p r with ⟨z1, z2⟩ | ⟨e', a', v', w', z1, z2, _, _⟩
  · rw [z1, z2]
    rfl
  · rw [z1, z2]
    rfl
theorem di_ok (hP : W.P = X.prog) (hw : W.w = X.w) (hK : W.K = X.K) (hu : X.A.units + 200 < cLine) : ∀ neg : Bool, OpR X (compareOp (if neg then .NotIn else .In)) (rDi W neg) := by
  intro neg pins s σ H y x v u Q I ry rx h
  obtain ⟨HF, p, rs, kvs, d, k, rfl, A, q⟩ := h
  cases rx
  obtain ⟨a, rfl, rfl, is⟩ := tkey_at hK I (A.rd.mono A.sub) A.k ry
  obtain ⟨hm, xs, pr, dx⟩ := dic_at hP hw hK I A.sub A.h A.r
  have room : (nestedKind X.prog X.w).room X.A.in1 := by
    show X.A.in1.units + 8 < cLine
    rw [Around.in1_units]
    omega
  have fs := find_some (k := k) pr A.r
  rw [← fs] at q
  cases neg with
  | false =>
    refine in_keyed room is hm ⟨xs, dx, rfl⟩ ?_
    rw [valueAt_pairsH, Option.isSome_map]
    exact ⟨.bl _, H, I.tok _, rfl, by simpa using q⟩
  | true =>
    refine notIn_keyed room is hm ⟨xs, dx, rfl⟩ ?_
    rw [valueAt_pairsH, Option.isSome_map]
    exact ⟨.bl _, H, I.tok _, rfl, by simpa using q⟩
def rDp (W : Wd) : TSet := fun o i v H Q => ∃ HF p rs kvs d k x, o = .ref p ∧ DAt W H HF p rs kvs i d k ∧ Rep W HF v x ∧ kvs.length < 16777216 ∧ ∀ rs', DRel W HF rs' (dstore k d x kvs) → Q (upd H p (DicO W p rs'))
theorem drel_len {HF : Hp} : ∀ {rs : List (NestedKey × Addr × V)} {xs : List (NestedKey × Addr × Value)} {kvs : List (Dv × Dv)}, PairOk rs xs → DRel W HF rs kvs → xs.length = kvs.length
  | _, _, _, .nil, .nil => rfl
  | _, _, _, .cons _ p, .cons _ _ _ _ r => congrArg (· + 1) (drel_len p r)
theorem dp_ok (hP : W.P = X.prog) (hw : W.w = X.w) (hK : W.K = X.K) (hu : X.A.units + 200 < cLine) : PSet X (rDp W) := by
  intro pins s σ H o i v ov iv u Q I ro ri rv h
  obtain ⟨HF, p, rs, kvs, d, k, x, rfl, A, rx, hl, q⟩ := h
  cases ro
  obtain ⟨a, rfl, rfl, is⟩ := tkey_at hK I (A.rd.mono A.sub) A.k ri
  obtain ⟨hm, xs, pr, dx⟩ := dic_at hP hw hK I A.sub A.h A.r
  have room : (nestedKind X.prog X.w).room X.A.in1 := by
    show X.A.in1.units + 8 < cLine
    rw [Around.in1_units]
    omega
  have nd : (xs.map (·.1)).Nodup := by
    obtain ⟨_, _, _, _, _, _, _, _, n⟩ := dx
    exact n
  obtain ⟨k1, k2, _⟩ := tkey_some A.k
  refine wpAny_setItem_heap room is dx (fun h1 d1 sb => ?_) (by rw [drel_len pr A.r, sizeLine_eq]; omega)
  rw [stored_sto k a u nd] at d1
  obtain ⟨ob, es, ep, ho, hx, hd, he, _, n1⟩ := d1
  refine ⟨_, I.write (x := p) (e := p) (o := DicO W p (stoR k a v rs)) (by rw [A.h]; trivial) (.inl rfl) (fun b w hb e => (sb.2 b hb).trans e) ⟨ob, ho⟩ ?_, q _ (sto_rel A.rd k1 k2 rx A.r)⟩
  refine ⟨⟨hm, _, sto_pair rv pr, ob, es, ep, ho, hx, hd, by rw [hP, hw]; exact he, n1⟩, ⟨ob, ho⟩, fun a1 a2 f k => ?_⟩
  obtain ⟨m1, m2, m3, m4, m5, m6, m7, m8⟩ := f
  exact ⟨m1, m2, m3, m4, m5, m6, k _ m7, m8⟩
/-- {} -/
theorem pe_dnewD {pos : Pos} : PE X (.Dict [] [] pos) (fun _ H Q => ∀ p, H p = none → Q (.ref p) (upd H p (DicO W p []))) := ⟨fun pins s σ H Q I h => by
  refine wpAny_Dict_empty ⟨.ref s.heap.objs.size, _, I.laid (a := s.heap.objs.size) (o := DicO W s.heap.objs.size []) (t' := s.toks) (fun _ _ q => Heap.get?_push_of_some _ q) (Nat.le_refl _) ?_, rfl, h _ (I.hok.fresh (Nat.le_refl _))⟩
  have g : (s.heap.push { cls := .type "dict", data := .dict #[] }).get? s.heap.objs.size = some { cls := .type "dict", data := .dict #[] } := Heap.get?_push_size _ rfl
  refine ⟨⟨beq_eq_false_iff_ne.mpr (Ne.symm (Nat.ne_of_lt I.big)), [], .nil, _, #[], 0, g, ⟨rfl, rfl, rfl⟩, rfl, rfl, List.nodup_nil⟩, ⟨_, g⟩, fun a1 a2 f k => ?_⟩
  obtain ⟨m1, m2, m3, m4, m5, m6, m7, m8⟩ := f
  exact ⟨m1, m2, m3, m4, m5, m6, k _ m7, m8⟩⟩
end
end CF

set_option Elab.async false
set_option linter.all false
set_option maxRecDepth 100000
namespace CF
open PySem PySem.Spec PyProof.Rows L2

/-! ## len(set(xs)), xs tuples that are keys, below 64 -/
section
variable {P : Program} {w : World}
def Says (f : Nat → Value → Sem Bool) (b : Bool) (P : Program) (w : World) (n : Nat) (s : Shared) (v : Value) : Prop := ∀ (A : Around) (E : Value → Shared → Prop) (Q : Bool → Shared → Prop), Q b s → wpAny (model P w) A (f n v) Q E s
theorem Says.pure {f : Nat → Value → Sem Bool} {b : Bool} {n : Nat} {s : Shared} {v : Value} (h : f n v = pure b) : Says f b P w n s v := fun A E Q q => by
  rw [h]
  exact wpAny_pure q
mutual
theorem ofA_key : ∀ (k : NestedKey) (v : Value) (n : Nat) (s : Shared), NestedIs s.heap k v → k.depth ≤ n → Says ofAClassStatement false P w n s v
  | .none, _, n, s, x, _ => by cases x; exact .pure (by cases n <;> rfl)
  | .num i, _, n, s, x, _ => by cases x <;> exact .pure (by cases n <;> rfl)
  | .text y, _, n, s, x, _ => by cases x; exact .pure (by cases n <;> rfl)
  | .tup ks, _, n, s, x, hn => by
    cases x with
    | tup hg hc hd hk =>
      simp only [NestedKey.depth] at hn
      cases n with
      | zero => omega
      | succ n =>
        have all := ofA_keys ks _ n s hk (by omega)
        intro A E Q q
        have ty : s.TypeIs (.ref _) "tuple" := ⟨_, hg, hc⟩
        unfold ofAClassStatement
        refine wpAny_bind (wpAny_typeOf ty ?_)
        dsimp only
        rw [if_pos (by decide)]
        refine wpAny_bind (wpAny_pure ?_)
        rw [if_neg (by decide)]
        change wpAny _ _ (seqItems? (.ref _) >>= _) _ _ s
        refine wpAny_bind (wpAny_seqItems hg hd ?_)
        refine wpAny_bind ?_
        change wpAny _ _ (forIn _ _ _) _ _ s
        rw [← Array.forIn_toList]
        refine wpAny_forIn_list _ (fun rest r s1 => r.1 = none ∧ s1 = s ∧ ∀ v ∈ rest, Says ofAClassStatement false P w n s v) _ ?_ ?_ _ _ ⟨rfl, rfl, all⟩
        · rintro v rest r s1 ⟨hr, rfl, h⟩
          refine wpAny_bind (h v List.mem_cons_self _ _ _ ?_)
          rw [if_neg Bool.false_ne_true]
          exact wpAny_pure ⟨rfl, rfl, fun u hu => h u (List.mem_cons_of_mem _ hu)⟩
        · rintro ⟨r1, r2⟩ s1 ⟨hr, rfl, _⟩
          simp only at hr
          subst hr
          exact wpAny_pure q
theorem ofA_keys : ∀ (ks : List NestedKey) (vs : List Value) (n : Nat) (s : Shared), NestedAll s.heap ks vs → NestedKey.depthAll ks ≤ n → ∀ v ∈ vs, Says ofAClassStatement false P w n s v
  | [], _, n, s, x, _, v, hv => by cases x; cases hv
  | k :: ks, _, n, s, x, hn, v, hv => by
    cases x with
    | cons x1 x2 =>
      simp only [NestedKey.depthAll] at hn
      rcases List.mem_cons.mp hv with e | hv
      · rw [e]; exact ofA_key k _ n s x1 (by omega)
      · exact ofA_keys ks _ n s x2 (by omega) v hv
end
mutual
theorem hbv_key : ∀ (k : NestedKey) (v : Value) (n : Nat) (s : Shared), NestedIs s.heap k v → k.depth ≤ n → noText k = true → Says hashByValue true P w n s v
  | .none, _, n, s, x, _, _ => by cases x; exact .pure (by cases n <;> rfl)
  | .num i, _, n, s, x, _, _ => by cases x <;> exact .pure (by cases n <;> rfl)
  | .text y, _, n, s, x, _, h => by cases h
  | .tup ks, _, n, s, x, hn, ht => by
    cases x with
    | tup hg hc hd hk =>
      simp only [NestedKey.depth] at hn
      cases n with
      | zero => omega
      | succ n =>
        have all := hbv_keys ks _ n s hk (by omega) ht
        intro A E Q q
        have ty : s.TypeIs (.ref _) "tuple" := ⟨_, hg, hc⟩
        unfold hashByValue
        refine wpAny_bind (wpAny_specialOf ty F.slot_tuple_hash.lookup ?_)
        change wpAny _ _ (seqItems? (.ref _) >>= _) _ _ s
        refine wpAny_bind (wpAny_seqItems hg hd ?_)
        refine wpAny_bind ?_
        change wpAny _ _ (forIn _ _ _) _ _ s
        rw [← Array.forIn_toList]
        refine wpAny_forIn_list _ (fun rest r s1 => r.1 = none ∧ s1 = s ∧ ∀ v ∈ rest, Says hashByValue true P w n s v) _ ?_ ?_ _ _ ⟨rfl, rfl, all⟩
        · rintro v rest r s1 ⟨hr, rfl, h⟩
          refine wpAny_bind (h v List.mem_cons_self _ _ _ ?_)
          rw [if_neg (by decide)]
          exact wpAny_pure ⟨rfl, rfl, fun u hu => h u (List.mem_cons_of_mem _ hu)⟩
        · rintro ⟨r1, r2⟩ s1 ⟨hr, rfl, _⟩
          simp only at hr
          subst hr
          exact wpAny_pure q
theorem hbv_keys : ∀ (ks : List NestedKey) (vs : List Value) (n : Nat) (s : Shared), NestedAll s.heap ks vs → NestedKey.depthAll ks ≤ n → noTexts ks = true → ∀ v ∈ vs, Says hashByValue true P w n s v
  | [], _, n, s, x, _, _, v, hv => by cases x; cases hv
  | k :: ks, _, n, s, x, hn, ht, v, hv => by
    cases x with
    | cons x1 x2 =>
      simp only [NestedKey.depthAll] at hn
      simp only [noTexts, Bool.and_eq_true] at ht
      rcases List.mem_cons.mp hv with e | hv
      · rw [e]; exact hbv_key k _ n s x1 (by omega) ht.1
      · exact hbv_keys ks _ n s x2 (by omega) ht.2 v hv
end
/-- the tuple at a is the key k, and shows nothing -/
abbrev NK (P : Program) (w : World) (h : Heap) (k : NestedKey) (a : Addr) : Prop := (nestedKind P w).is h k a
variable {A : Around} {E : Value → Shared → Prop} {s : Shared}
theorem NK.ty {k : NestedKey} {a : Addr} (h : NK P w s.heap k a) : s.TypeIs (.ref a) "tuple" := by
  obtain ⟨h, _⟩ := h
  cases h with
  | tup h1 h2 _ _ => exact ⟨_, h1, h2⟩
theorem seen_no {k : NestedKey} {b : Addr} {Q : Bool → Shared → Prop} (hk : NK P w s.heap k b) {ys : List Value} (hy : ∀ y ∈ ys, ∃ k' c, y = Value.ref c ∧ NK P w s.heap k' c) (h : Q false s) :
    wpAny (model P w) A (searchCouldBeSeen (.ref b) ys) Q E s := by
  unfold searchCouldBeSeen
  refine wpAny_bind ?_
  refine wpAny_forIn_list _ (fun rest r s1 => r.1 = none ∧ s1 = s ∧ ∀ y ∈ rest, ∃ k' c, y = Value.ref c ∧ NK P w s.heap k' c) _ ?_ ?_ _ _ ⟨rfl, rfl, hy⟩
  · rintro v rest r s1 ⟨hr, rfl, hall⟩
    obtain ⟨k', c, rfl, hc⟩ := hall v List.mem_cons_self
    have tl : ∀ y ∈ rest, ∃ k' c, y = Value.ref c ∧ NK P w s1.heap k' c := fun u hu => hall u (List.mem_cons_of_mem _ hu)
    dsimp only
    by_cases hv : (b == c || (carriedByValue (.ref b) && carriedByValue (.ref c))) = true
    · exact wp_if_pos hv (wpAny_pure ⟨rfl, rfl, tl⟩)
    · refine wp_if_neg hv ?_
      refine wpAny_bind (quiet_key k _ 8 _ hk.1 hk.2 _ _ _ ?_)
      rw [if_neg (by decide)]
      refine wpAny_bind (quiet_key k' _ 8 _ hc.1 hc.2 _ _ _ ?_)
      rw [if_neg (by decide)]
      refine wpAny_bind (ofA_key k _ 8 _ hk.1 hk.2 _ _ _ ?_)
      rw [if_neg (by decide)]
      refine wpAny_bind (ofA_key k' _ 8 _ hc.1 hc.2 _ _ _ ?_)
      rw [if_neg (by decide)]
      exact wpAny_pure ⟨rfl, rfl, tl⟩
  · rintro ⟨r1, r2⟩ s1 ⟨hr, rfl, _⟩
    simp only at hr
    subst hr
    exact wpAny_pure h
end
end CF

set_option Elab.async false
set_option linter.all false
set_option maxRecDepth 100000
namespace CF
open PySem PySem.Spec PyProof.Rows L2

/-! ### the set's table -/
def rowN (w : World) (L : List (Addr × NestedKey)) : List (Int × Value) := L.map fun p => (p.2.hash w, Value.ref p.1)
structure NSet (P : Program) (w : World) (h : Heap) (a : Addr) (L : List (Addr × NestedKey)) (es : Array (Int × Value)) (ep : Nat) (t : SetTable) : Prop where
  ob : ∃ o, h.get? a = some o ∧ o.ExactSet ∧ o.data = .set es ep t
  rows : es.toList = rowN w L
  tab : TabOk t (L.map fun p => p.2.hash w)
  nd : (L.map (·.2)).Nodup
  is : ∀ p ∈ L, NK P w h p.2 p.1
  nt : ∀ p ∈ L, noText p.2 = true
  pl : t.plain = true
  led : w.params.followText "set-order" = true ∨ t.led = true
  room : L.length * 5 < t.mask * 3
  few : L.length < 64
section
variable {P : Program} {w : World} {A : Around} {E : Value → Shared → Prop} {s : Shared} {a : Addr} {L : List (Addr × NestedKey)} {es : Array (Int × Value)} {ep : Nat} {t : SetTable}
theorem rowN_len (e : es.toList = rowN w L) : es.size = L.length := by
  have h := congrArg List.length e
  unfold rowN at h
  rw [Array.length_toList, List.length_map] at h
  exact h
theorem rowN_at (e : es.toList = rowN w L) {i : Nat} {p : Addr × NestedKey} (h : L[i]? = some p) : es[i]? = some (p.2.hash w, Value.ref p.1) := by
  rw [← Array.getElem?_toList, e]
  unfold rowN
  rw [List.getElem?_map, h]
  rfl
theorem NSet.size (R : NSet P w s.heap a L es ep t) : es.size = L.length := rowN_len R.rows
theorem NSet.fits (R : NSet P w s.heap a L es ep t) : t.fits es.size = true := by
  have c1 := R.tab.sz
  rw [List.length_map] at c1
  have c2 := R.size
  have c3 := R.room
  unfold SetTable.fits SetTable.fill
  rw [R.tab.dm, Bool.and_eq_true, beq_iff_eq, decide_eq_true_eq]
  change t.place.size = es.size ∧ t.place.size + 0 ≤ t.mask
  omega
theorem NSet.sound (R : NSet P w s.heap a L es ep t) : ¬ t.gaveWay = true := by
  unfold SetTable.gaveWay
  rw [mask_odd R.tab.mok]
  decide
/-- the probe at the c-th step for a hash -/
abbrev prb (m : Nat) (hk : Int) (c : Nat) : SetTable.Probe := nth m (runAt m (SetTable.bits hk % (m + 1)) (SetTable.bits hk)) c
theorem prb_clean (m : Nat) (hk : Int) (c : Nat) : (prb m hk c).dummy = none := by
  have key : ∀ (n : Nat) (p : SetTable.Probe), p.dummy = none → (nth m p n).dummy = none := by
    intro n
    induction n with
    | zero => exact fun p h => h
    | succ n ih =>
      intro p h
      refine ih (adv m p) ?_
      unfold adv
      split <;> exact h
  exact key c _ rfl
theorem prb_on (m : Nat) (hk : Int) (c q : Nat) : nth m (prb m hk c) q = prb m hk (c + q) := (nth_add m c _ q).symm
/-- where the key's way ends -/
structure Gap (t : SetTable) (hk : Int) (K : Nat) : Prop where
  lt : K < 10 * SetTable.turns t.mask
  out : way t.mask hk K ∉ t.place.toList
  on : ∀ c, c < K → way t.mask hk c ∈ t.place.toList
theorem srch (R : NSet P w s.heap a L es ep t) {x : Addr} {k : NestedKey} (hx : NK P w s.heap k x) (hu : A.units + 8 < cLine) {K : Nat} (gp : Gap t (k.hash w) K) {Q : SetFound → Shared → Prop}
    (yes : k ∈ L.map (·.2) → Q (.there none) s) (no : k ∉ L.map (·.2) → Q (.free (way t.mask (k.hash w) K) false) s) :
    ∀ (f c : Nat) (st : Option SetTable.Probe), st.getD (t.probeStart (k.hash w)) = prb t.mask (k.hash w) c → c ≤ K → K - c < f →
      (∀ (i : Nat) p, L[i]? = some p → p.2 = k → ∃ c', c ≤ c' ∧ c' < K ∧ t.place.toList[i]? = some (way t.mask (k.hash w) c')) →
      wpAny (model P w) A (setSearchFrom a (.ref x) (k.hash w) true f st) Q E s
  | 0, _, _, _, _, hf, _ => absurd hf (Nat.not_lt_zero _)
  | f + 1, c, st, hst, hc, hf, ahead => by
    obtain ⟨o, ho, hex, hd⟩ := R.ob
    rw [setSearchFrom_succ]
    refine wpAny_bind (wpAny_setState_of ho hd R.fits ?_)
    dsimp only
    refine wp_if_neg R.sound ?_
    try refine wpAny_bind (wpAny_pure ?_)
    have wj : ∀ q, (nth t.mask (prb t.mask (k.hash w) c) q).j = way t.mask (k.hash w) (c + q) := fun q => congrArg SetTable.Probe.j (prb_on _ _ c q)
    have hash : ∀ (i : Nat) p, L[i]? = some p → (fun i => (es[i]?.map (·.1)).getD 0) i = p.2.hash w := fun i p hp => by
      change (es[i]?.map (·.1)).getD 0 = _
      rw [rowN_at R.rows hp]
      rfl
    rcases go_spec t R.tab.ris R.tab.dm (fun i => (es[i]?.map (·.1)).getD 0) (k.hash w) (10 * SetTable.turns t.mask) (K - c) _ (prb_clean t.mask (k.hash w) c) (by have := gp.lt; omega)
      (fun q hq => by rw [wj]; exact gp.on (c + q) (by omega)) (by rw [wj, show c + (K - c) = K by omega]; exact gp.out) with ⟨q, i, hq, hi, hh, hno, hpr⟩ | ⟨hno, hpr⟩
    · have met : t.probe (fun i => (es[i]?.map (·.1)).getD 0) (k.hash w) (st.getD (t.probeStart (k.hash w))) = some (.candidate (way t.mask (k.hash w) (c + q)) i (prb t.mask (k.hash w) (c + (q + 1)))) := by
        rw [hst, ← wj, ← prb_on]
        exact hpr
      rw [met]
      dsimp only
      rw [wj] at hi
      have il : i < L.length := by
        have n1 : i < t.place.toList.length := (List.getElem?_eq_some_iff.mp hi).1
        have n2 := R.tab.sz
        rw [List.length_map] at n2
        rw [Array.length_toList] at n1
        omega
      have hp : L[i]? = some L[i] := List.getElem?_eq_getElem il
      generalize L[i] = p at hp
      have mem : p ∈ L := List.mem_of_getElem? hp
      have rest : wpAny (model P w) A (searchRest a (.ref x) (k.hash w) true f es t (way t.mask (k.hash w) (c + q)) i (prb t.mask (k.hash w) (c + (q + 1)))) Q E s := by
        unfold searchRest
        rw [rowN_at R.rows hp]
        dsimp only
        refine wpAny_bind (wpAny_holding ((nestedKind P w).eqBool (x := p.2) (y := k) (show A.units + 8 < cLine from hu) (R.is p mem) hx ?_))
        refine wpAny_bind (wpAny_setState_of ho hd R.fits ?_)
        dsimp only
        by_cases hkk : p.2 = k
        · exact wp_if_pos (by simp [hkk]) (wpAny_pure (yes (List.mem_map.mpr ⟨p, mem, hkk⟩)))
        · refine wp_if_neg (by simp [hkk]) ?_
          try refine wpAny_bind (wpAny_pure ?_)
          rw [sameMem]
          dsimp only
          have live : t.slot (way t.mask (k.hash w) (c + q)) = .live i := slot_live R.tab.ris hi
          simp only [if_true, live, rowN_at R.rows hp]
          refine wpAny_bind (wpAny_isSame_ref_self (wpAny_bind (wpAny_pure ?_)))
          simp only [if_true]
          refine wp_if_neg (by simp [hkk]) ?_
          refine srch R hx hu gp yes no f (c + (q + 1)) _ rfl (by omega) (by omega) fun i0 p0 h0 k0 => ?_
          obtain ⟨c', n1, n2, n3⟩ := ahead i0 p0 h0 k0
          refine ⟨c', ?_, n2, n3⟩
          rcases Nat.lt_trichotomy c' (c + q) with z | z | z
          · refine absurd ((hash i0 p0 h0).trans (congrArg (NestedKey.hash w) k0)) (hno (c' - c) i0 (by omega) ?_)
            rw [wj, show c + (c' - c) = c' by omega]
            exact n3
          · rw [z] at n3
            have l0 := slot_live R.tab.ris n3
            rw [live] at l0
            injection l0 with l0
            rw [← l0, hp] at h0
            cases h0
            exact absurd k0 hkk
          · omega
      by_cases hl : t.led = true
      · refine wp_if_neg (by simp [hl]) ?_
        try refine wpAny_bind (wpAny_pure ?_)
        exact rest
      · refine wp_if_pos (by simp [hl]) ?_
        refine wpAny_bind (seen_no hx (fun y hy => ?_) ?_)
        · obtain ⟨e, he, ee⟩ := List.mem_map.mp hy
          have he1 : e ∈ es ∧ e.1 = k.hash w := by simpa using he
          have he2 : e ∈ es.toList := by simpa using he1.1
          rw [R.rows] at he2
          obtain ⟨p2, hp2, e2⟩ := List.mem_map.mp he2
          exact ⟨p2.2, p2.1, by rw [← ee, ← e2], R.is p2 hp2⟩
        · refine wp_if_neg (by decide) ?_
          try refine wpAny_bind (wpAny_pure ?_)
          exact rest
    · have met : t.probe (fun i => (es[i]?.map (·.1)).getD 0) (k.hash w) (st.getD (t.probeStart (k.hash w))) = some (.empty (way t.mask (k.hash w) K) none) := by
        have e2 : way t.mask (k.hash w) K = (nth t.mask (prb t.mask (k.hash w) c) (K - c)).j := by rw [wj, show c + (K - c) = K by omega]
        rw [hst, e2]
        exact hpr
      rw [met]
      dsimp only
      refine wpAny_pure (no fun hm => ?_)
      obtain ⟨p0, h0, k0⟩ := List.mem_map.mp hm
      obtain ⟨i0, hi0, e0⟩ := List.getElem_of_mem h0
      have h00 : L[i0]? = some p0 := by rw [List.getElem?_eq_getElem hi0, e0]
      obtain ⟨c', n1, n2, n3⟩ := ahead i0 p0 h00 k0
      refine hno (c' - c) i0 (by omega) ?_ ((hash i0 p0 h00).trans (congrArg (NestedKey.hash w) k0))
      rw [wj, show c + (c' - c) = c' by omega]
      exact n3
theorem srch_add (R : NSet P w s.heap a L es ep t) {x : Addr} {k : NestedKey} (hx : NK P w s.heap k x) (hu : A.units + 8 < cLine) {Q : SetFound → Shared → Prop}
    (yes : k ∈ L.map (·.2) → Q (.there none) s) (no : ∀ K, k ∉ L.map (·.2) → way t.mask (k.hash w) K ∉ t.place.toList → (∀ c, c < K → way t.mask (k.hash w) c ∈ t.place.toList) → Q (.free (way t.mask (k.hash w) K) false) s) :
    wpAny (model P w) A (setSearch a (.ref x) (k.hash w) true) Q E s := by
  have hroom := R.room
  obtain ⟨K, g1, g2, g3⟩ := R.tab.first (by rw [List.length_map]; omega) (k.hash w)
  have big : K < 100000 := by
    have : 10 * SetTable.turns t.mask ≤ 1420 := by
      unfold SetTable.turns
      rcases R.tab.mok with e | e | e <;> omega
    omega
  unfold setSearch
  refine srch R hx hu ⟨g1, g2, g3⟩ yes (fun n => no K n g2 g3) 100000 0 none rfl (Nat.zero_le _) (by omega) fun i p hp hk => ?_
  have hi : (L.map fun p => p.2.hash w)[i]? = some (k.hash w) := by
    rw [List.getElem?_map, hp, ← hk]
    rfl
  have il : i < t.place.toList.length := by
    have n1 : i < L.length := (List.getElem?_eq_some_iff.mp hp).1
    have n2 := R.tab.sz
    rw [List.length_map] at n2
    rw [Array.length_toList]
    omega
  have hj := List.getElem?_eq_getElem il
  obtain ⟨c, hc, e⟩ := R.tab.before g2 hi hj
  exact ⟨c, Nat.zero_le _, hc, by rw [hj, e]⟩
end
end CF

set_option Elab.async false
set_option linter.all false
set_option maxRecDepth 100000
namespace CF
open PySem PySem.Spec PyProof.Rows L2

/-! ### one put in; the table laid anew -/
section
variable {P : Program} {w : World} {A : Around} {E : Value → Shared → Prop} {s : Shared}
theorem NK.but {h h1 : Heap} {k : NestedKey} {a b : Addr} {o : Obj} {es : Array (Int × Value)} {ep : Nat} {t : SetTable} (hb : NK P w h k b) (ho : h.get? a = some o) (hd : o.data = .set es ep t) (hs : Heap.SameBut a h h1) : NK P w h1 k b :=
  ⟨NestedIs.at (fun c ob vs n hc hdc => (hs.2 c fun e => by
    rw [e, ho] at hc
    cases hc
    rw [hd] at hdc
    cases hdc).trans hc) k _ hb.1, hb.2⟩
theorem NK.keep {h h1 : Heap} {k : NestedKey} {b : Addr} (hb : NK P w h k b) (g : ∀ c o, h.get? c = some o → h1.get? c = some o) : NK P w h1 k b := ⟨NestedIs.at (fun c ob _ _ hc _ => g c ob hc) k _ hb.1, hb.2⟩
theorem rowN_ins (L : List (Addr × NestedKey)) (p : Nat) (x : Addr) (k : NestedKey) : rowN w (L.take p ++ (x, k) :: L.drop p) = (rowN w L).take p ++ (k.hash w, Value.ref x) :: (rowN w L).drop p := by
  unfold rowN
  rw [List.map_append, List.map_cons, List.map_take, List.map_drop]
theorem range_get {α : Type} (L : List α) : (List.range L.length).filterMap (fun i => L[i]?) = L := by
  have key : ∀ n, n ≤ L.length → (List.range n).filterMap (fun i => L[i]?) = L.take n := by
    intro n
    induction n with
    | zero => intro _; rfl
    | succ n ih =>
      intro hn
      rw [List.range_succ, List.filterMap_append, ih (Nat.le_of_lt hn), List.take_succ, List.getElem?_eq_getElem hn]
      rw [List.filterMap_cons_some (List.getElem?_eq_getElem hn)]
      rfl
  rw [key L.length (Nat.le_refl _), List.take_length]
theorem rowN_perm (L : List (Addr × NestedKey)) (es : Array (Int × Value)) (order : Array Nat) (hr : es.toList = rowN w L) (hp : order.toList.Perm (List.range L.length)) :
    ∃ L2, (order.filterMap (es[·]?)).toList = rowN w L2 ∧ L2.Perm L ∧ (L2.map fun p => p.2.hash w) = order.toList.map fun i => (es.map (·.1)).getD i 0 := by
  have key : ∀ l : List Nat, (∀ i ∈ l, i < L.length) → l.filterMap (fun i => es[i]?) = rowN w (l.filterMap fun i => L[i]?) ∧ ((l.filterMap fun i => L[i]?).map fun p => p.2.hash w) = l.map fun i => (es.map (·.1)).getD i 0 := by
    intro l
    induction l with
    | nil => exact fun _ => ⟨rfl, rfl⟩
    | cons i l ih =>
      intro hl
      have hi := hl i List.mem_cons_self
      obtain ⟨e1, e2⟩ := ih fun j hj => hl j (List.mem_cons_of_mem _ hj)
      have gi : L[i]? = some L[i] := List.getElem?_eq_getElem hi
      have ent := rowN_at hr gi
      refine ⟨?_, ?_⟩
      · rw [List.filterMap_cons_some ent, List.filterMap_cons_some gi, e1]
        rfl
      · rw [List.filterMap_cons_some gi, List.map_cons, List.map_cons, e2]
        have e3 : (es.map (·.1))[i]? = some ((L[i]).2.hash w) := by
          rw [Array.getElem?_map, ent]
          rfl
        have e4 : (es.map (·.1)).getD i 0 = (L[i]).2.hash w := by simp [Array.getD_eq_getD_getElem?, e3]
        rw [e4]
  obtain ⟨e1, e2⟩ := key order.toList fun i hi => List.mem_range.mp (hp.mem_iff.mp hi)
  refine ⟨_, by first | (rw [Array.toList_filterMap]; exact e1) | simpa using e1, ?_, e2⟩
  have z := hp.filterMap (fun i => L[i]?)
  rw [range_get] at z
  exact z
variable {a : Addr} {L : List (Addr × NestedKey)} {es : Array (Int × Value)} {ep : Nat} {t : SetTable}
theorem anew {o : Obj} (ho : s.heap.get? a = some o) (hex : o.ExactSet) (hd : o.data = .set es ep t) (hrows : es.toList = rowN w L) (hsz : t.place.size = es.size) (hdm : t.dummies = #[]) (hfl : es.size ≤ t.mask)
    (nd : (L.map (·.2)).Nodup) (is : ∀ p ∈ L, NK P w s.heap p.2 p.1) (nt : ∀ p ∈ L, noText p.2 = true) (pl : t.plain = true) (ld : w.params.followText "set-order" = true ∨ t.led = true) (few : L.length < 64) {wanted M : Nat}
    (hw : SetTable.sizeAbove wanted - 1 = M) (hM : MaskOk M) (hw2 : SetTable.sizeAbove wanted ≤ 128) (hn : L.length * 5 < M * 3) {Q : Unit → Shared → Prop}
    (fin : ∀ h1 L1 es1 ep1 t1, Heap.SameBut a s.heap h1 → NSet P w h1 a L1 es1 ep1 t1 → L1.Perm L → Q () { s with heap := h1 }) : wpAny (model P w) A (setRelay a wanted) Q E s := by
  have sl : es.size = L.length := rowN_len hrows
  have fits : t.fits es.size = true := by
    unfold SetTable.fits SetTable.fill
    rw [hdm, Bool.and_eq_true, beq_iff_eq, decide_eq_true_eq]
    change t.place.size = es.size ∧ t.place.size + 0 ≤ t.mask
    omega
  obtain ⟨t1, order, e, hp, T, em, el, epl, ed⟩ := relaid_ok t (hs := es.map (·.1)) (wanted := wanted) hw hM (by rw [Array.size_map, sl]; omega)
  rw [Array.size_map, sl] at hp
  obtain ⟨L2, r1, r2, r3⟩ := rowN_perm L es order hrows hp
  rw [← r3] at T
  have s2 : (order.filterMap (es[·]?)).size = es.size := by rw [rowN_len r1, r2.length_eq, sl]
  rw [setRelay_eq]
  refine wpAny_bind (wpAny_setState_of ho hd fits ?_)
  dsimp only
  refine wp_if_neg (by rw [sizeLine_eq]; omega) ?_
  try refine wpAny_bind (wpAny_pure ?_)
  rw [e]
  dsimp only
  refine wpAny_bind ?_
  refine wp_if_neg (by rw [s2]; simp) ?_
  try refine wpAny_bind (wpAny_pure ?_)
  refine wpAny_pure ?_
  dsimp only
  refine wpAny_storeSet_of ho hd ?_ (by rw [s2, sl, sizeLine_eq]; omega)
  have sb : Heap.SameBut a s.heap (s.heap.update a (Obj.putSet (order.filterMap (es[·]?)) t1)) := Heap.SameBut.update ..
  refine fin _ L2 (order.filterMap (es[·]?)) (ep + 1) t1 sb ⟨⟨_, store_at ho hd, ⟨hex.1, hex.2.1, hex.2.2⟩, rfl⟩, r1, T, (r2.map (·.2)).nodup_iff.mpr nd, fun p hpm => (is p (r2.mem_iff.mp hpm)).but ho hd sb, fun p hpm => nt p (r2.mem_iff.mp hpm), by rw [epl]; exact pl, by rw [el]; exact ld, ?_, by rw [r2.length_eq]; exact few⟩ r2
  rw [r2.length_eq, em]
  exact hn
theorem put_in (R : NSet P w s.heap a L es ep t) {x : Addr} {k : NestedKey} (hx : NK P w s.heap k x) (ht : noText k = true) (hu : A.units + 8 < cLine) (hfew : L.length + 1 < 64) {Q : Bool → Shared → Prop}
    (fin : ∀ b h1 L1 es1 ep1 t1, Heap.SameBut a s.heap h1 → NSet P w h1 a L1 es1 ep1 t1 → (k ∈ L.map (·.2) → L1 = L) → (k ∉ L.map (·.2) → L1.Perm ((x, k) :: L)) → Q b { s with heap := h1 }) :
    wpAny (model P w) A (setAddHashed a (.ref x) (k.hash w)) Q E s := by
  obtain ⟨o, ho, hex, hd⟩ := R.ob
  have sl := R.size
  have hroom := R.room
  unfold setAddHashed
  refine wpAny_holding ?_
  rw [show (100000 : Nat) = 99999 + 1 from rfl, setAddHashedIn_succ]
  refine wpAny_bind (wpAny_setState_of ho hd R.fits ?_)
  dsimp only
  refine wp_if_neg (by simp [byScan, Value.scannable]) ?_
  try refine wpAny_bind (wpAny_pure ?_)
  refine wpAny_bind (srch_add R hx hu (fun hm => ?_) fun K hm hK hb => ?_)
  · dsimp only
    exact wpAny_pure (fin false s.heap L es ep t (Heap.SameBut.refl a s.heap) R (fun _ => rfl) fun z => absurd hm z)
  · dsimp only
    refine wpAny_bind (wpAny_setState_of ho hd R.fits ?_)
    dsimp only
    obtain ⟨q1, q2, q3, q4, q5, q6, q7, q8, q9⟩ := R.tab.put hK hb
    have p1 : (t.put (way t.mask (k.hash w) K)).1.plain = true := by rw [q6]; exact R.pl
    generalize t.put (way t.mask (k.hash w) K) = pt at q1 q3 q4 q5 q6 q7 q8 q9 p1 ⊢
    obtain ⟨t1, p⟩ := pt
    dsimp only at q1 q3 q4 q5 q6 q7 q8 q9 p1 ⊢
    subst q1
    first
      | (refine wpAny_bind ?_; refine wp_if_pos p1 ?_; refine hbv_key k _ 8 _ hx.1 hx.2 ht _ _ _ ?_)
      | refine wp_if_pos p1 (wpAny_bind (hbv_key k _ 8 _ hx.1 hx.2 ht _ _ _ ?_))
    simp only [if_true]
    have rin : (SetTable.insertAt es (SetTable.below t.place (way t.mask (k.hash w) K)) (k.hash w, Value.ref x)).toList = rowN w (L.take (SetTable.below t.place (way t.mask (k.hash w) K)) ++ (x, k) :: L.drop (SetTable.below t.place (way t.mask (k.hash w) K))) := by
      rw [SetTable.toList_insertAt, rowN_ins, R.rows]
    generalize SetTable.below t.place (way t.mask (k.hash w) K) = p at q2 q3 rin ⊢
    have pm := put_perm L p (x, k)
    have ln : (L.take p ++ (x, k) :: L.drop p).length = L.length + 1 := pm.length_eq
    have hh : (L.take p ++ (x, k) :: L.drop p).map (fun p => p.2.hash w) = (L.map fun p => p.2.hash w).take p ++ k.hash w :: (L.map fun p => p.2.hash w).drop p := by
      rw [List.map_append, List.map_cons, List.map_take, List.map_drop]
    rw [← hh] at q3
    have nd1 : ((L.take p ++ (x, k) :: L.drop p).map (·.2)).Nodup := by
      refine (pm.map (·.2)).nodup_iff.mpr ?_
      rw [List.map_cons]
      exact List.nodup_cons.mpr ⟨hm, R.nd⟩
    have se : (SetTable.insertAt es p (k.hash w, Value.ref x)).size = L.length + 1 := by rw [rowN_len rin, ln]
    generalize SetTable.insertAt es p (k.hash w, Value.ref x) = es1 at rin se ⊢
    generalize L.take p ++ (x, k) :: L.drop p = L1 at pm ln q3 nd1 rin
    refine wpAny_bind (wpAny_storeSet_of ho hd ?_ (by rw [se, sizeLine_eq]; omega))
    have sb : Heap.SameBut a s.heap (s.heap.update a (Obj.putSet es1 t1)) := Heap.SameBut.update ..
    have ho1 := store_at (es' := es1) (t' := t1) ho hd
    generalize s.heap.update a (Obj.putSet es1 t1) = h1 at sb ho1 ⊢
    have is1 : ∀ p ∈ L1, NK P w h1 p.2 p.1 ∧ noText p.2 = true := fun p hp => by
      rcases List.mem_cons.mp (pm.mem_iff.mp hp) with e | hp
      · rw [e]; exact ⟨hx.but ho hd sb, ht⟩
      · exact ⟨(R.is p hp).but ho hd sb, R.nt p hp⟩
    have ld1 : w.params.followText "set-order" = true ∨ t1.led = true := by rw [q5]; exact R.led
    by_cases hf : t1.tooFull = true
    · first
        | (refine wpAny_bind ?_; refine wp_if_pos (by simp [hf]) ?_)
        | (refine wp_if_pos (by simp [hf]) ?_; refine wpAny_bind ?_)
      have full : (L.length + 1) * 5 ≥ t1.mask * 3 := by
        have h := hf
        unfold SetTable.tooFull at h
        rw [decide_eq_true_eq, q9, List.length_map] at h
        exact h
      rw [sl]
      have sz1 : t1.place.size = es1.size := by
        have h := q3.sz
        rw [List.length_map, ln] at h
        rw [h, se]
      have which : (t.mask = 7 ∧ L.length = 4) ∨ (t.mask = 31 ∧ L.length = 18) := by
        rcases R.tab.mok with e | e | e
        · left; rw [q4, e] at full; rw [e] at hroom; exact ⟨e, by omega⟩
        · right; rw [q4, e] at full; rw [e] at hroom; exact ⟨e, by omega⟩
        · exfalso; rw [q4, e] at full; omega
      have go : ∀ M, SetTable.sizeAbove (SetTable.grown (L.length + 1)) - 1 = M → MaskOk M → SetTable.sizeAbove (SetTable.grown (L.length + 1)) ≤ 128 → (L.length + 1) * 5 < M * 3 →
          wpAny (model P w) A (setRelay a (SetTable.grown (L.length + 1))) (fun _ s1 => wpAny (model P w) A (pure true) Q E s1) E { s with heap := h1 } := fun M m1 m2 m3 m4 => by
        refine anew (s := { s with heap := h1 }) ho1 ⟨hex.1, hex.2.1, hex.2.2⟩ rfl rin sz1 q3.dm (by rw [se, q4]; rcases which with ⟨e, e2⟩ | ⟨e, e2⟩ <;> omega) nd1 (fun p hp => (is1 p hp).1) (fun p hp => (is1 p hp).2) p1 ld1 (by rw [ln]; exact hfew) m1 m2 m3 (by rw [ln]; exact m4) ?_
        intro h2 L2 es2 ep2 t2 sb2 R2 pm2
        exact wpAny_pure (fin true h2 L2 es2 ep2 t2 (sb.trans sb2) R2 (fun z => absurd z hm) fun _ => pm2.trans pm)
      rcases which with ⟨_, e2⟩ | ⟨_, e2⟩
      · refine go 31 (by rw [e2, size_20]) (.inr (.inl rfl)) (by rw [e2, size_20]; decide) (by omega)
      · refine go 127 (by rw [e2, size_76]) (.inr (.inr rfl)) (by rw [e2, size_76]; decide) (by omega)
    · first
        | refine wp_if_neg (by simp [hf]) ?_
        | (refine wpAny_bind ?_; refine wp_if_neg (by simp [hf]) ?_; refine wpAny_pure ?_)
      refine wpAny_pure (fin true h1 L1 es1 (ep + 1) t1 sb ⟨⟨_, ho1, ⟨hex.1, hex.2.1, hex.2.2⟩, rfl⟩, rin, q3, nd1, fun p hp => (is1 p hp).1, fun p hp => (is1 p hp).2, p1, ld1, ?_, by rw [ln]; exact hfew⟩ (fun z => absurd z hm) fun _ => pm)
      have h := hf
      unfold SetTable.tooFull at h
      rw [decide_eq_true_eq, q9, List.length_map] at h
      rw [ln]
      omega
end
end CF

set_option Elab.async false
set_option linter.all false
set_option maxRecDepth 100000
namespace CF
open PySem PySem.Spec PyProof.Rows L2

/-! ### set(xs) -/
/-- what the set has from the first i items -/
structure Had (ks : List (Addr × NestedKey)) (i : Nat) (L : List (Addr × NestedKey)) : Prop where
  sub : ∀ p ∈ L, p ∈ ks.take i
  all : ∀ p ∈ ks.take i, p.2 ∈ L.map (·.2)
  len : L.length ≤ i
theorem Had.zero (ks : List (Addr × NestedKey)) : Had ks 0 [] := ⟨fun p h => (by cases h), fun p h => (by simp at h), Nat.le_refl _⟩
theorem Had.same {ks L : List (Addr × NestedKey)} {i : Nat} {x : Addr × NestedKey} (g : Had ks i L) (h : ks[i]? = some x) (hm : x.2 ∈ L.map (·.2)) : Had ks (i + 1) L := by
  refine ⟨fun p hp => ?_, fun p hp => ?_, Nat.le_succ_of_le g.len⟩
  · rw [take_next h]
    exact List.mem_append_left _ (g.sub p hp)
  · rw [take_next h, List.mem_append, List.mem_singleton] at hp
    rcases hp with z | rfl
    · exact g.all p z
    · exact hm
theorem Had.more {ks L L1 : List (Addr × NestedKey)} {i : Nat} {x : Addr × NestedKey} (g : Had ks i L) (h : ks[i]? = some x) (pm : L1.Perm (x :: L)) : Had ks (i + 1) L1 := by
  refine ⟨fun p hp => ?_, fun p hp => ?_, ?_⟩
  · rw [take_next h]
    rcases List.mem_cons.mp (pm.mem_iff.mp hp) with rfl | z
    · exact List.mem_append_right _ (List.mem_singleton.mpr rfl)
    · exact List.mem_append_left _ (g.sub p z)
  · rw [(pm.map (·.2)).mem_iff, List.map_cons]
    rw [take_next h, List.mem_append, List.mem_singleton] at hp
    rcases hp with z | rfl
    · exact List.mem_cons_of_mem _ (g.all p z)
    · exact List.mem_cons_self
  · rw [pm.length_eq, List.length_cons]
    exact Nat.succ_le_succ g.len
theorem nodup_le {α : Type} [DecidableEq α] : ∀ {l m : List α}, l.Nodup → (∀ x ∈ l, x ∈ m) → l.length ≤ m.length
  | [], _, _, _ => Nat.zero_le _
  | x :: l, m, n, h => by
    obtain ⟨n1, n2⟩ := List.nodup_cons.mp n
    have hm := h x List.mem_cons_self
    have z := nodup_le (l := l) (m := m.erase x) n2 fun y hy => (List.mem_erase_of_ne fun e => n1 (by rw [← e]; exact hy)).mpr (h y (List.mem_cons_of_mem _ hy))
    rw [List.length_erase_of_mem hm] at z
    have p : 0 < m.length := List.length_pos_of_mem hm
    rw [List.length_cons]
    omega
theorem uniq_mem : ∀ {ks : List NestedKey} {x : NestedKey}, x ∈ uniq ks ↔ x ∈ ks
  | [], x => Iff.rfl
  | k :: ks, x => by
    unfold uniq
    by_cases c : k ∈ ks
    · rw [if_pos c, uniq_mem (ks := ks), List.mem_cons]
      exact ⟨.inr, fun h => h.elim (fun e => e ▸ c) fun h => h⟩
    · rw [if_neg c, List.mem_cons, List.mem_cons, uniq_mem (ks := ks)]
theorem uniq_nodup : ∀ ks : List NestedKey, (uniq ks).Nodup
  | [] => List.nodup_nil
  | k :: ks => by
    unfold uniq
    by_cases c : k ∈ ks
    · rw [if_pos c]
      exact uniq_nodup ks
    · rw [if_neg c]
      exact List.nodup_cons.mpr ⟨fun h => c (uniq_mem.mp h), uniq_nodup ks⟩
theorem Had.count {ks L : List (Addr × NestedKey)} (g : Had ks ks.length L) (nd : (L.map (·.2)).Nodup) : L.length = (uniq (ks.map (·.2))).length := by
  have e : ks.take ks.length = ks := List.take_length
  have c1 := nodup_le nd fun x hx => by
    obtain ⟨p, hp, rfl⟩ := List.mem_map.mp hx
    exact uniq_mem.mpr (List.mem_map.mpr ⟨p, e ▸ g.sub p hp, rfl⟩)
  have c2 := nodup_le (uniq_nodup (ks.map (·.2))) fun x hx => by
    obtain ⟨p, hp, rfl⟩ := List.mem_map.mp (uniq_mem.mp hx)
    exact g.all p (e.symm ▸ hp)
  rw [List.length_map] at c1 c2
  exact Nat.le_antisymm c1 c2
section
variable {P : Program} {w : World} {A : Around} {E : Value → Shared → Prop} {s : Shared}
theorem NSet.stay {h h1 : Heap} {a : Addr} {L : List (Addr × NestedKey)} {es : Array (Int × Value)} {ep : Nat} {t : SetTable} (R : NSet P w h a L es ep t) (ha : ∀ o, h.get? a = some o → h1.get? a = some o) (ht : ∀ p ∈ L, NK P w h1 p.2 p.1) : NSet P w h1 a L es ep t := by
  obtain ⟨o, ho, r⟩ := R.ob
  exact ⟨⟨o, ha o ho, r⟩, R.rows, R.tab, R.nd, ht, R.nt, R.pl, R.led, R.room, R.few⟩
theorem nset_new {h : Heap} {a : Addr} (ho : h.get? a = some { cls := .type "set", dict := none, data := .set #[] 0 (.fresh 0 0 (!w.params.followText "set-order")) }) : NSet P w h a [] #[] 0 (.fresh 0 0 (!w.params.followText "set-order")) where
  ob := ⟨_, ho, ⟨rfl, rfl, rfl⟩, rfl⟩
  rows := rfl
  tab := ⟨List.Pairwise.nil, rfl, rfl, .inl rfl, fun x hx => (by cases hx), fun i h j hi => (by simp at hi)⟩
  nd := List.nodup_nil
  is := fun p hp => (by cases hp)
  nt := fun p hp => (by cases hp)
  pl := rfl
  led := by
    cases h2 : w.params.followText "set-order"
    · exact .inr (by change (!false) = true; rfl)
    · exact .inl rfl
  room := by
    change 0 * 5 < 7 * 3
    decide
  few := by decide
theorem upd_loop {I : Addr} {fp wr : List Addr} {G : Array GenState → Array GenState → Prop} {n : Nat} {Pv : Nat → Value → Prop} {St : Nat → Shared → Prop} {R : Result → Shared → Prop}
    (W : WalksS P w A.in1 I fp wr G n Pv St) (S : Addr) (hSf : S ∉ fp) (ks : List (Addr × NestedKey)) (hn : n = ks.length) (hfew : ks.length < 64) (hval : ∀ i v, Pv i v → ∃ p, ks[i]? = some p ∧ v = .ref p.1)
    (h0 : Heap) (hk : ∀ p ∈ ks, NK P w h0 p.2 p.1 ∧ noText p.2 = true) (hS0 : h0.get? S = none) (hw0 : ∀ b ∈ wr, h0.get? b = none) (hu : A.in1.units + 8 < cLine) :
    ∀ (k i : Nat) (s : Shared), n - i = k → i ≤ n → St i s → (∀ b o, h0.get? b = some o → s.heap.get? b = some o) → (∃ L es ep t, NSet P w s.heap S L es ep t ∧ Had ks i L) →
      (∀ s1 L es ep t, Moved (S :: wr) G s s1 → NSet P w s1.heap S L es ep t → Had ks n L → (∀ b o, h0.get? b = some o → s1.heap.get? b = some o) → R (.ok (.ret .none)) s1) →
      codeAny (model P w) A (.builtin "set.update.loop" ⟨[.ref S, .ref I], []⟩) R s := by
  have hSw : S ∉ wr := fun h => hSf (W.sub _ h)
  have sub1 : ∀ b ∈ wr, b ∈ S :: wr := fun b hb => List.mem_cons_of_mem _ hb
  have kept : ∀ {s s1 : Shared}, Moved wr G s s1 → (∀ b o, h0.get? b = some o → s.heap.get? b = some o) → ∀ b o, h0.get? b = some o → s1.heap.get? b = some o := fun hm g b o e =>
    hm.heap b o (fun hb => by rw [hw0 b hb] at e; cases e) (g b o e)
  intro k
  induction k with
  | zero =>
    intro i s hki hi hst g ⟨L, es, ep, t, hS, gt⟩ hR
    have hin : i = n := by omega
    subst hin
    refine codeAny_builtin F.entry_set_update_loop ?_
    rw [Around.under_plainId F.plain_set_update_loop _]
    change wpAny _ A.in1 (pyNext (.ref I) >>= _) _ _ s
    refine wpAny_bind (W.done s _ _ hst fun s1 hm => ?_)
    change wpAny _ A.in1 (ret Value.none) _ _ s1
    have g1 := kept hm g
    exact wpAny_pure (hR s1 L es ep t (hm.mono sub1) (hS.stay (fun o e => hm.heap S o hSw e) fun p hp => (hk p (List.mem_of_mem_take (gt.sub p hp))).1.keep g1) gt g1)
  | succ k ih =>
    intro i s hki hi hst g ⟨L, es, ep, t, hS, gt⟩ hR
    have hlt : i < n := by omega
    refine codeAny_builtin F.entry_set_update_loop ?_
    rw [Around.under_plainId F.plain_set_update_loop _]
    change wpAny _ A.in1 (pyNext (.ref I) >>= _) _ _ s
    refine wpAny_bind (W.item i s _ _ hlt hst fun v s1 hP hst1 hm => ?_)
    obtain ⟨p, hp, rfl⟩ := hval i v hP
    have g1 := kept hm g
    have hS1 : NSet P w s1.heap S L es ep t := hS.stay (fun o e => hm.heap S o hSw e) fun q hq => (hk q (List.mem_of_mem_take (gt.sub q hq))).1.keep g1
    obtain ⟨kp, np⟩ := hk p (List.mem_of_getElem? hp)
    have hx : NK P w s1.heap p.2 p.1 := kp.keep g1
    change wpAny _ A.in1 (holding [Value.ref p.1] (setAdd S (.ref p.1)) >>= _) _ _ s1
    refine wpAny_bind (wpAny_holding ?_)
    unfold setAdd
    refine wpAny_holding ?_
    refine wpAny_bind ((nestedKind P w).pyHash (show A.in1.units + 8 < cLine from hu) hx ?_)
    change wpAny _ A.in1 (setAddHashed S (.ref p.1) (p.2.hash w)) _ _ { s1 with toks := s1.toks + p.2.draws }
    refine put_in (s := { s1 with toks := s1.toks + p.2.draws }) hS1 hx np hu (by have := gt.len; omega) fun b h1 L1 es1 ep1 t1 hsb hS2 c1 c2 => ?_
    have gt1 : Had ks (i + 1) L1 := by
      by_cases c : p.2 ∈ L.map (·.2)
      · rw [c1 c]; exact gt.same hp c
      · exact gt.more hp (c2 c)
    have g2 : ∀ b o, h0.get? b = some o → h1.get? b = some o := fun b o e => (hsb.2 b (fun z => by rw [z, hS0] at e; cases e)).trans (g1 b o e)
    refine wpAny_pure ⟨plainId_quiet F.plain_set_update_loop _, ih (i + 1) _ (by omega) hlt (W.frame _ s1 _ _ hst1 (Nat.le_add_right _ _) fun b hb o e => ?_) g2 ⟨L1, es1, ep1, t1, hS2, gt1⟩ fun s2 L2 es2 ep2 t2 hm2 hS3 gt2 g3 => ?_⟩
    · rw [hsb.2 b (fun h : b = S => hSf (by rw [← h]; exact hb))]; exact e
    · refine hR s2 L2 es2 ep2 t2 (Moved.trans W.gtrans ((hm.mono sub1).then_heap (Nat.le_add_right _ _) fun b o hb e => ?_) hm2) hS3 gt2 g3
      rw [hsb.2 b (fun h : b = S => hb (by rw [h]; exact List.mem_cons_self))]; exact e
set_option maxHeartbeats 3200000 in
theorem mk_set {l : Addr} {items : Array Value} (ks : List (Addr × NestedKey)) {Q : Value → Shared → Prop} (hh : A.handled = none) (hl : s.heap.IsList l items) (hit : items.toList = ks.map fun p => Value.ref p.1)
    (hk : ∀ p ∈ ks, NK P w s.heap p.2 p.1 ∧ noText p.2 = true) (hfew : ks.length < 64) (hu : A.units + 12 < cLine)
    (fin : ∀ (h1 : Heap) (tk : Nat) L es ep t, NSet P w h1 s.heap.objs.size L es ep t → Had ks ks.length L → (∀ b o, s.heap.get? b = some o → h1.get? b = some o) → Q (.ref s.heap.objs.size) { s with heap := h1, toks := tk }) :
    wpAny (model P w) A (call (.type "set") [.ref l]) Q E s := by
  have isz : items.size = ks.length := by
    have q := congrArg List.length hit
    rw [Array.length_toList, List.length_map] at q
    exact q
  obtain ⟨c, tl, hmro⟩ := F.called_set.mro
  have hmade := F.called_set.made
  have hsub := F.called_set.sub
  refine wpAny_call (codeAny_of_tree ?_)
  change wpAny _ _ (callAny (.type "set") _) _ _ _
  refine wpAny_pure ⟨Code.quiet_builtin _ (by decide +kernel), codeAny_builtin F.entry_type_call ?_⟩
  rw [Around.under_plain (weight_type_call_type "set" [.ref l] []) rfl]
  have f1 := F.called_set.notType
  have f2 := F.called_set.canCreate
  have f3 := F.typeCall_set_1 (.ref l)
  repeat any_goals first | assumption | wp_step
  refine codeAny_mono (code_set_led1 (.ref l) (E := E) (Q₁ := fun obj s1 => obj = .ref s.heap.objs.size ∧ s1 = { s with heap := s.heap.push { cls := .type "set", dict := none, data := .set #[] 0 (.fresh 0 0 (!w.params.followText "set-order")) } }) ⟨rfl, rfl⟩) fun r s1 hr => ?_
  cases r with
  | error e => exact hr
  | ok fl =>
    cases fl with
    | ret obj =>
      obtain ⟨rfl, rfl⟩ := hr
      have hS : (s.heap.push { cls := .type "set", dict := none, data := .set #[] 0 (.fresh 0 0 (!w.params.followText "set-order")) }).get? s.heap.objs.size = some { cls := .type "set", dict := none, data := .set #[] 0 (.fresh 0 0 (!w.params.followText "set-order")) } := Heap.get?_push_size _ rfl
      have hT : Shared.TypeIs { s with heap := s.heap.push { cls := .type "set", dict := none, data := .set #[] 0 (.fresh 0 0 (!w.params.followText "set-order")) } } (.ref s.heap.objs.size) "set" := ⟨_, hS, rfl⟩
      have f4 := F.called_set.init.lookup
      have f5 := F.called_set.init.bind (.ref s.heap.objs.size)
      repeat any_goals first | assumption | wp_step
      refine codeAny_mono (codeAny_call_builtin (R := wants (fun r s2 => r = .none ∧ ∃ h1 tk L es ep t, s2 = { s with heap := h1, toks := tk } ∧ NSet P w h1 s.heap.objs.size L es ep t ∧ Had ks ks.length L ∧
          (∀ b o, s.heap.get? b = some o → h1.get? b = some o)) E) F.called_set.init.plain F.entry_set_init (check_set_init_1 hT ?_)) fun r2 s2 hr2 => ?_
      · obtain ⟨ol, hol, hcl, nl, hdl⟩ := hl
        obtain ⟨ocls, odict, odata, oslots⟩ := ol
        simp only at hcl hdl
        subst hcl
        subst hdl
        have hol1 : (s.heap.push { cls := .type "set", dict := none, data := .set #[] 0 (.fresh 0 0 (!w.params.followText "set-order")) }).get? l = some { cls := .type "list", dict := odict, data := .seq items nl, slots := oslots } := Heap.get?_push_of_some _ hol
        have f6 := F.sub_list_set
        have f7 := F.sub_list_frozenset
        have f8 : (Value.type "list" == Value.type "dict") = false := by decide
        have il : (s.heap.push { cls := .type "set", dict := none, data := .set #[] 0 (.fresh 0 0 (!w.params.followText "set-order")) }).IsList l items := ⟨_, hol1, rfl, nl, rfl⟩
        unfold Builtin.«set.__init__» noKeywords Builtin.Frozenset.updateFrom
        generalize hPI : pyIter = PI
        wp_walk
        subst hPI
        refine wpAny_pyIter_list il ?_
        refine wpAny_bind (wpAny_runValue ?_)
        have ls : l < s.heap.objs.size := Heap.lt_size hol
        have h3 : A.in1.in1.in1.handled = none := by simp [hh]
        have nI : l ≠ (s.heap.push { cls := .type "set", dict := none, data := .set #[] 0 (.fresh 0 0 (!w.params.followText "set-order")) }).objs.size := by
          rw [Heap.size_push]; exact Nat.ne_of_lt (Nat.lt_succ_of_lt ls)
        have nS : s.heap.objs.size ∉ [(s.heap.push { cls := .type "set", dict := none, data := .set #[] 0 (.fresh 0 0 (!w.params.followText "set-order")) }).objs.size, l] := by
          rw [Heap.size_push]; simp only [List.mem_cons, List.mem_singleton, List.not_mem_nil, or_false, not_or]
          exact ⟨Nat.ne_of_lt (Nat.lt_succ_self _), Nat.ne_of_gt ls⟩
        have val : ∀ (i : Nat) (v : Value), items[i]? = some v → ∃ p, ks[i]? = some p ∧ v = .ref p.1 := fun i v hv => by
          have q : items.toList[i]? = some v := by rw [Array.getElem?_toList]; exact hv
          rw [hit, List.getElem?_map] at q
          obtain ⟨p, e1, e2⟩ := Option.map_eq_some_iff.mp q
          exact ⟨p, e1, e2.symm⟩
        have gone : ∀ b, s.heap.objs.size ≤ b → s.heap.get? b = none := fun b hb => by
          cases q : s.heap.get? b with
          | none => rfl
          | some o => exact absurd (Nat.lt_of_lt_of_le (Heap.lt_size q) hb) (Nat.lt_irrefl _)
        refine upd_loop ((Walks.list h3 _ l nI items).toS) s.heap.objs.size
          nS ks isz hfew val s.heap hk (gone _ (Nat.le_refl _)) (fun b hb => gone b (by
            rw [List.mem_singleton.mp hb, Heap.size_push]
            exact Nat.le_succ _)) (by simp only [Around.in1_units]; omega) (items.size - 0) 0 _ (by omega) (Nat.zero_le _)
          ⟨⟨_, Heap.get?_push_size _ rfl, rfl, rfl⟩, (il.push _)⟩ (fun b o e => Heap.get?_push_of_some _ (Heap.get?_push_of_some _ e)) ?c1 ?c2
        case c1 =>
          have g1 : ((s.heap.push { cls := .type "set", dict := none, data := .set #[] 0 (.fresh 0 0 (!w.params.followText "set-order")) }).push { cls := .type "list_iterator", data := .fields #[.ref l, .int 0 0] }).get? s.heap.objs.size
              = some { cls := .type "set", dict := none, data := .set #[] 0 (.fresh 0 0 (!w.params.followText "set-order")) } := Heap.get?_push_of_some _ hS
          exact ⟨[], #[], 0, _, nset_new g1, Had.zero ks⟩
        case c2 =>
          intro s1 L es ep t hm hS1 gt g
          obtain ⟨h1, x2, x3, tk1, x5⟩ := s1
          have e2 : x2 = s.gens := hm.gens
          have e3 : x3 = s.drawn := hm.drawn
          have e5 : x5 = s.os := hm.os
          subst e2 e3 e5
          change wpAny _ _ _ _ _ _
          refine wpAny_pure ?_
          change wpAny _ _ (ret Value.none) _ _ _
          rw [isz] at gt
          exact wpAny_pure ⟨rfl, h1, tk1, L, es, ep, t, rfl, hS1, gt, g⟩
      · cases r2 with
        | error e => exact hr2
        | ok fl2 =>
          cases fl2 with
          | ret r =>
            obtain ⟨rfl, h1, tk, L, es, ep, t, rfl, hS1, gt, g⟩ := hr2
            repeat any_goals first | assumption | wp_step
            exact fin _ _ _ _ _ _ hS1 gt g
          | _ => exact hr2.elim
    | _ => exact hr.elim
end
end CF

set_option Elab.async false
set_option linter.all false
set_option maxRecDepth 100000
namespace CF
open PySem PySem.Spec PyProof.Rows L2

section
variable {X : Cx} {W : Wd}
theorem keys_len : ∀ {xs : List Dv} {ks : List NestedKey}, keysOf xs = some ks → xs.length = ks.length
  | [], _, e => by cases e; rfl
  | x :: xs, _, e => by
    rw [keysOf] at e
    split at e
    · rename_i k ks e1 e2
      cases e
      rw [List.length_cons, List.length_cons, keys_len e2]
    · cases e
/-- the items of the list, with their keys -/
theorem keyed_items (hK : W.K = X.K) {pins : List (Addr × Obj)} {σ : L2.St} {H : Hp} {s : Shared} (I : Inv X pins σ H s) : ∀ {xs : List V} {ds : List Dv} {us : List Value} {ks : List NestedKey}, Reps W H xs ds → Vals xs us → keysOf ds = some ks → (ds.all fun x => match x with | .tup _ => true | _ => false) = true → (ks.all fun k => decide (k.depth ≤ 8) && noText k) = true →
    ∃ qs : List (Addr × NestedKey), us = qs.map (fun p => Value.ref p.1) ∧ qs.map (·.2) = ks ∧ ∀ p ∈ qs, NK X.prog X.w s.heap p.2 p.1 ∧ noText p.2 = true
  | _, _, _, _, .nil, .nil, e, _, _ => by
    cases e
    exact ⟨[], rfl, rfl, fun p h => (List.not_mem_nil h).elim⟩
  | _, d :: ds, _, _, .cons h r, .cons a b, e, ht, hk => by
    rw [keysOf] at e
    split at e
    · rename_i k ks e1 e2
      cases e
      rw [List.all_cons, Bool.and_eq_true] at ht hk
      obtain ⟨qs, q1, q2, q3⟩ := keyed_items hK I r b e2 ht.2 hk.2
      have hk1 := hk.1
      simp only [Bool.and_eq_true, decide_eq_true_eq] at hk1
      have n := h.key hK I e1 a
      cases d <;> try cases ht.1
      cases h with
      | tup hq rs =>
        cases a
        refine ⟨(_, k) :: qs, by rw [List.map_cons, q1], by rw [List.map_cons, q2], fun p hp => ?_⟩
        rcases List.mem_cons.mp hp with rfl | hp
        · exact ⟨⟨n, hk1.1⟩, hk1.2⟩
        · exact q3 p hp
    · cases e
theorem pe_lenSet (hc : X.calm = true) (hK : W.K = X.K) (hu : X.A.units + 200 < cLine) {a : PySem.Expr} {ta : TE} {p p2 q pos : Pos} (hg : Gl X "len") (hm : X.mg "len" = none) (hg2 : Gl X "set") (hm2 : X.mg "set" = none) (ha : PE X a ta)
    (na : starEach [a] X.env = (false, eval a X.env) :: starEach [] X.env) : PE X (.Call (.Name "len" p) [.Call (.Name "set" p2) [a] [] q] [] pos) (fun σ H Q => ta σ H fun x H1 => rV W .lenset [x] H1 Q) := by
  refine ⟨fun pins s σ H Q I h => ?_⟩
  refine Call_ (ld_blt I hg hm PySem.boot_len (PyProof.Rows.callWith_builtin1 (PyProof.Rows.args_cons ?_ rfl) rfl rfl))
  refine Call_ (ld_blt I hg2 hm2 PyProof.Rows.boot_set (PyProof.Rows.callWith_type1 (PyProof.Rows.args_cons (thn (ha.run pins s σ H _ I h) fun v s1 ⟨x, H1, I1, r1, q1⟩ => PyProof.Rows.args_nil ?_) na) na rfl))
  obtain ⟨HF, x', d, e, ex, sub, rx, ev, o⟩ := one_of q1
  cases ex
  cases d <;> try cases ev
  rename_i xs
  obtain ⟨e1, e2⟩ := if_opt2 (show (if (decide (xs.length < 64) && (xs.all fun x => match x with | .tup _ => true | _ => false)) = true then (keysOf xs).bind fun ks => if (ks.all fun k => decide (k.depth ≤ 8) && noText k) = true then some (Dv.int ((uniq ks).length : Nat)) else none else none) = some e from ev)
  rw [Bool.and_eq_true, decide_eq_true_eq] at e1
  obtain ⟨ks, e3, e4⟩ := Option.bind_eq_some_iff.mp e2
  obtain ⟨e5, rfl⟩ := if_some e4
  obtain ⟨l, vs, rfl, hl, rs⟩ := rx.lst_of sub
  cases r1
  obtain ⟨its, r, pl, hz⟩ := I1.list (SqL.of hl)
  obtain ⟨qs, k1, k2, k3⟩ := keyed_items hK I1 (rs.mono sub) r e3 e1.2 e5
  have ql : qs.length = xs.length := by rw [keys_len e3, ← k2, List.length_map]
  refine mk_set qs (I1.ok.hd hc) pl.isList (by simpa using k1) k3 (by rw [ql]; exact e1.1) (by omega) fun h1 tk L es ep t hS gt g => ?_
  refine PyProof.Rows.args_nil ?_
  have J : Inv X pins σ H1 { s1 with heap := h1, toks := tk } := I1.kept g
  have n : es.size = (uniq ks).length := by rw [rowN_len hS.rows, gt.count hS.nd, k2]
  obtain ⟨ob, ho, hex, hd⟩ := hS.ob
  have fit := NSet.fits (s := { s1 with heap := h1, toks := tk }) hS
  refine call_len_set ho hex hd fit (by have := hS.few; rw [rowN_len hS.rows]; omega) ⟨.int (uniq ks).length, H1, J.tok _, ⟨_, by rw [n]⟩, out_v o (.int _)⟩
end
end CF

set_option Elab.async false
set_option linter.all false
set_option maxRecDepth 100000
namespace CF
open PySem PySem.Spec PyProof.Rows L2

/-! ## calls with keywords -/
def gK {α : Type} (m n : Nat) (us ws : List α) : List α := if us.length = m ∧ ws.length = n then us ++ ws else []
/-- the def takes its last arguments by these keywords -/
def KB (K : PySem.W.Frag) (fd : FuncData) (ps ks : List Str) : Prop := ∃ m, m + ks.length = ps.length ∧ KBinds K fd ps ks (gK m ks.length) (gK m ks.length)
theorem kb_of {K : PySem.W.Frag} {x qual : Str} {st : Stmt} {f : Addr} {fd : FuncData} {ps ks : List Str} {m : Nat} (F : Fun K x qual st f fd) (hl : m + ks.length = ps.length) (hp : 0 < ps.length)
    (h : ∀ (kV doc pm : Value) (an : Option Addr) (cdv ct : Value) (us ws : List Value), us.length = m → ws.length = ks.length → bindArgs (PySem.W.fnOf x qual (defArgs st) (defBody st) (defScope st) .none kV doc pm an cdv ct) ⟨us, ks.zip ws⟩ = pure (ps.zip (us ++ ws))) : KB K fd ps ks := by
  obtain ⟨oc, od, kV, doc, pm, an, cdv, ct, osl, rfl, lk, hcd⟩ := F.ex
  refine ⟨m, hl, ⟨fun s us ws _ hn => ?_, fun {vs us zs ws} r1 r2 => ?_⟩⟩
  · unfold gK at hn ⊢
    by_cases c : us.length = m ∧ ws.length = ks.length
    · rw [if_pos c]
      exact BindsTo.of_eq (h kV doc pm an cdv ct us ws c.1 c.2)
    · rw [if_neg c] at hn
      rw [List.length_nil] at hn
      omega
  · unfold gK
    rw [r1.length, r2.length]
    split
    · exact r1.append r2
    · exact .nil
section
variable {X : Cx} {CX : CXT} {k : Nat} {f : Addr} {fd : FuncData} {ps : List Str} {sp : Sp} {E : XK} {x : Str} {p pos : Pos} {kws : List Keyword} {tk : TA}
theorem pe_callGK0 {ks : List Str} {g : List Value → List Value → List Value} {gV : List V → List V → List V} (F : FnG X.prog X.w X.K X.mg X.base CX k f fd ps sp) (hr : RoomG k X.A) (hg : Gl X x) (hm : X.mg x = some (.ref f)) (hk : PySem.W.keepIn X.K (.ref f) = true) (hb : KBinds X.K fd ps ks g gV) (hx : Passes CX X E)
    (hkw : PK X kws tk) (hall : (backToKw pos (keywordEach kws X.env)).all (·.1.isSome) = true) (hks : (backToKw pos (keywordEach kws X.env)).filterMap (·.1) = ks)
    (hdb : (x == ("__debug__" : Str)) = false) (hpl : ((backTo pos (starEach [] X.env)).any (·.1) || (backToKw pos (keywordEach kws X.env)).any (·.1.isNone)) = false) :
    PE X (.Call (.Name x p) [] kws pos) (tCallK sp gV E tNil tk) where
  run := fun pins s σ H Q I h => by
    refine wpAny_Call_Name_kw (ld_glob I hg hm ?_ hdb)
    refine PySem.W.callWith_KW0 (h₀ := X.base) I.ok.mod.kin hk hall (thn (hkw.run pos pins s σ H _ I h) fun ws s2 ⟨zs, H2, I2, rz, q2⟩ => ⟨I2.kIn, ?_⟩) hpl
    rw [hks]
    exact runGK (us := []) F hr hb hx I2 .nil rz q2
end
/-! ## xs[::-1] -/
section
variable {prog : Program} {w : World} {A : Around} {E : Value → Shared → Prop} {s : Shared}
theorem rev_adjust (n : Nat) : Builtin.Slice.sliceAdjust none none (-1) (n : Int) = ((n : Int) - 1, -1) := by
  unfold Builtin.Slice.sliceAdjust
  simp
theorem rev_places (n : Nat) : Builtin.Slice.slicePlaces ((n : Int) - 1) (-1) (-1) = n := by
  unfold Builtin.Slice.slicePlaces
  simp
  omega
theorem rev_pick (xs : Array Value) : ((List.range xs.size).filterMap fun (k : Nat) => xs[(((xs.size : Int) - 1) + (k : Int) * (-1)).toNat]?).toArray = xs.toList.reverse.toArray := by
  have e : ((List.range xs.size).filterMap fun (k : Nat) => xs[(((xs.size : Int) - 1) + (k : Int) * (-1)).toNat]?) = ((List.range xs.size).map fun k => xs.size - 1 - k).filterMap (xs[·]?) := by
    rw [List.filterMap_map]
    congr 1
    funext k
    have : (((xs.size : Int) - 1) + (k : Int) * (-1)).toNat = xs.size - 1 - k := by omega
    rw [this]
    rfl
  rw [e, PySem.W.krv_range, List.filterMap_reverse, PySem.W.krv_all]
theorem rev_tup {t sl : Addr} {items : Array Value} {vs : Value} {Q : Value → Shared → Prop} (ht : IsTup s.heap t items) (hs : s.heap.IsSliceOf sl .none .none vs) (ps : IsPart vs (some (-1)))
    (h : Q (.ref s.heap.objs.size) { s with heap := s.heap.push { cls := .type "tuple", data := .seq items.toList.reverse.toArray } }) (hsz : items.size ≤ sizeLine) : wpAny (model prog w) A (getItem (.ref t) (.ref sl)) Q E s := by
  have ok : sizeOk (.seq items.toList.reverse.toArray) := by
    change items.toList.reverse.toArray.size ≤ sizeLine
    simpa using hsz
  obtain ⟨os, hos, hcs, hds⟩ := id hs
  have ty : s.TypeIs (.ref sl) "slice" := ⟨os, hos, hcs⟩
  unfold getItem
  try with_reducible refine wpAny_holding ?_
  try refine wpAny_bind (wpAny_pure ?_)
  refine wpAny_bind (wpAny_sequenceKey ht.typeIs (by decide) ?_)
  refine wpAny_bind (wpAny_callSpecial?_slot (name := Str.ofString "__getitem__") ht.typeIs PyProof.Rows.slot_tuple_getitem (wpAny_call_entry PyProof.Rows.slot_tuple_getitem ht.typeIs entry_tuple_getitem ?_ (args_tuple_getitem _ _)))
  change wpAny _ _ (Builtin.Tuple.tupleItemsOf (.ref t) >>= _) _ _ s
  refine wpAny_bind (tupleItemsOf_ ht ?_)
  refine wpAny_bind (wpAny_typeOf ty ?_)
  rw [if_pos (by decide)]
  refine wpAny_bind ?_
  unfold Builtin.Slice.sliceApplied Builtin.Slice.sliceFields
  refine wpAny_bind (wpAny_bind (wpAny_field hos hds (x := .none) rfl (wpAny_bind (wpAny_field hos hds (x := .none) rfl (wpAny_bind (wpAny_field hos hds (x := vs) rfl (wpAny_pure ?_)))))))
  refine wpAny_bind (HT.slicePart_ ps ?_)
  change wpAny _ _ (if ((-1 : Int) == 0) = true then _ else _) _ _ s
  rw [if_neg (by decide)]
  refine wpAny_bind (slicePart_none (wpAny_bind (slicePart_none (wpAny_bind (wpAny_pure ?_)))))
  change wpAny _ _ (match Builtin.Slice.sliceAdjust none none (-1) (items.size : Int) with | (lo, hi) => pure (lo, (-1 : Int), Builtin.Slice.slicePlaces lo hi (-1))) _ _ s
  rw [rev_adjust]
  change wpAny _ _ (pure (((items.size : Int) - 1), (-1 : Int), Builtin.Slice.slicePlaces ((items.size : Int) - 1) (-1) (-1))) _ _ s
  rw [rev_places]
  refine wpAny_pure ?_
  change wpAny _ _ (if ((((items.size : Int) - 1) == 0 && (-1 : Int) == 1 && items.size == items.size) = true) then _ else _) _ _ s
  rw [if_neg (by simp)]
  rw [rev_pick]
  first
    | exact wpAny_bind (m := Builtin.Tuple.tupleExact _) (wpAny_newObj_type (wpAny_pure ⟨_, rfl, wpAny_pure h⟩) ok)
    | exact wpAny_bind (m := Builtin.Tuple.tupleExact _) (wpAny_newObj_type (wpAny_bind (wpAny_pure (wpAny_pure ⟨_, rfl, wpAny_pure h⟩))) ok)
end
end CF

set_option Elab.async false
set_option linter.all false
set_option maxRecDepth 100000
namespace CF
open PySem PySem.Spec PyProof.Rows L2

section
variable {X : Cx} {W : Wd}
theorem pe_rev (hK : W.K = X.K) {e : PySem.Expr} {te : TE} {k : Nat} {p1 p2 p3 pos : Pos} (he : PE X e te) :
    PE X (.Subscript e (.Slice none none (some (.UnaryOp .USub (.Constant (.int 1) k p1) p2)) p3) pos) (fun σ H Q => te σ H fun x H1 => rV W .rev [x] H1 Q) := by
  refine ⟨fun pins s σ H Q I h => ?_⟩
  refine Subscript_ (thn (he.run pins s σ H _ I h) fun v s1 ⟨x, H1, I1, r1, q1⟩ => ?_)
  have step : PO X (some (.UnaryOp .USub (.Constant (.int 1) k p1) p2)) (tPart (tUn (rU fun i => .int (-i)) (tC (.int 1)))) := po_some (pe_un un_neg pe_int)
  refine wpAny_Slice (thn (po_none.run pins s1 σ H1 (fun o G => o = none ∧ G = H1) I1 ⟨rfl, rfl⟩) fun vl s2 ⟨o2, H2, I2, c2, w2, e2⟩ => ?_)
  subst w2 e2
  refine thn (po_none.run pins s2 σ H2 (fun o G => o = none ∧ G = H2) I2 ⟨rfl, rfl⟩) fun vu s3 ⟨o3, H3, I3, c3, w3, e3⟩ => ?_
  subst w3 e3
  refine thn (step.run pins s3 σ H3 (fun o G => o = some (-1) ∧ G = H3) I3 ⟨1, rfl, -1, rfl, rfl, rfl⟩) fun vs s4 ⟨o4, H4, I4, c4, w4, e4⟩ => ?_
  subst w4 e4
  obtain ⟨HF, y, a, d, ex, sub, ra, ev, o⟩ := one_of q1
  cases ex
  have I5 : Inv X pins σ H4 { s4 with heap := s4.heap.push { cls := .type "slice", data := .fields #[vl, vu, vs] } } := I4.kept (t' := s4.toks) fun b ob q => Heap.get?_push_of_some _ q
  have new : H4 (s4.heap.push { cls := .type "slice", data := .fields #[vl, vu, vs] }).objs.size = none := I5.hok.fresh (Nat.le_refl _)
  cases a <;> try cases ev
  · rename_i ds
    obtain ⟨p, ws, rfl, hp, rs, _⟩ := ra.tup_of sub
    rw [hK] at hp
    cases r1
    obtain ⟨its, r, ht, hz⟩ := I5.tuple hp
    have hl := r.length
    cases c2
    cases c3
    refine tail_any (ops := [.ref p, .ref s4.heap.objs.size]) ht.typeIs PyProof.Rows.slot_tuple_getitem.lookup ?_ (by with_unfolding_all rfl)
    refine rev_tup ht (Heap.IsSliceOf.new _ _ _ vs) c4 ?_ (by rw [List.size_toArray]; omega)
    refine ⟨.ref _, _, I5.laid (t' := s4.toks) (o := .tup ws.reverse) (fun b ob q => Heap.get?_push_of_some _ q) (Nat.le_refl _) ?_, rfl, out_t o new rs.reverse⟩
    exact ⟨by rw [List.length_reverse]; exact hz, its.reverse, r.reverse, ⟨_, Heap.get?_push_size _ rfl, rfl, 0, by simp⟩⟩
  · rename_i ds
    obtain ⟨p, ws, rfl, hp, rs⟩ := ra.lst_of sub
    cases r1
    obtain ⟨its, r, ht, hz⟩ := I5.list (SqL.of hp)
    have hl := r.length
    refine tail_any (ops := [.ref p, .ref s4.heap.objs.size]) ht.isList.typeIs PySem.slot_list_getitem.lookup ?_ (by with_unfolding_all rfl)
    refine wpAny_getItem_list_slice ht.isList (Heap.IsSliceOf.new _ vl vu vs) c2 c3 c4 (by decide) ?_ (by rw [List.size_toArray]; omega)
    rw [PySem.W.krv_pick]
    refine ⟨.ref _, _, I5.laid (t' := s4.toks) (o := .lst ws.reverse) (fun b ob q => Heap.get?_push_of_some _ q) (Nat.le_refl _) ?_, rfl, out_l o new rs.reverse⟩
    exact ⟨by rw [List.length_reverse]; exact hz, _, 0, r.reverse, Heap.get?_push_size _ rfl⟩
/-! ## what a star gives out -/
theorem reps_signs {H : Hp} : ∀ l : List Nat, Reps W H (l.map fun c => V.str ⟨#[c]⟩) (l.map fun c => Dv.str ⟨#[c]⟩)
  | [] => .nil
  | c :: l => .cons (.str _) (reps_signs l)
theorem signs_vals {x : Str} {acc : Array Value} (h : ItemsOf (SignAt x) acc x.cps.size) : Vals (x.cps.toList.map fun c => V.str ⟨#[c]⟩) acc.toList := by
  obtain ⟨h1, h2⟩ := h
  have key : ∀ (l : List Nat) (us : List Value), l.length = us.length → (∀ (j : Nat) (v : Value), us[j]? = some v → ∃ (c : Nat) (u : Tok), l[j]? = some c ∧ v = Value.str ⟨#[c]⟩ u) → Vals (l.map fun c => V.str ⟨#[c]⟩) us := by
    intro l
    induction l with
    | nil =>
      intro us hl _
      cases us with
      | nil => exact .nil
      | cons _ _ => cases hl
    | cons c l ih =>
      intro us hl hj
      cases us with
      | nil => cases hl
      | cons u us =>
        obtain ⟨c', t, e1, e2⟩ := hj 0 u rfl
        cases e1
        exact .cons ⟨t, e2⟩ (ih us (Nat.succ.inj hl) fun j v e => hj (j + 1) v e)
  refine key _ _ (by rw [Array.length_toList, Array.length_toList, h1]) fun j v e => ?_
  obtain ⟨c, u, e1, e2⟩ := h2 j v (by rw [← Array.getElem?_toList]; exact e)
  exact ⟨c, u, by rw [Array.getElem?_toList]; exact e1, e2⟩
theorem star_data (hK : W.K = X.K) (hc : X.calm = true) {pins : List (Addr × Obj)} {s : Shared} {σ : L2.St} {H HF : Hp} (I : Inv X pins σ H s) (sub : Same HF H) {v : V} {u : Value} {d : Dv} {ds : List Dv} (r : Rep W HF v d) (ru : RelV v u) (e : itOf d = some ds) (hz : ds.length ≤ sizeLine) {E : Value → Shared → Prop} {Q : List Value → Shared → Prop}
    (hQ : ∀ vs us s1, Inv X pins σ H s1 → Vals vs us → Reps W HF vs ds → Q us s1) : PySem.W.StarOf (model X.prog X.w) X.A E u Q s := by
  cases d <;> try cases e
  · rename_i x
    cases r
    obtain ⟨t, rfl⟩ := ru
    unfold PySem.W.StarOf notIterableAtAll
    refine wpAny_bind (wpAny_specialOf (typeIs_str _ _ _) PySem.F.slot_str_iter.lookup (wpAny_pure ⟨rfl, ?_⟩))
    refine wpAny_collect_str (I.ok.hd hc) x t (fun s1 acc k1 k2 k3 k4 k5 => ?_) (by simpa using hz)
    obtain ⟨h1, g1, d1, t1, o1⟩ := s1
    cases k2
    cases k3
    cases k4
    exact hQ _ _ _ (I.kept (t' := t1) k1) (signs_vals k5) (reps_signs _)
  · obtain ⟨p, vs, rfl, hq, rs, _⟩ := RepL.tup_of (.inl r) sub
    cases ru
    rw [hK] at hq
    exact StX.star_any I (.inl hq) fun us s1 J rv => hQ _ _ _ J rv rs
  · obtain ⟨p, vs, rfl, hq, rs⟩ := RepL.lst_of (.inl r) sub
    cases ru
    exact StX.star_any I (.inr (SqL.of hq)) fun us s1 J rv => hQ _ _ _ J rv rs
end
end CF

set_option Elab.async false
set_option linter.all false
set_option maxRecDepth 100000
set_option maxHeartbeats 4000000
namespace CF
open PySem PySem.Spec PyProof.Rows PySem.W PySem.Calls L2

/-! ## C(value), C an own class over ValueError whose __init__ says super().__init__(value); self.value = value -/
abbrev xBody (p0 p1 p2 p3 p4 p5 p6 p7 p8 p9 : Pos) : List Stmt := [.Expr (.Call (.Attribute (.Call (.Name "super" p0) [] [] p1) "__init__" p2) [.Name "value" p3] [] p4) p5, .Assign [.Attribute (.Name "self" p6) "value" p7] (.Name "value" p8) p9]
abbrev xCall (p0 p1 p2 p3 p4 : Pos) : PySem.Expr := .Call (.Attribute (.Call (.Name "super" p0) [] [] p1) "__init__" p2) [.Name "value" p3] [] p4
abbrev XRun (p0 p1 p2 p3 p4 : Pos) (pl : PySem.Env → Sem Bool) : Prop := ∀ env : PySem.Env, eval (xCall p0 p1 p2 p3 p4) env = (do
      let ov ← attributeBase (.Call (.Name "super" p0) [] [] p1) "__init__" env (eval (.Call (.Name "super" p0) [] [] p1) env)
      standAt p2.atName
      let (f, first) ← holding [ov] (getMethod ov "__init__" (pl env))
      callWith p4 f first (backTo p4 (starEach [.Name "value" p3] env)) [])
/-- the def __init__ -/
structure XDef (P : Program) (K : PySem.W.Frag) (fI D : Addr) : Prop where
  ex : ∃ (oc ct dV kV doc pm : Value) (an od : Option Addr) (osl : Array (Option Value)) (name qual : Str) (params : Arguments) (scope : Scope) (cda cc : Addr) (p0 p1 p2 p3 p4 p5 p6 p7 p8 p9 : Pos) (ar : Arg) (vs : Array Value) (file : Str) (tf : Tok) (ccl cl : Value) (cdd cld : Option Addr) (ccs csl : Array (Option Value)) (cdD : ClassData),
    K.lookup fI = some ⟨oc, od, .func (ksFn name qual params (xBody p0 p1 p2 p3 p4 p5 p6 p7 p8 p9) scope dV kV doc pm an (.ref cda) ct cc), osl⟩ ∧ codeIn K (.ref cda) qual = true ∧
    (params.posonlyargs ++ params.args).head? = some ar ∧ ar.arg = "self" ∧
    (∀ (s : Shared) (e u : Value), BindsTo s (ksFn name qual params (xBody p0 p1 p2 p3 p4 p5 p6 p7 p8 p9) scope dV kV doc pm an (.ref cda) ct cc) ⟨[e, u], []⟩ [("self", e), ("value", u)]) ∧
    scope.names.lookup ("super" : Str) = some .globalImplicit ∧ scope.names.lookup ("__class__" : Str) = some .free ∧ scope.names.lookup ("self" : Str) = some .local ∧ scope.names.lookup ("value" : Str) = some .local ∧ (∀ x ∈ scope.names, x.2 ≠ .cell) ∧
    scope.isCoroutine = false ∧ scope.isGenerator = false ∧ scope.kind = .function ∧
    K.lookup cda = some ⟨ccl, cdd, .fields vs, ccs⟩ ∧ vs[2]? = some (.str file tf) ∧ ((P.main.file : Str) == file) = true ∧ (P.main.scope.names.lookup ("super" : Str)).isSome = false ∧
    K.lookup cc = some ⟨cl, cld, .cell (some (.ref D)), csl⟩ ∧ clsIn K D = some cdD ∧ ∃ pl, XRun p0 p1 p2 p3 p4 pl
/-- the class C -/
structure XCls (K : PySem.W.Frag) (fI D C : Addr) : Prop where
  T : OexC K C
  iC : findIn K (.ref C) "__init__" = some (some (.ref fI))
  tI : typeIn K (.ref fI) = some (.type "function")
  sup : ks_superIn K C D "__init__" = some (some (.builtin "ValueError.__init__"))
  hB : subIn K (.ref C) (.type "ValueError") = some true
  mD : mroIn K C (.ref D) = some true
  hno : findIn K (.ref C) "value" = some none
  opq : nsIn K cStatics "thirdparty.any" = some none

section
variable {prog : Program} {w : World} {A : Around} {E : Value → Shared → Prop} {K : PySem.W.Frag} {fI D C : Addr} {h : Heap} {g : Array GenState} {d : Drawn} {t : Nat} {os : OsState} {u : Value} {mg mb : Str → Option Value} {Q : Value → Shared → Prop}
theorem boot_super : bootBuiltins "super" = some (.type "super") := by kernel_rfl
theorem exc_call (X : K.In h) (F : XDef prog K fI D) (c : XCls K fI D C) (hlim : h.NoLimit) (hg : h.Ns mainGlobals mg) (hb : h.Ns builtinsNs mb) (hmg : mg "super" = none) (hmb : mb "super" = some (.type "super")) (hroom : A.depth + 1 < recursionLimit)
    (hq : ∀ h' t' e tt dx, (∀ b o, h.get? b = some o → h'.get? b = some o) → h.objs.size ≤ e → h.objs.size ≤ tt → h.objs.size ≤ dx → e ≠ tt → e ≠ dx → tt ≠ dx → h'.get? e = some (excObj C tt (some dx) .none) → h'.get? tt = some (excTup [u]) →
      h'.Ns1 dx (fun y => if y = "value" then some u else none) → Q (.ref e) ⟨h', g, d, t', os⟩) :
    wpAny (model prog w) A (call (.ref C) [u]) Q E ⟨h, g, d, t, os⟩ := by
  obtain ⟨nm, q, N, bs, bm, sn, sub, ab, col, dd, k0, k1, k2, k3, k5, hC, hbm⟩ := c.T.cls
  obtain ⟨oc, ct, dV, kV, doc, pm, an, od, osl, name, qual, params, scope, cda, cc, p0, p1, p2, p3, p4, p5, p6, p7, p8, p9, ar, vs, file, tf, ccl, cl, cdd, cld, ccs, csl, cdD, hf, hcd, hp, har, hbind, n1, n2, n3, n4, ncell, sco, sgen, sk, hcda, hvs, hfile, htop, hcc, hD, pl, hrun⟩ := F.ex
  have one : [u].length ≤ sizeLine := by rw [sizeLine_eq, List.length_singleton]; decide
  refine wpAny_call (HandSPX.call_own PySem.F.excBase_ValueError (fun Y => HandSPX.refsVE_contains Y bm hbm) (X _ _ hC) (W.looks_findIn X c.iC) (fun self => W.bind_fn X self c.tI) one ?_)
  generalize he : h.objs.size + 1 = e
  have k1 : ∀ b o, h.get? b = some o → ((h.push (kdv_tup [u])).push (HandSPX.excO C h.objs.size)).get? b = some o := fun b o z => Heap.get?_push_of_some _ (Heap.get?_push_of_some _ z)
  have e1 : ((h.push (kdv_tup [u])).push (HandSPX.excO C h.objs.size)).get? e = some (HandSPX.excO C h.objs.size) := by rw [← he]; heap_get
  have z1 : ((h.push (kdv_tup [u])).push (HandSPX.excO C h.objs.size)).objs.size = h.objs.size + 2 := by rw [Heap.size_push, Heap.size_push]
  generalize (h.push (kdv_tup [u])).push (HandSPX.excO C h.objs.size) = h1 at k1 e1 z1 ⊢
  refine ks_codeAny_call_defAt (fd := ksFn name qual params (xBody p0 p1 p2 p3 p4 p5 p6 p7 p8 p9) scope dV kV doc pm an (.ref cda) ct cc) (body := xBody p0 p1 p2 p3 p4 p5 p6 p7 p8 p9) (binds := [("self", .ref e), ("value", u)])
    (by rw [make_depth]; omega) (k1 _ _ (X _ _ hf)) rfl (hlim.keeps k1) (codeRec_of (X.keeps k1) hcd) rfl (hbind _ _ _) ncell (fun x hx => ?_) (fun h2 ns2 k2 => ?_) sco sgen sk
  · rcases List.mem_cons.mp hx with rfl | hx
    · exact n3
    · rcases List.mem_cons.mp hx with rfl | hx
      · exact n4
      · cases hx
  let bd : List (Str × Value) := [("self", .ref e), ("value", u)]
  have ns2 : h2.Ns h1.objs.size (fun x => bd.reverse.lookup x) := ns2
  have k2' := fun b o (z : h.get? b = some o) => k2 b o (k1 b o z)
  have e2 := k2 _ _ e1
  have X2 : K.In h2 := X.keeps k2'
  have lt2 : h1.objs.size < h2.objs.size := ns2.lt
  have Le : h1.objs.size ≠ e := by omega
  show PySem.wpAt (model prog w) _ (.func _ (ksEnv qual scope h1.objs.size fI (.ref cda) cc)) (execs _ (ksEnv qual scope h1.objs.size fI (.ref cda) cc)) _ _ _
  have sz2 : h.objs.size + 2 < h2.objs.size := by omega
  generalize h1.objs.size = L at *
  generalize hEE : (fun (e : Value) (s' : Shared) => wpAny (model prog w) _ (leaving _ e) _ _ s') = EE
  clear hEE
  have hcl : PySem.W.clsIn K C = some { name := nm, bases := bs, mro := .ref C :: bm, ns := N, qualname := q, hasDict := true, slotNames := sn, subclasses := sub, abstract := ab, collection := col, hasDel := false } := by unfold PySem.W.clsIn; rw [hC] <;> rfl
  have eC : e ≠ C := fun z => by
    have y := X2 _ _ hC
    rw [← z, e2] at y
    cases y
  obtain ⟨oD, hD1, hD2⟩ : ∃ oD, h2.get? D = some oD ∧ oD.data = .cls cdD := by
    unfold clsIn at hD
    split at hD
    · rename_i c d cd' sl ho
      cases hD
      exact ⟨_, X2 _ _ ho, rfl⟩
    · cases hD
  have hi : interactive (ksEnv qual scope L fI (.ref cda) cc) = false := by
    simp [interactive, sk]
  refine ks_wpAt_execs_cons (ks_wpAt_Expr_any ?_ hi)
  refine ks_wpAt_MethodCall (pl := pl _) ?_ (hrun _)
  refine ks_wpAt_super_base (env := ksEnv qual scope L fI (.ref cda) cc) n1 n2 (by decide) rfl (X2 _ _ hf) rfl hp rfl (X2 _ _ hcda) rfl hvs hfile htop ?_
  refine ks_loadName_global sk n1 (loadGlobal_builtin (env := ksEnv qual scope L fI (.ref cda) cc) (hg.keeps k2') hmg (hb.keeps k2') hmb ⟨rfl, ?_⟩)
  refine wpAny_loadName_free sk n2 rfl ⟨_, X2 _ _ hcc, rfl⟩ ?_
  rw [har]
  refine wpAny_loadName_local sk n3 ns2 rfl ?_
  refine ks_wpAny_isType_cls hD1 hD2 ⟨rfl, ?_⟩
  refine ks_wpAny_call_super hD1 hD2 e2 rfl (fun c e => nomatch e) (looks_mroIn X2 c.mD) (fun h3 so3 k3 => ?_)
  have X3 : K.In h3 := X2.keeps k3
  have e3 := k3 _ _ e2
  have ns3 := ns2.keeps k3
  have I3 : InstAt h3 e (HandSPX.excO C h.objs.size) C none := ⟨e3, rfl, rfl, trivial⟩
  have hsup := c.sup
  unfold ks_superIn at hsup
  rw [hcl] at hsup
  refine kxs_getMethod kxs_ValueError so3 (looks_opaque X3 c.opq) (l₀ := .ref C :: bm) ((looks_clsIn X3 hcl).andThen .now) rfl X3 hsup (I3.type.andThen (looks_subIn X3 c.hB)) eC (by decide) ?_
  have k4 : ∀ b o, h3.get? b = some o → (h3.push (kxs_mw "ValueError.__init__" e)).get? b = some o := fun b o z => Heap.get?_push_of_some _ z
  have u4 : (h3.push (kxs_mw "ValueError.__init__" e)).get? h3.objs.size = some (kxs_mw "ValueError.__init__" e) := Heap.get?_push_at rfl rfl
  have z3 : h2.objs.size ≤ h3.objs.size := Nat.le_of_lt (Heap.lt_size so3)
  generalize h3.objs.size = um at *
  generalize h3.push (kxs_mw "ValueError.__init__" e) = h4 at k4 u4 ⊢
  have X4 : K.In h4 := X3.keeps k4
  have e4 := k4 _ _ e3
  have ns4 := ns3.keeps k4
  have so4 := k4 _ _ so3
  refine kxs_callWith (i := "ValueError.__init__") (x := e) rfl (evalArgs_plain (Calls.spliced_cons (wpAny_Name (wpAny_loadName_local sk n4 ns4 rfl (Calls.spliced_nil ⟨u4, ?_⟩)) (by decide))))
  refine wpAny_call (codeAny_of_tree ?_)
  show wpAny _ _ (callAny (.ref um) ⟨[u], []⟩) _ _ _
  simp only [callAny]
  refine wpAny_bind (wpAny_load u4 ?_)
  simp only [kxs_mw, show (Value.type "method-wrapper" == Value.type "method" || Value.type "method-wrapper" == Value.type "builtin_function_or_method" || Value.type "method-wrapper" == Value.type "method-wrapper") = true by decide, if_true]
  refine KFB.if_so (by decide) ?_
  refine wpAny_bind (check_bound_init PySem.F.excBase_ValueError.toExcCallFacts (X4 _ _ hC) e4 rfl ?_)
  refine wpAny_bind (wpAny_pure (wpAny_pure ?_))
  refine ⟨plainId_quiet PySem.F.excBase_ValueError.init.plain _, codeAny_builtin PySem.F.excBase_ValueError.initEntry ?_⟩
  refine exc_init_tree (cls := .ref C) (t0 := h.objs.size) (dv := none) (c2 := .none) (c3 := .none) (b4 := .bool false) e4 one fun h5 k5 e5 t5 => ?_
  have z4 : um < h4.objs.size := Heap.lt_size u4
  generalize h4.objs.size = tt' at *
  have eNat : h.objs.size < e := he ▸ Nat.lt_succ_self _
  have eL : e < L := by
    have : h.objs.size + 2 = L := z1.symm
    rw [← this, ← he]
    exact Nat.lt_succ_self _
  have Lu : L < um := Nat.lt_of_lt_of_le lt2 z3
  have et : e < tt' := Nat.lt_trans eL (Nat.lt_trans Lu z4)
  have X5 : K.In h5 := fun b o z => k5 b o (fun y => absurd (Heap.lt_size (X _ _ z)) (by rw [y]; exact Nat.not_lt.mpr (Nat.le_of_lt eNat))) (X4 _ _ z)
  have ns5 : h5.Ns L (fun x => bd.reverse.lookup x) := by
    obtain ⟨o, es, ep, q1, q2⟩ := ns4
    exact ⟨o, es, ep, k5 _ _ Le q1, q2⟩
  refine ks_wpAt_execs_cons (wpAt_of_wpAny (plainObj_wpAny_Assign_Attribute (wpAny_Name (wpAny_loadName_local sk n4 ns5 rfl (wpAny_Name (wpAny_loadName_local sk n3 ns5 rfl ?_) (by decide))) (by decide)) rfl))
  refine PySem.W.set_plain X5 (ox := excObj C tt' none .none) (od := none) ⟨e5, rfl, rfl, trivial⟩ c.T.sa ?_
  refine HandSPX.exc_osa X5 e5 hcl (show HandSPX.refsVE (.ref C :: bm) = true from hbm) rfl c.hno (fun h6 t6 dx k6 dn dne hx hn => ?_)
  have t6' := k6 _ _ (Nat.ne_of_gt et) t5
  have td : tt' < dx := Nat.lt_of_lt_of_le (Heap.lt_size t5) dn
  have st : h.objs.size ≤ tt' := Nat.le_of_lt (Nat.lt_trans eNat et)
  have fin := hq h6 t6 e tt' dx (fun b o z => ?_) (Nat.le_of_lt eNat) st (Nat.le_trans st (Nat.le_of_lt td)) (Nat.ne_of_lt et) (Ne.symm dne) (Nat.ne_of_lt td) hx t6' hn
  · show PySem.wpAt _ _ _ (execs [] _) _ _ _
    rw [execs_nil]
    exact wpAt_of_wpAny (wpAny_pure ⟨rfl, fin⟩)
  · have nb : b ≠ e := Nat.ne_of_lt (Nat.lt_trans (Heap.lt_size z) eNat)
    exact k6 b o nb (k5 b o nb (k4 b o (k3 b o (k2' b o z))))
end

theorem exH_tup {a C t dx : Addr} {xs : List V} : ExH a C t dx ≠ .tup xs := fun z => by
  have z' : HO.ext _ = HO.tup xs := z
  cases z'
/-- laid: an exception, its args, its dict -/
theorem Inv.exc {X : Cx} {pins : List (Addr × Obj)} {σ : L2.St} {H : Hp} {s : Shared} {h' : Heap} {t' : Nat} {e tt dx C : Addr} {v : V} {u : Value} (I : Inv X pins σ H s) (rv : RelV v u) (k : ∀ b o, s.heap.get? b = some o → h'.get? b = some o) (l1 : s.heap.objs.size ≤ e) (l2 : s.heap.objs.size ≤ tt) (l3 : s.heap.objs.size ≤ dx)
    (d1 : e ≠ tt) (d2 : e ≠ dx) (d3 : tt ≠ dx) (he : h'.get? e = some (excObj C tt (some dx) .none)) (ht : h'.get? tt = some (excTup [u])) (hd : h'.Ns1 dx (fun y => if y = "value" then some u else none)) :
    Inv X pins σ (upd (upd (upd H tt (.tup [v])) dx (.xd [("value", v)])) e (ExH e C tt dx)) { s with heap := h', toks := t' } := by
  have f1 : H e = none := I.hok.fresh l1
  have f2 : H tt = none := I.hok.fresh l2
  have f3 : H dx = none := I.hok.fresh l3
  have ne : ∀ {b : Addr} {o : Obj}, s.heap.get? b = some o → b ≠ e ∧ b ≠ tt ∧ b ≠ dx := fun {b o} z => ⟨Nat.ne_of_lt (Nat.lt_of_lt_of_le (Heap.lt_size z) l1), Nat.ne_of_lt (Nat.lt_of_lt_of_le (Heap.lt_size z) l2), Nat.ne_of_lt (Nat.lt_of_lt_of_le (Heap.lt_size z) l3)⟩
  have nH : ∀ {b : Addr} {o : HO}, H b = some o → upd (upd (upd H tt (.tup [v])) dx (.xd [("value", v)])) e (ExH e C tt dx) b = some o := fun {b o} z => by
    rw [upd_ne (ne_of_none z f1), upd_ne (ne_of_none z f3), upd_ne (ne_of_none z f2)]
    exact z
  refine I.un (t' := t') { keep := fun b o q _ _ _ => k b o q, slot := fun b o q _ _ _ => ⟨o.slots, k b o q⟩, free := fun b o q n _ => ?_, there := fun b o q _ => ⟨o, k b o q⟩, tups := fun b xs q => nH q, frzs := fun b o w q => nH q, tbls := fun b ps q => ⟨#[], by rw [nH q]; simp⟩ } fun b o q => ?_
  · obtain ⟨n1, n2, n3⟩ := ne q
    rw [upd_ne n1, upd_ne n3, upd_ne n2]
    exact n
  · by_cases h1 : b = e
    · subst h1
      rw [upd_same] at q
      cases q
      exact ⟨⟨_, he⟩, ⟨_, he⟩, fun h1 h2 z k => by
        obtain ⟨c2, w⟩ := z
        exact ⟨c2, k _ w⟩⟩
    · rw [upd_ne h1] at q
      by_cases h2 : b = dx
      · subst h2
        rw [upd_same] at q
        cases q
        refine ⟨_, hd, fun f => ?_⟩
        by_cases hf : f = "value"
        · subst hf
          rw [if_pos rfl]
          exact rv
        · rw [if_neg hf, lookup_put, if_neg hf]
          trivial
      · rw [upd_ne h2] at q
        by_cases h3 : b = tt
        · subst h3
          rw [upd_same] at q
          cases q
          exact ⟨by rw [sizeLine_eq, List.length_singleton]; decide, [u], .cons rv .nil, _, ht, rfl, _, rfl⟩
        · rw [upd_ne h3] at q
          exact (I.hok b o q).stay (fun c w hc z => k c w z) (fun c hc => nH hc) (fun c xs hc => nH hc)
section
variable {X : Cx} {fI D C : Addr}
theorem rl_mk (F : XDef X.prog X.K fI D) (c : XCls X.K fI D C) (hmg : X.mg "super" = none) (hroom : X.A.depth + 1 < recursionLimit) :
    CallR X (.ref C) (fun xs H Q => ∃ v, xs = [v] ∧ ∀ e tt dx, H e = none → H tt = none → H dx = none → e ≠ tt → e ≠ dx → tt ≠ dx → Q (.ref e) (upd (upd (upd H tt (.tup [v])) dx (.xd [("value", v)])) e (ExH e C tt dx))) := by
  intro pins s σ H xs us Q I r h
  obtain ⟨v, rfl, q⟩ := h
  cases r with
  | cons r rr =>
    cases rr
    obtain ⟨mb, b1, b2⟩ := I.mod.blt
    obtain ⟨hh, g, d, t, os⟩ := s
    refine exc_call I.kIn F c ?_ (I.mod.glob.keeps I.bk) (b1.keeps I.bk) hmg ((b2 "super" (by decide)).trans boot_super) hroom fun h' t' e tt dx k l1 l2 l3 d1 d2 d3 he ht hd => ?_
    · exact I.mod.nolimit.keeps I.bk
    · exact ⟨.ref e, _, CF.Inv.exc I r k l1 l2 l3 d1 d2 d3 he ht hd, rfl, q e tt dx (I.hok.fresh l1) (I.hok.fresh l2) (I.hok.fresh l3) d1 d2 d3⟩
end
end CF

set_option Elab.async false
set_option linter.all false
set_option maxRecDepth 100000
set_option maxHeartbeats 4000000
namespace CF
open PySem PySem.Spec PyProof.Rows PySem.W PySem.Calls L2

/-! ## an error at hand: its field, its kind, its text -/
structure XIs (K : PySem.W.Frag) (C : Addr) (c : Str) : Prop where
  cls : ∃ cd, clsIn K C = some cd ∧ Str.ofString ((cd.name.toString.cutAt '.').getLastD "") = c
  hd : hasDictIn K C = true
  ga : findIn K (.ref C) "__getattribute__" = some (some (.builtin "BaseException.__getattribute__"))
  gg : findIn K (.ref C) "__getattr__" = some none
  sb : subIn K (.ref C) (.type "BaseException") = some true
  ca : findIn K (.ref C) "__class__" = some (some (.builtin "object.__class__"))
  sg : specialIn K (.builtin "object.__class__") "__get__" = some (some (.builtin "getset_descriptor.__get__"))
  tk : takesIn K (.builtin "object.__class__") = some true
  ob : mroIn K C (.type "object") = some true
  rp : findIn K (.ref C) "__repr__" = some (some (.builtin "BaseException.__repr__"))
  vl : findIn K (.ref C) "value" = some none

section
variable {X : Cx} {pins : List (Addr × Obj)} {σ : L2.St} {H : Hp} {s : Shared} {a C t dx : Addr} {v : V} {c : Str} {W : Wd}
theorem exc_at (I : Inv X pins σ H s) (h : H a = some (ExH a C t dx)) : ∃ c2 : Value, s.heap.get? a = some (excObj C t (some dx) c2) := by
  have x : ObjOk X.prog X.w H s.heap a (.ext fun h => ∃ c2 : Value, h.get? a = some (PySem.W.excObj C t (some dx) c2)) := I.hok a _ h
  exact x.1
theorem exc_inst (I : Inv X pins σ H s) (h : H a = some (ExH a C t dx)) (hd : H dx = some (.xd [("value", v)])) : ∃ ox od u, InstAt s.heap a ox C (some od) ∧ lookIn "value" od = some (some u) ∧ RelV v u := by
  obtain ⟨c2, e⟩ := exc_at I h
  have hx : ObjOk X.prog X.w H s.heap dx (.xd [("value", v)]) := I.hok dx _ hd
  obtain ⟨mA, hns, hr⟩ := hx
  obtain ⟨od, ho, hl⟩ := lookIn_ns hns
  have hv := hr "value"
  rw [lookup_put, if_pos rfl] at hv
  obtain ⟨u, hu, ru⟩ := RelO.some_of (v := v) (o := mA "value") hv
  exact ⟨_, od, u, ⟨e, rfl, rfl, ho⟩, by rw [hl, hu], ru⟩
/-- e.value -/
theorem pe_exv {e : PySem.Expr} {te : TE} {pos : Pos} (hX : ∀ c C, W.cl c = some C → XIs X.K C c) (he : PE X e te) (hb : attributeBase e "value" X.env (eval e X.env) = eval e X.env) :
    PE X (.Attribute e "value" pos) (fun σ H Q => te σ H fun x H1 => ∃ a c C t dx v, x = .ref a ∧ W.cl c = some C ∧ H1 a = some (ExH a C t dx) ∧ H1 dx = some (.xd [("value", v)]) ∧ Q v H1) := by
  refine ⟨fun pins s σ H Q I h => ?_⟩
  refine attr_of hb (thn (he.run pins s σ H _ I h) fun u s1 ⟨x, H1, I1, rx, a, c, C, t, dx, v, ex, ec, ea, ed, q⟩ => ?_)
  subst ex
  obtain rfl : u = Value.ref a := rx
  have T := hX c C ec
  obtain ⟨ox, od, w, J, l, rw'⟩ := exc_inst I1 ea ed
  exact HandSPX.exc_get I1.kIn J T.ga T.gg T.sb (PySem.W.findObj_own T.hd T.vl rfl l) (handed_of rw') ⟨v, H1, I1.tok _, rw', q⟩
/-- isinstance(e, T), T an own class or ValueError -/
theorem isx_ok (hX : ∀ c C, W.cl c = some C → XIs X.K C c) : CallR X (.builtin "isinstance") (fun xs H Q => ∃ a c C t dx v b, ∃ (y : V) (cv : Value), xs = [.ref a, y] ∧ (∀ u, RelV y u → u = cv) ∧ W.cl c = some C ∧ H a = some (ExH a C t dx) ∧ H dx = some (.xd [("value", v)]) ∧ kitOne X.K (.ref C) cv = some b ∧ Q (.bl b) H) := by
  intro pins s σ H xs us Q I r h
  obtain ⟨a, c, C, t, dx, v, b, y, cv, rfl, hcv, ec, ea, ed, e, q⟩ := h
  cases r with
  | cons rx rr =>
    cases rr with
    | cons rt rr =>
      cases rr
      cases rx
      have z := hcv _ rt
      subst z
      have T := hX c C ec
      obtain ⟨ox, od, w, J, _, _⟩ := exc_inst I ea ed
      obtain ⟨cd, hcd, _⟩ := T.cls
      exact kia_one (kitx_exc (od := some od) (ox := ox) (by rw [hcd] <;> rfl) T.ga T.gg T.sb T.ca T.sg T.tk T.ob) I.kIn J e (fun z => nomatch z) fun tk => ⟨.bl b, H, I.kept (t' := tk) fun _ _ z => z, rfl, q⟩

/-! ### repr -/
theorem bexc_plain : plainId "BaseException.__repr__" = true := by decide +kernel
theorem repr_exc {A : Around} {E Q : Value → Shared → Prop} {h : Heap} {g : Array GenState} {d : Drawn} {tk : Nat} {os : OsState} {u : Value} {p : PyData} {as : List Addr} {c2 : Value} (KX : X.K.In h) (T : XIs X.K C c) (ha : h.get? a = some (excObj C t (some dx) c2)) (hod : ∃ o, h.get? dx = some o) (ht : ∃ o k, h.get? t = some o ∧ o.cls = .type "tuple" ∧ o.data = .seq #[u] k) (r : Reads h u p as) (hsm : p.hasDict = true → sysModules ∉ as) (hg : A.guards = some []) (hu : A.units + 150 < cLine) (hs : p.showable = true) (hdp : p.depth ≤ 100) (hsz : p.shown.length ≤ 1000000) (hc : c.length ≤ 1000)
    (hq : ∀ h' w tk', (∀ b o, h.get? b = some o → h'.get? b = some o) → Q (.str (c ++ ("(" : Str) ++ p.shown ++ (")" : Str)) w) ⟨h', g, d, tk', os⟩) : wpAny (model X.prog X.w) A (call (.builtin "repr") [.ref a]) Q E ⟨h, g, d, tk, os⟩ := by
  obtain ⟨cd, hcd, hnm⟩ := T.cls
  obtain ⟨odx, hodx⟩ := hod
  have I : InstAt h a (excObj C t (some dx) c2) C (some odx) := ⟨ha, rfl, rfl, hodx⟩
  have L0 := I.type (M := model X.prog X.w)
  have L1 := looks_findIn (M := model X.prog X.w) KX T.rp
  have sub : Looks (model X.prog X.w) h (isInstance (.ref a) (.type "BaseException")) true := L0.andThen (looks_subIn KX T.sb)
  refine Calls.call_function_entry PySem.F.kind_repr PySem.F.plain_repr PySem.F.entry_repr (PySem.F.args_repr1 _) ?_
  unfold Builtin.«repr»
  refine wpAny_bind (m := oneArg "repr" _) (wpAny_pure ?_)
  refine wpAny_bind (wpAny_cRoomFor (by show A.units + 1 < cLine; omega) ?_)
  unfold specialOf
  refine wpAny_bind (wpAny_bind (L0.at (L1.at ?_)))
  show wpAny _ _ (if (some (Value.builtin "BaseException.__repr__")).isNone = true then _ else _) _ _ _
  rw [if_neg (by simp)]
  have key : wpAny (model X.prog X.w) A.in1 (call (.builtin "BaseException.__repr__") [.ref a]) (fun r s' => ∃ m w, r = .str m w ∧ Q (.str m w) s') E ⟨h, g, d, tk, os⟩ := by
    refine wpAny_call (codeAny_call_builtin bexc_plain PySem.F.entry_bexc_repr ?_)
    refine @check_slot (model X.prog X.w) _ _ ⟨h, g, d, tk, os⟩ "BaseException.__repr__" "BaseException" "__repr__" (.ref a) [] [] _ (by decide +kernel) (by decide +kernel) sub (PySem.F.args_bexc_repr (.ref a)) ?_
    unfold Builtin.«BaseException.__repr__» Builtin.bexcReprAt
    refine wpAny_bind (wpAny_of_eq (a := ((Value.ref a : Value), ([] : List Value))) (by first | rfl | (simp only [slotArgs]; rfl)) ?_)
    have nmc : wpAny (model X.prog X.w) A.in1.in1 (typeNameOfWhole (.ref a)) (fun n s' => n = cd.name.toString ∧ s' = ⟨h, g, d, tk, os⟩) E ⟨h, g, d, tk, os⟩ := by
      unfold typeNameOfWhole shownTypeOf
      refine wpAny_bind (wpAny_bind (L0.at ?_))
      rw [if_neg (show ¬ ((Value.ref C == Value.type "builtin_function_or_method") = true) from Bool.false_ne_true)]
      refine wpAny_pure ?_
      show wpAny _ _ (classData C >>= fun cd => pure cd.name.toString) _ _ _
      exact wpAny_bind ((looks_clsIn KX hcd).at (wpAny_pure ⟨rfl, rfl⟩))
    refine wpAny_bind (wpAny_mono nmc (fun n s1 hn => ?_) fun _ _ z => z)
    obtain ⟨rfl, rfl⟩ := hn
    obtain ⟨ot, k, hto, htc, htd⟩ := ht
    have args : wpAny (model X.prog X.w) A.in1.in1 (Builtin.BaseException.bexcArgs (.ref a)) (fun r s' => r = (.ref t, [u]) ∧ s' = ⟨h, g, d, tk, os⟩) E ⟨h, g, d, tk, os⟩ := by
      unfold Builtin.BaseException.bexcArgs
      refine wpAny_bind (wpAny_field ha rfl rfl (wpAny_bind (wpAny_seqItems hto htd ?_)))
      exact wpAny_pure ⟨rfl, rfl⟩
    refine wpAny_bind (wpAny_mono args (fun n s1 hn => ?_) fun _ _ z => z)
    obtain ⟨rfl, rfl⟩ := hn
    refine wpAny_bind (wpAny_rule ?_)
    rw [hnm]
    obtain ⟨bs, _, rk⟩ := ReprK.of_reads (prog := X.prog) (w := X.w) r hs hsm (by rw [sizeLine_eq]; omega)
    have l1 : (("(" : Str)).length = 1 := by rw [PySem.ofString_length]; rfl
    have l2 : ((")" : Str)).length = 1 := by rw [PySem.ofString_length]; rfl
    refine wpAny_bind (rk (0 + (c.length + 1)) (by rw [sizeLine_eq]; omega) A.in1.in1 [] E ⟨h, g, d, tk, os⟩ _ hg (fun b _ => Clear.nil b) (by show A.units + 1 + 1 + p.depth < cLine; omega) (fun _ _ z => z) fun h' tk' k => ?_)
    refine wpAny_bind (wpAny_mkStr ?_ (by
      show (c ++ Str.ofString "(" ++ p.shown ++ Str.ofString ")").length ≤ sizeLine
      rw [strLen_append, strLen_append, strLen_append, sizeLine_eq]; omega))
    exact wpAny_pure ⟨_, _, rfl, hq h' _ _ k⟩
  have fin : wpAny (model X.prog X.w) A.in1 (call (.builtin "BaseException.__repr__") ([.ref a] ++ []) >>= fun v => pure (some v)) (fun r s' => ∃ m w, r = some (.str m w) ∧ Q (.str m w) s') E ⟨h, g, d, tk, os⟩ :=
    wpAny_bind (wpAny_mono key (fun v s' ⟨m, w, e, q⟩ => wpAny_pure ⟨m, w, by rw [e], q⟩) fun _ _ z => z)
  have mid : wpAny (model X.prog X.w) A.in1 (callSpecialIfBound? (.ref a) (Str.ofString "__repr__") []) (fun r s' => ∃ m w, r = some (.str m w) ∧ Q (.str m w) s') E ⟨h, g, d, tk, os⟩ := by
    simp only [callSpecialIfBound?, bindSpecialIfBound?]
    unfold specialOf
    refine wpAny_holding (wpAny_bind (wpAny_bind (wpAny_bind (L0.at (L1.at ?_)))))
    simp only [PySem.F.excStr_ValueError.repr.bind]
    refine wpAny_bind (wpAny_askSetting (wpAny_ite ?_))
    split
    · exact wpAny_bind (wpAny_pure (wpAny_pure fin))
    · exact wpAny_tryCatch (wpAny_bind (wpAny_pure (wpAny_pure fin)))
  refine wpAny_bind (wpAny_mono mid (fun r s' hr => ?_) fun _ _ z => z)
  obtain ⟨m, w, rfl, q⟩ := hr
  refine wpAny_bind (wpAny_isInstance (typeIs_str _ _ _) isSubtype_str_str ?_)
  first
    | exact wpAny_pure ⟨_, rfl, q⟩
    | (rw [if_pos rfl]; exact wpAny_pure ⟨_, rfl, q⟩)
    | (simp only [if_true]; exact wpAny_pure ⟨_, rfl, q⟩)
theorem repr_ok (hK : W.K = X.K) (hX : ∀ c C, W.cl c = some C → XIs X.K C c) (hg : X.A.guards = some []) (hu : X.A.units + 200 < cLine) : CallR X (.builtin "repr") (fun xs H Q => rV W .repr xs H Q) := by
  intro pins s σ H xs us Q I r h
  obtain ⟨HF, x, d, d', rfl, sub, ra, e, o⟩ := one_of h
  obtain ⟨z, e1, rfl⟩ := Option.map_eq_some_iff.mp (show d.reprD.map Dv.str = some d' from e)
  have ra := ra.rep sub
  cases r with
  | cons ru rr =>
    cases rr
    have plainCase : ∀ {d : Dv}, (d.lookP.bind fun p => if Dv.shows p then some p.shown else none) = some z → Rep W H x d → wpAny (model X.prog X.w) X.A (call (.builtin "repr") [_]) (EP X pins σ Q) X.xe s := fun {d} e ra => by
      obtain ⟨p, e2, e3⟩ := Option.bind_eq_some_iff.mp e
      obtain ⟨e4, rfl⟩ := if_some e3
      obtain ⟨as, rd, hm⟩ := lookP_reads hK I e2 ra ru
      exact repr_data hg hu I rd hm e4 (out_v o (.str _))
    cases d with
    | exc c v =>
      obtain ⟨p, e2, e3⟩ := Option.bind_eq_some_iff.mp (show (v.lookP.bind fun p => if (Dv.shows p && decide (c.length ≤ 1000) && decide (p.shown.length ≤ 1000000)) = true then some (c ++ ("(" : Str) ++ p.shown ++ (")" : Str)) else none) = some z from e1)
      obtain ⟨e4, rfl⟩ := if_some e3
      simp only [Bool.and_eq_true, decide_eq_true_eq] at e4
      obtain ⟨⟨e5, e6⟩, e7⟩ := e4
      unfold Dv.shows at e5
      simp only [Bool.and_eq_true, decide_eq_true_eq] at e5
      cases ra with
      | @exc a _ C t dx w _ hc h1 h2 h3 rw' =>
        cases ru
        obtain ⟨c2, ha⟩ := exc_at I h1
        obtain ⟨_, its, rv, ot, ho, hcl, n, hd⟩ := I.hok t _ h2
        obtain ⟨mA, ⟨ox, _, _, hox, _⟩, _⟩ := I.hok dx _ h3
        cases rv with
        | cons rv rvr =>
          cases rvr
          obtain ⟨as, rd, hm⟩ := lookP_reads hK I e2 rw' rv
          obtain ⟨hh, g, d, tk, os⟩ := s
          exact repr_exc I.kIn (hX c C hc) ha ⟨_, hox⟩ ⟨ot, n, ho, hcl, hd⟩ rd hm hg (by omega) e5.1.1 e5.2 e7 e6 fun h' w tk' k => ⟨.str _, H, I.kept (t' := tk') k, ⟨w, rfl⟩, out_v o (.str _)⟩
    | non => exact plainCase (d := .non) e1 ra
    | bl b => exact plainCase (d := .bl b) e1 ra
    | int i => exact plainCase (d := .int i) e1 ra
    | str y => exact plainCase (d := .str y) e1 ra
    | tup ys => exact plainCase (d := .tup ys) e1 ra
    | lst ys => exact plainCase (d := .lst ys) e1 ra
    | scr ns => exact plainCase (d := .scr ns) e1 ra
    | dct ks vs => exact plainCase (d := .dct ks vs) e1 ra
end
/-- the own error classes, all of them -/
structure XEnv (P : Program) (K : PySem.W.Frag) (mg : Str → Option Value) (W : Wd) : Prop where
  xis : ∀ c C, W.cl c = some C → XIs K C c
  xcl : ∀ c C, W.cl c = some C → mg c = some (.ref C) ∧ PySem.W.keepIn K (.ref C) = true ∧ ∃ fI D, XDef P K fI D ∧ XCls K fI D C
  xk : ∀ k Ck c Cc, W.cl k = some Ck → W.cl c = some Cc → kitOne K (.ref Ck) (.ref Cc) = some (decide (k = c) || decide (c = ("CreaseError" : Str)))
  xv : ∀ k Ck, W.cl k = some Ck → kitOne K (.ref Ck) (.type "ValueError") = some true
theorem XEnv.none {P : Program} {K : PySem.W.Frag} {mg : Str → Option Value} {W : Wd} (h : ∀ c, W.cl c = .none) : XEnv P K mg W :=
  ⟨fun c C e => (by rw [h c] at e; cases e), fun c C e => (by rw [h c] at e; cases e), fun c C _ _ e => (by rw [h c] at e; cases e), fun c C e => (by rw [h c] at e; cases e)⟩
end CF

set_option Elab.async false
set_option linter.all false
set_option maxRecDepth 100000
namespace CF
open PySem L2

/-! ## is a text of the small language the given Python text? -/
structure CI where
  N : List Str
  sc : Scope
  st : List (Str × NameKind)
  fn : List (Str × List Bool × Bool × List (List Str))
  gl : List (Str × Const)
  xs : List Str
  fr : Bool := false
def eqs (a b : Str) : Bool := decide (a = b)
def nmB (x : Str) : Bool := !(eqs x "__debug__") && !(eqs x "__classdict__") && !(eqs x "__name__")
def visB (c : CI) (x : Str) : Bool := match c.sc.names.lookup x with
  | some .local => true
  | some .cell => true
  | some .free => true
  | _ => false
def glbB (c : CI) (x : Str) : Bool := match c.sc.names.lookup x with
  | some .globalImplicit => true
  | _ => false
/-- x may be stored to -/
def stB (c : CI) (x : Str) : Bool := match c.sc.names.lookup x with
  | some .local => true
  | some .cell => match c.st.lookup x with
    | some .cell => true
    | _ => false
  | _ => false
def locB (c : CI) (x : Str) : Bool := match c.sc.names.lookup x with
  | some .local => true
  | _ => false
def slotB (c : CI) (i : Nat) (x : Str) : Bool := match c.N[i]? with
  | some y => eqs x y
  | none => false
def cstB : Const → Bool
  | .none => true
  | .bool _ => true
  | .int _ => true
  | .str _ => true
  | _ => false
def blkI (c : CI) (scope : Scope) : CI := { c with sc := relS scope c.sc, st := scope.names }
def ownP (c : CI) (ow : List Nat) : List (Str × Nat) := ow.map fun i => (c.N.getD i Str.empty, i)
def biName : Pr → Option Str
  | .len => some "len"
  | .int => some "int"
  | .repr => some "repr"
  | .abs => some "abs"
  | .sum => some "sum"
  | .all => some "all"
  | .any => some "any"
  | .list => some "list"
  | .tuple => some "tuple"
  | .min2 => some "min"
  | .max2 => some "max"
  | .str => some "str"
  | .sorted => some "sorted"
  | _ => none
def isE : Op → Bool
  | .e _ => true
  | .o _ => false
/-- which arguments are lent -/
def brOf : Ops → List Bool
  | .nil => []
  | .cons (.o _) as => true :: brOf as
  | .cons (.e _) as => false :: brOf as
def tgSlots : Tg → List Nat
  | .n i => [i]
  | .two a b => tgSlots a ++ tgSlots b
  | .three a b c => tgSlots a ++ (tgSlots b ++ tgSlots c)
  | .four a b c d => tgSlots a ++ (tgSlots b ++ (tgSlots c ++ tgSlots d))
/-- one lent argument at most -/
def oneLent : List Bool → Bool
  | [] => true
  | true :: r => r.all (!·)
  | false :: r => oneLent r
/-- an operand's check: is it an expression (not a slot's own list); the check -/
structure OC where
  isE : Bool
  ck : PySem.Expr → Bool
def notSlice : PySem.Expr → Bool
  | .Slice _ _ _ _ => false
  | _ => true
def allCk : List OC → List PySem.Expr → Bool
  | [], [] => true
  | a :: as, x :: xs => a.ck x && allCk as xs
  | _, _ => false
def ckBin (p : Pr) (fs : List OC) (o : Operator) (x y : PySem.Expr) : Bool := match p, fs with
  | .bin o', [a, b] => decide (o' = o) && a.ck x && b.ck y
  | _, _ => false
def ckCmp (p : Pr) (fs : List OC) (o : CmpOp) (x y : PySem.Expr) : Bool := match p, fs with
  | .cmp o', [a, b] => decide (o' = o) && !(behindInMarks o y) && a.ck x && b.ck y
  | .isN n, [a] => decide (o = if n then .IsNot else .Is) && (match y with | .Constant .none _ _ => true | _ => false) && a.isE && a.ck x
  | _, _ => false
def ckUn (p : Pr) (fs : List OC) (o : UnaryOp) (x : PySem.Expr) : Bool := match p, fs with
  | .neg, [a] => decide (o = .USub) && a.ck x
  | _, _ => false
/-- items, some of them starred -/
def allCkS : List Bool → List OC → List PySem.Expr → Bool
  | [], [], [] => true
  | true :: fl, a :: as, .Starred x _ :: xs => a.isE && a.ck x && allCkS fl as xs
  | false :: fl, a :: as, x :: xs => a.isE && a.ck x && allCkS fl as xs
  | _, _, _ => false
def ckTup (p : Pr) (fs : List OC) (es : List PySem.Expr) : Bool := match p with
  | .tup => fs.all (·.isE) && allCk fs es
  | .tupS fl => allCkS fl fs es
  | _ => false
def ckLst (p : Pr) (fs : List OC) (es : List PySem.Expr) : Bool := match p with
  | .lst => fs.all (·.isE) && allCk fs es
  | .lstS fl => allCkS fl fs es
  | _ => false
def ckSub (p : Pr) (fs : List OC) (x y : PySem.Expr) : Bool := match p, fs with
  | .ix, [a, b] => notSlice y && a.ck x && b.isE && b.ck y
  | .rev, [a] => (match y with | .Slice none none (some (.UnaryOp .USub (.Constant (.int 1) _ _) _)) _ => true | _ => false) && a.ck x
  | .sl false false, [a] => (match y with | .Slice none none none _ => true | _ => false) && a.ck x
  | .sl true false, [a, b] => (match y with | .Slice (some l) none none _ => b.ck l | _ => false) && a.ck x && b.isE
  | .sl false true, [a, b] => (match y with | .Slice none (some h) none _ => b.ck h | _ => false) && a.ck x && b.isE
  | .sl true true, [a, b, d] => (match y with | .Slice (some l) (some h) none _ => b.ck l && d.ck h | _ => false) && a.ck x && b.isE && d.isE
  | _, _ => false
def ckAttr (p : Pr) (fs : List OC) (n : Str) (x : PySem.Expr) : Bool := match p, fs with
  | .attr, [a] => eqs n "value" && (match x with | .Name _ _ => true | _ => false) && a.isE && a.ck x
  | _, _ => false
/-- range(x), range(x, y) as an argument -/
def ckRng (c : CI) (p : Pr) (fs : List OC) (e : PySem.Expr) : Bool := match p, fs with
  | .rngL1, [a] => (match e with | .Call (.Name g _) [x] [] _ => eqs g "range" && glbB c g && a.ck x | _ => false) && a.isE
  | .rngL2, [a, b] => (match e with | .Call (.Name g _) [x, y] [] _ => eqs g "range" && glbB c g && a.ck x && b.ck y | _ => false) && a.isE && b.isE
  | _, _ => false
def ckIsi (c : CI) (p : Pr) (fs : List OC) (x : PySem.Expr) (n : Str) : Bool := match p, fs with
  | .isi t, [a] => eqs n (Str.ofString (tyName t)) && glbB c n && a.isE && a.ck x
  | .isc k, [a] => eqs n k && decide (k ∈ c.xs) && glbB c n && nmB n && a.isE && a.ck x
  | .isv k, [a] => eqs n (Str.ofString k) && decide (k = "ValueError") && glbB c n && a.isE && a.ck x
  | _, _ => false
def ckMk (c : CI) (p : Pr) (fs : List OC) (f : Str) (x : PySem.Expr) : Bool := match p, fs with
  | .mk k, [a] => eqs f k && decide (k ∈ c.xs) && glbB c f && nmB f && a.isE && a.ck x
  | _, _ => false
def ckBi (c : CI) (p : Pr) (fs : List OC) (f : Str) (xs : List PySem.Expr) : Bool := (match biName p with | some b => eqs f b | none => false) && glbB c f && nmB f && allCk fs xs
def ckCall (c : CI) (p : Pr) (fs : List OC) (f : Str) (xs : List PySem.Expr) : Bool := match p with
  | .rngL1 => eqs f "list" && glbB c f && (match xs with | [e] => ckRng c p fs e | _ => false)
  | .rngL2 => eqs f "list" && glbB c f && (match xs with | [e] => ckRng c p fs e | _ => false)
  | .isi _ => eqs f "isinstance" && glbB c f && (match xs with | [x, .Name n _] => ckIsi c p fs x n | _ => false)
  | .isc _ => eqs f "isinstance" && glbB c f && (match xs with | [x, .Name n _] => ckIsi c p fs x n | _ => false)
  | .isv _ => eqs f "isinstance" && glbB c f && (match xs with | [x, .Name n _] => ckIsi c p fs x n | _ => false)
  | .mk _ => (match xs with | [x] => ckMk c p fs f x | _ => false)
  | _ => ckBi c p fs f xs
def ckDct (p : Pr) (fs : List OC) (ks : List (Option PySem.Expr)) (vs : List PySem.Expr) : Bool := match p, fs with
  | .dct0, [] => (match ks, vs with | [], [] => true | _, _ => false)
  | .dct1 k, [a] => (match ks, vs with | [some (.Constant (.str k') _ _)], [v] => eqs k k' && a.isE && a.ck v | _, _ => false)
  | _, _ => false
/-- methods of texts -/
def recv : PySem.Expr → Bool
  | .Name _ _ => true
  | .Constant _ _ _ => true
  | _ => false
def ckMeth (p : Pr) (fs : List OC) (m : Str) (x : PySem.Expr) (xs : List PySem.Expr) (ap cp : Pos) : Bool := decide (ap.endLine = cp.line) && recv x && (match p, fs, xs with
  | .join, [a, b], [y] => eqs m "join" && a.isE && a.ck x && b.isE && b.ck y
  | .upper, [a], [] => eqs m "upper" && a.isE && a.ck x
  | _, _, _ => false)
def ckLenset (c : CI) (fs : List OC) (f : Str) (xs : List PySem.Expr) : Bool := match fs, xs with
  | [a], [.Call (.Name g _) [x] [] _] => eqs f "len" && eqs g "set" && glbB c f && glbB c g && a.isE && a.ck x
  | _, _ => false
def ckCallL (c : CI) (p : Pr) (fs : List OC) (f : Str) (xs : List PySem.Expr) : Bool := match p with
  | .lenset => ckLenset c fs f xs
  | p => ckCall c p fs f xs
def chkPr (c : CI) (p : Pr) (fs : List OC) (e : PySem.Expr) : Bool := match e with
  | .BinOp x o y _ => ckBin p fs o x y
  | .Compare x [o] [y] _ => ckCmp p fs o x y
  | .UnaryOp o x _ => ckUn p fs o x
  | .Tuple es _ _ => ckTup p fs es
  | .List es _ => ckLst p fs es
  | .Subscript x y _ => ckSub p fs x y
  | .Attribute x n _ => ckAttr p fs n x
  | .Call (.Name f _) xs [] _ => (match xs with | [] => false | _ => true) && ckCallL c p fs f xs
  | .Call (.Attribute x m ap) xs [] cp => ckMeth p fs m x xs ap cp
  | .Dict ks vs _ => ckDct p fs ks vs
  | _ => false
def ckFn (c : CI) (g : Nat) (br : List Bool) (fr : Bool) (f : Str) : Bool := (match c.fn[g]? with | some n => eqs f n.1 && decide (br = n.2.1) && decide (fr = n.2.2.1) | none => false) && glbB c f && nmB f
/-- a call with keywords -/
def ckFnK (c : CI) (g : Nat) (br : List Bool) (f : Str) (names : List Str) : Bool := (match c.fn[g]? with | some n => eqs f n.1 && decide (br = n.2.1) && br.all (!·) && decide (n.2.2.1 = false) && n.2.2.2.contains names | none => false) && glbB c f && nmB f
/-- targets that the walk may have -/
def tgF : CF.It → PySem.Expr → Bool
  | .ez _ _, .Tuple _ _ _ => true
  | .ez _ _, _ => false
  | _, t => NT t
def isFresh : Ex → Bool
  | .pr .lst _ => true
  | .pr .list _ => true
  | .pr .rngL1 _ => true
  | .pr .rngL2 _ => true
  | .pr (.bin .Add) _ => true
  | .pr (.bin .Mult) _ => true
  | .pr (.sl _ _) _ => true
  | .comp _ _ _ _ _ => true
  | .callF _ _ => true
  | _ => false
mutual
def chkE (c : CI) (ir : Ex) (e : PySem.Expr) : Bool := match ir with
  | .var i => (match e with | .Name x _ => slotB c i x && visB c x && nmB x | _ => false)
  | .cst k => (match e with | .Constant k' _ _ => decide (k = k') && cstB k | _ => false)
  | .glb x k => (match e with | .Name y _ => eqs x y && glbB c y && nmB y && decide (c.gl.lookup x = some k) && cstB k | _ => false)
  | .pr p as => chkPr c p (chkFs c as) e
  | .and a b => (match e with
    | .BoolOp .And [x, y] _ => chkE c a x && chkE c b y
    | .BoolOp .And (x :: y :: z :: r) p => chkE c a x && chkE c b (.BoolOp .And (y :: z :: r) p)
    | _ => false)
  | .or a b => (match e with
    | .BoolOp .Or [x, y] _ => chkE c a x && chkE c b y
    | .BoolOp .Or (x :: y :: z :: r) p => chkE c a x && chkE c b (.BoolOp .Or (y :: z :: r) p)
    | _ => false)
  | .not a => (match e with | .UnaryOp .Not x _ => chkE c a x | _ => false)
  | .ite t a b => (match e with | .IfExp x y z _ => chkE c t x && chkE c a y && chkE c b z | _ => false)
  | .chain o1 o2 a b d => (match e with | .Compare x [p1, p2] [y, z] _ => !(lastMarks [p1, p2] [y, z]) && decide (o1 = p1) && decide (o2 = p2) && chkO c a x && chkO c b y && chkO c d z && isE a && isE b && isE d | _ => false)
  | .call g as => (match e with | .Call (.Name f _) (x :: xs) [] _ => ckFn c g (brOf as) false f && allCk (chkFs c as) (x :: xs) | _ => false)
  | .callK g as ks names => (match e with | .Call (.Name f _) xs kws _ => ckFnK c g (brOf as ++ brOf ks) f names && allCk (chkFs c as) xs && allCk (chkFs c ks) (kws.map (·.value)) && decide (kws.map (·.arg) = names.map some) | _ => false)
  | .callF g as => (match e with | .Call (.Name f _) (x :: xs) [] _ => ckFn c g (brOf as) true f && allCk (chkFs c as) (x :: xs) | _ => false)
  | .callT g a => (match e with | .Call (.Name f _) [x] [] _ => ckFn c g [true] false f && isFresh a && chkE c a x | _ => false)
  | .dget i k => (match e with | .Subscript (.Name x _) y _ => slotB c i x && visB c x && nmB x && notSlice y && chkE c k y | _ => false)
  | .din neg i k => (match e with | .Compare x [o] [.Name y py] _ => decide (o = if neg then .NotIn else .In) && !(behindInMarks o (.Name y py)) && slotB c i y && visB c y && nmB y && chkE c k x | _ => false)
  | .comp elt tg it ifs ow => (match e with
    | .ListComp e [⟨t, i, fs, 0⟩] scope _ => decide (fs.length ≤ 1) && (tgSlots tg).all (ow.contains ·) && tgF it t && chkI c it i && blkC c.N c.sc scope (ownP c ow) && chkG (blkI c scope) tg t && allCk (chkTs (blkI c scope) ifs) fs && chkE (blkI c scope) elt e
    | _ => false)
def chkO (c : CI) (a : Op) (e : PySem.Expr) : Bool := match a with
  | .o i => (match e with | .Name x _ => slotB c i x && visB c x && nmB x | _ => false)
  | .e x => chkE c x e
def chkFs (c : CI) (as : Ops) : List OC := match as with
  | .nil => []
  | .cons a as => ⟨isE a, chkO c a⟩ :: chkFs c as
def chkTs (c : CI) (ts : List Ex) : List OC := match ts with
  | [] => []
  | a :: as => ⟨true, chkE c a⟩ :: chkTs c as
def chkI (c : CI) (it : It) (e : PySem.Expr) : Bool := match it with
  | .seq (.e a) => chkE c a e && (match e with | .Set _ _ _ => false | _ => true)
  | .seq (.o _) => false
  | .rng1 a => (match e with | .Call (.Name f _) [x] [] _ => eqs f "range" && glbB c f && chkE c a x | _ => false)
  | .rng2 a b => (match e with | .Call (.Name f _) [x, y] [] _ => eqs f "range" && glbB c f && chkE c a x && chkE c b y | _ => false)
  | .zip (.e a) (.e b) => (match e with | .Call (.Name f _) [x, y] [] _ => eqs f "zip" && glbB c f && chkE c a x && chkE c b y | _ => false)
  | .zip _ _ => false
  | .enum _ => false
  | .ez (.e a) (.e b) => (match e with | .Call (.Name f _) [.Call (.Name g _) [x, y] [] _] [] _ => eqs f "enumerate" && glbB c f && eqs g "zip" && glbB c g && chkE c a x && chkE c b y | _ => false)
  | .ez _ _ => false
def chkG (c : CI) (t : Tg) (e : PySem.Expr) : Bool := match t with
  | .n i => (match e with | .Name x _ => slotB c i x && stB c x | _ => false)
  | .two a b => (match e with | .Tuple [x, y] _ _ => chkG c a x && chkG c b y | _ => false)
  | .three a b d => (match e with | .Tuple [x, y, z] _ _ => chkG c a x && chkG c b y && chkG c d z | _ => false)
  | .four a b d f => (match e with | .Tuple [x, y, z, w] _ _ => chkG c a x && chkG c b y && chkG c d z && chkG c f w | _ => false)
end
/-- not a comprehension -/
def noComp : PySem.Expr → Bool
  | .ListComp _ _ _ _ => false
  | .SetComp _ _ _ _ => false
  | .DictComp _ _ _ _ _ => false
  | _ => true
def noTup : PySem.Expr → Bool
  | .Tuple _ _ _ => false
  | _ => true
/-- a tuple display that is folded to a constant for sure -/
def foldT : PySem.Expr → Bool
  | .Tuple vs _ _ => vs.all (foldedForSure 8)
  | _ => false
def isStar : PySem.Expr → Bool
  | .Starred _ _ => true
  | _ => false
/-- a, b = x, y with plain local names on one line -/
def parB (c : CI) (x y : Str) (px py : Pos) (a b : PySem.Expr) : Bool := decide (c.sc.kind = .function) && !(eqs x y) && locB c x && locB c y && decide (py.line = px.line) && !(isStar a) && !(isStar b) && !(foldedForSure 8 a && foldedForSure 8 b) && !(constantsAlone 8 a && constantsAlone 8 b)
mutual
def chkS (c : CI) (s : Sm) (st : PySem.Stmt) : Bool := match s with
  | .set tg e => (match st with
    | .Assign [t] v _ => chkE c e v && chkG c tg t && (match t with | .Name _ _ => true | (.Tuple _ _ _) => noTup v || foldT v | _ => false)
    | _ => false)
  | .own i e => (match st with
    | .Assign [.Name x _] v _ => slotB c i x && stB c x && isFresh e && chkE c e v
    | _ => false)
  | .par ts es => (match ts, es, st with
    | [(i, o1), (j, false)], [e1, e2], .Assign [.Tuple [.Name x px, .Name y py] _ _] (.Tuple [a, b] _ _) _ => slotB c i x && slotB c j y && parB c x y px py a b && chkE c e1 a && chkE c e2 b && (!o1 || isFresh e1)
    | _, _, _ => false)
  | .dnew i => (match st with | .Assign [.Name x _] (.Dict [] [] _) _ => slotB c i x && stB c x | _ => false)
  | .dput i k e => (match st with
    | .Assign [.Subscript (.Name x _) y _] v _ => slotB c i x && visB c x && nmB x && notSlice y && noTup v && noComp v && chkE c k y && chkE c e v
    | _ => false)
  | .aug i o e => (match st with
    | .AugAssign (.Name x _) o' v _ => slotB c i x && stB c x && visB c x && nmB x && decide (o = o') && chkE c e v
    | _ => false)
  | .put i k e => (match st with
    | .Assign [.Subscript (.Name x _) y _] v _ => slotB c i x && visB c x && nmB x && notSlice y && noTup v && noComp v && chkE c k y && chkE c e v
    | _ => false)
  | .app i e => (match st with
    | .Expr (.Call (.Attribute (.Name x _) m ap) [v] [] cp) _ => slotB c i x && visB c x && nmB x && eqs m "append" && decide (ap.endLine = cp.line) && chkE c e v
    | _ => false)
  | .ext _ _ => false
  | .ex e => (match st with | .Expr v _ => noComp v && chkE c e v | _ => false)
  | .ret e => (match st with | .Return (some v) _ => (!c.fr || isFresh e) && chkE c e v | _ => false)
  | .retN => (match st with | .Return none _ => !c.fr | _ => false)
  | .ite t a b => (match st with | .If x y z _ => chkE c t x && chkSs c a y && chkSs c b z | _ => false)
  | .for_ tg it b => (match st with | .For t i y [] _ => tgF it t && chkI c it i && chkG c tg t && chkSs c b y | _ => false)
  | .while_ t b => (match st with | .While x y [] _ => chkE c t x && chkSs c b y | _ => false)
  | .brk => (match st with | .Break _ => true | _ => false)
  | .cont => (match st with | .Continue _ => true | _ => false)
  | .pass => (match st with | .Pass _ => true | _ => false)
  | .never => true
def chkSs (c : CI) (ss : Sms) (sts : List PySem.Stmt) : Bool := match ss with
  | .nil => (match sts with | [] => true | _ => false)
  | .cons s ss => (match sts with | x :: xs => chkS c s x && chkSs c ss xs | [] => false)
end
end CF

set_option Elab.async false
set_option linter.all false
set_option maxRecDepth 100000
namespace CF
open PySem PySem.Spec PyProof.Rows L2

/-! ## what a def promises of data -/
def ArgOks (W : Wd) (HF H : Hp) : List Bool → List V → List Dv → Prop
  | [], [], [] => True
  | true :: r, v :: vs, d :: ds => (∃ p us xs, v = .ref p ∧ d = .lst xs ∧ H p = some (.lst us) ∧ Reps W HF us xs ∧ HF p = none) ∧ ArgOks W HF H r vs ds
  | false :: r, v :: vs, d :: ds => Rep W HF v d ∧ ArgOks W HF H r vs ds
  | _, _, _ => False
def lentA : List Bool → List V → Option Addr
  | true :: _, .ref p :: _ => some p
  | false :: r, _ :: vs => lentA r vs
  | _, _ => none
def BackOk (W : Wd) (HF H : Hp) : Option Addr → List (List Dv) → Prop
  | some p, [ys] => ∃ us, H p = some (.lst us) ∧ Reps W HF us ys ∧ HF p = none
  | none, [] => True
  | _, _ => False
def spF (W : Wd) (g : List Dv → Option (Dv × List (List Dv))) (br : List Bool) : Sp := fun vs H Q _ => ∃ HF ds d outs, Same HF H ∧ ArgOks W HF H br vs ds ∧ g ds = some (d, outs) ∧
  ∀ v H' HF', Same HF HF' → Same HF' H' → (∀ a o, H a = some o → lentA br vs ≠ some a → H' a = some o) → (∀ a o, HF' a = some o → HF a = some o ∨ H a = none) → Rep W HF' v d → BackOk W HF' H' (lentA br vs) outs → Q v H'

/-- .. that gives a new list -/
def spG (W : Wd) (g : List Dv → Option (Dv × List (List Dv))) (br : List Bool) : Sp := fun vs H Q _ => ∃ HF ds ys outs, Same HF H ∧ ArgOks W HF H br vs ds ∧ g ds = some (.lst ys, outs) ∧
  ∀ q us H' HF', Same HF HF' → Same HF' H' → (∀ a o, H a = some o → lentA br vs ≠ some a → H' a = some o) → (∀ a o, HF' a = some o → HF a = some o ∨ H a = none) → H q = none → H' q = some (.lst us) → Reps W HF' us ys → HF' q = none → BackOk W HF' H' (lentA br vs) outs → Q (.ref q) H'
def spM (m : Bool) (W : Wd) (g : List Dv → Option (Dv × List (List Dv))) (br : List Bool) : Sp := if m then spG W g br else spF W g br

def cstV : Const → V
  | .bool b => .bl b
  | .int i => .int i
  | .str s => .str s
  | _ => .non
def bis : List Str := ["len", "int", "repr", "abs", "sum", "all", "any", "list", "tuple", "min", "max", "range", "isinstance", "str", "bool", "dict", "ValueError", "super", "set", "sorted", "zip", "enumerate"]
structure CallOk (X : Cx) (W : Wd) (g : List Dv → Option (Dv × List (List Dv))) (n : Str) (br : List Bool) (m : Bool) (kss : List (List Str)) : Prop where
  ex : ∃ (k : Nat) (f : Addr) (fd : FuncData) (ps : List Str), X.mg n = some (.ref f) ∧ PySem.W.keepIn X.K (.ref f) = true ∧ Binds X.K fd ps [] ∧ FnG X.prog X.w X.K X.mg X.base CX0 k f fd ps (spM m W g br) ∧ RoomG k X.A ∧ br.length = ps.length ∧ ∀ ks ∈ kss, KB X.K fd ps ks
  one : oneLent br = true
structure CtxOk (X : Cx) (c : CI) (Γ : Tab) (W : Wd) : Prop where
  N : X.N = c.N
  nd : c.N.Nodup
  sc : X.env.scope = c.sc
  K : W.K = X.K
  hP : W.P = X.prog
  hw : W.w = X.w
  calm : X.calm = true
  hu : X.A.units + 200 < cLine
  hg : X.A.guards = some []
  stn : ∀ x, c.st.lookup x = some .cell → X.fn x = true
  dp : X.A.depth + 1 < recursionLimit
  x : XEnv X.prog X.K X.mg W
  xs : ∀ k ∈ c.xs, (W.cl k).isSome = true
  bi : ∀ x ∈ bis, X.mg x = none
  gl : ∀ x k, c.gl.lookup x = some k → ∃ u, X.mg x = some u ∧ RelV (cstV k) u
  fns : ∀ g n, c.fn[g]? = some n → CallOk X W (Γ g) n.1 n.2.1 n.2.2.1 n.2.2.2

theorem eqs_eq {a b : Str} (h : eqs a b = true) : a = b := of_decide_eq_true h
theorem nmB_dbg {x : Str} (h : nmB x = true) : (x == ("__debug__" : Str)) = false ∧ (x == ("__classdict__" : Str)) = false ∧ x ≠ "__name__" := by
  unfold nmB at h
  simp only [Bool.and_eq_true, Bool.not_eq_true'] at h
  refine ⟨beq_eq_false_iff_ne.mpr (of_decide_eq_false h.1.1), beq_eq_false_iff_ne.mpr (of_decide_eq_false h.1.2), of_decide_eq_false h.2⟩
section
variable {X : Cx} {c : CI} {Γ : Tab} {W : Wd}
theorem CtxOk.vis (C : CtxOk X c Γ W) {x : Str} (h : visB c x = true) : Vis X.env.scope x := by
  unfold visB at h
  rw [← C.sc] at h
  split at h
  · rename_i e
    exact .inl e
  · rename_i e
    exact .inr (.inl e)
  · rename_i e
    exact .inr (.inr e)
  · cases h
theorem CtxOk.glb (C : CtxOk X c Γ W) {x : Str} (h : glbB c x = true) : Gl X x := by
  unfold glbB at h
  rw [← C.sc] at h
  split at h
  · rename_i e
    exact e
  · cases h
theorem CtxOk.slot (C : CtxOk X c Γ W) {x : Str} {i : Nat} (h : slotB c i x = true) : X.N[i]? = some x := by
  unfold slotB at h
  rw [← C.N] at h
  split at h
  · rename_i y e
    rw [e, eqs_eq h]
  · cases h
theorem CtxOk.sto (C : CtxOk X c Γ W) {x : Str} (h : stB c x = true) : Loc X.env.scope x ∧ (X.fn x = true ∨ X.env.scope.names.lookup x = some .local) := by
  unfold stB at h
  rw [← C.sc] at h
  split at h
  · rename_i e
    exact ⟨.inl e, .inr e⟩
  · rename_i e
    split at h
    · rename_i e2
      exact ⟨.inr e, .inl (C.stn x e2)⟩
    · cases h
  · cases h
theorem CtxOk.blk (C : CtxOk X c Γ W) (s : Shared) (H : Hp) (scope : Scope) (C' : Addr) (cl : List (Str × Addr)) (fp : List Addr) : CtxOk (X.blk s H scope (compEnvC scope cl C' X.env) fp) (blkI c scope) Γ W where
  N := C.N
  nd := C.nd
  sc := by
    show relS scope X.env.scope = relS scope c.sc
    rw [C.sc]
  K := C.K
  hP := C.hP
  hw := C.hw
  calm := C.calm
  hu := C.hu
  hg := C.hg
  stn := fun x h => by
    show (scope.names.lookup x == some .cell) = true
    have h' : scope.names.lookup x = some .cell := h
    rw [h']
    rfl
  dp := C.dp
  x := C.x
  xs := C.xs
  bi := C.bi
  gl := C.gl
  fns := fun g n e => ⟨(C.fns g n e).ex, (C.fns g n e).one⟩
end

/-! ### what is to be shown of a text's parts -/
def starOk (e : Expr) : Prop := ∀ (es : List Expr) (env : PySem.Env), starEach (e :: es) env = (false, eval e env) :: starEach es env
/-- an expression -/
structure SE (F : Fx) (Γ : Tab) (x : Ex) : Prop where
  pe : ∀ (c : CI) (X : Cx) (e : Expr), chkE c x e = true → CtxOk X c Γ F.W → PE X e (tE F Γ x)
  pt : ∀ (c : CI) (X : Cx) (e : Expr), chkE c x e = true → CtxOk X c Γ F.W → PT X e (tT F Γ x)
  pw : ∀ (c : CI) (X : Cx) (op : BoolOp) (es : List Expr) (p : Pos), chkE c x (.BoolOp op es p) = true → CtxOk X c Γ F.W → PW X (.BoolOp op es p) (tT F Γ x)
  pf : ∀ (c : CI) (X : Cx) (e : Expr), chkE c x e = true → CtxOk X c Γ F.W → isFresh x = true → PE X e (tF F Γ x)
def SO (F : Fx) (Γ : Tab) (a : Op) : Prop := ∀ (c : CI) (X : Cx) (e : Expr), chkO c a e = true → CtxOk X c Γ F.W → PE X e (tO F Γ a)
def AllO (P : Op → Prop) : Ops → Prop
  | .nil => True
  | .cons a as => P a ∧ AllO P as

theorem chkPr_star {c : CI} {p : Pr} {fs : List OC} {v : Expr} {pos : Pos} : chkPr c p fs (.Starred v pos) = false := rfl
theorem chkE_star {c : CI} {x : Ex} {e : Expr} (h : chkE c x e = true) : starOk e := by
  cases e with
  | Starred v pos =>
    exfalso
    cases x <;> first | cases h | (rw [chkE] at h; cases h)
  | _ => exact fun _ _ => rfl
theorem chkO_star {c : CI} {a : Op} {e : Expr} (h : chkO c a e = true) : starOk e := by
  cases a with
  | o i =>
    cases e with
    | Starred v pos => 
      unfold chkO at h
      cases h
    | _ => exact fun _ _ => rfl
  | e x =>
    rw [chkO] at h
    exact chkE_star h
theorem chkFs_cons {c : CI} {as : Ops} {f : OC} {fs : List OC} (h : chkFs c as = f :: fs) : ∃ a r, as = .cons a r ∧ f = ⟨isE a, chkO c a⟩ ∧ chkFs c r = fs := by
  cases as with
  | nil =>
    rw [chkFs] at h
    cases h
  | cons a r =>
    rw [chkFs] at h
    cases h
    exact ⟨a, r, rfl, rfl, rfl⟩
theorem chkFs_nil {c : CI} {as : Ops} (h : chkFs c as = []) : as = .nil := by
  cases as with
  | nil => rfl
  | cons a r =>
    rw [chkFs] at h
    cases h
theorem chkFs_one {c : CI} {as : Ops} {f : OC} (h : chkFs c as = [f]) : ∃ a, as = .cons a .nil ∧ f = ⟨isE a, chkO c a⟩ := by
  obtain ⟨a, r, rfl, rfl, h2⟩ := chkFs_cons h
  obtain rfl := chkFs_nil h2
  exact ⟨a, rfl, rfl⟩
theorem chkFs_two {c : CI} {as : Ops} {f g : OC} (h : chkFs c as = [f, g]) : ∃ a b, as = .cons a (.cons b .nil) ∧ f = ⟨isE a, chkO c a⟩ ∧ g = ⟨isE b, chkO c b⟩ := by
  obtain ⟨a, r, rfl, rfl, h2⟩ := chkFs_cons h
  obtain ⟨b, rfl, rfl⟩ := chkFs_one h2
  exact ⟨a, b, rfl, rfl, rfl⟩
theorem chkFs_three {c : CI} {as : Ops} {f g k : OC} (h : chkFs c as = [f, g, k]) : ∃ a b d, as = .cons a (.cons b (.cons d .nil)) ∧ f = ⟨isE a, chkO c a⟩ ∧ g = ⟨isE b, chkO c b⟩ ∧ k = ⟨isE d, chkO c d⟩ := by
  obtain ⟨a, r, rfl, rfl, h2⟩ := chkFs_cons h
  obtain ⟨b, d, rfl, rfl, rfl⟩ := chkFs_two h2
  exact ⟨a, b, d, rfl, rfl, rfl, rfl⟩
theorem allCk_star {c : CI} : ∀ {as : Ops} {es : List Expr}, allCk (chkFs c as) es = true → ∀ e ∈ es, starOk e
  | .nil, [], _, _, h => (List.not_mem_nil h).elim
  | .cons a as, x :: xs, h, e, he => by
    rw [chkFs, allCk, Bool.and_eq_true] at h
    rcases List.mem_cons.mp he with rfl | he
    · exact chkO_star h.1
    · exact allCk_star h.2 e he
  | .nil, _ :: _, h, _, _ => by
    rw [chkFs] at h
    cases h
  | .cons _ _, [], h, _, _ => by
    rw [chkFs] at h
    cases h
theorem any_back {pos : Pos} {env : PySem.Env} : ∀ {es : List Expr}, (∀ e ∈ es, starOk e) → (backTo pos (starEach es env)).any (·.1) = false
  | [], _ => rfl
  | e :: es, h => by
    rw [h e List.mem_cons_self es env]
    show (false || (backTo pos (starEach es env)).any (·.1)) = false
    rw [any_back fun x hx => h x (List.mem_cons_of_mem _ hx)]
    rfl
section
variable {F : Fx} {Γ : Tab} {c : CI} {X : Cx}
/-- an argument list -/
theorem pa_ok (C : CtxOk X c Γ F.W) : ∀ {as : Ops} {es : List Expr}, AllO (SO F Γ) as → allCk (chkFs c as) es = true → PA X es (tOs F Γ as)
  | .nil, [], _, _ => CF.PA.weaken pa_nil fun _ _ _ h => tOs_nil h
  | .cons a as, x :: xs, hs, h => by
    rw [chkFs, allCk, Bool.and_eq_true] at h
    exact CF.PA.weaken (pa_cons (hs.1 c X x h.1 C) (pa_ok C hs.2 h.2) (chkO_star h.1 xs X.env)) fun _ _ _ h => tOs_cons h
  | .nil, _ :: _, _, h => by
    rw [chkFs] at h
    cases h
  | .cons _ _, [], _, h => by
    rw [chkFs] at h
    cases h
end
/-! ### argument lists with stars -/
def tSt (F : Fx) (Γ : Tab) (fl : List Bool) (as : Ops) : TA := fun σ H Q => ∃ HF η ds η' zs, SR F HF σ H η ∧ evOs Γ as η = some (ds, η') ∧ starD fl ds = some zs ∧ zs.length ≤ sizeLine ∧ ∀ vs H' HF', SR F HF' σ H' η' → Stp σ HF H η HF' H' η' → Reps F.W HF' vs zs → Q vs H'
theorem starD_star {fl : List Bool} {d : Dv} {ds zs : List Dv} (e : starD (true :: fl) (d :: ds) = some zs) : ∃ ys ws, itOf d = some ys ∧ starD fl ds = some ws ∧ zs = ys ++ ws := by
  rw [starD] at e
  split at e
  · rename_i ys ws e1 e2
    cases e
    exact ⟨ys, ws, e1, e2, rfl⟩
  · cases e
section
variable {F : Fx} {Γ : Tab} {c : CI} {X : Cx}
theorem pas_ok (C : CtxOk X c Γ F.W) : ∀ {fl : List Bool} {as : Ops} {es : List PySem.Expr}, AllO (SO F Γ) as → allCkS fl (chkFs c as) es = true → PA X es (tSt F Γ fl as)
  | fl, .nil, es, _, h => by
    rw [chkFs] at h
    cases fl with
    | nil =>
      cases es with
      | nil =>
        refine CF.PA.weaken pa_nil fun σ H Q q => ?_
        obtain ⟨HF, η, ds, η', zs, S, e1, e2, _, k⟩ := q
        rw [evOs] at e1
        cases e1
        cases e2
        exact k [] H HF S .refl .nil
      | cons _ _ => cases h
    | cons b _ => cases b <;> cases h
  | fl, .cons a as, es, hs, h => by
    rw [chkFs] at h
    cases fl with
    | nil => cases h
    | cons b fl =>
      cases es with
      | nil => cases b <;> cases h
      | cons x xs =>
        cases b with
        | false =>
          have h' : (isE a && chkO c a x && allCkS fl (chkFs c as) xs) = true := by
            cases x <;> exact h
          simp only [Bool.and_eq_true] at h'
          obtain ⟨⟨h0, h1⟩, h2⟩ := h'
          refine CF.PA.weaken (pa_cons (hs.1 c X x h1 C) (pas_ok C hs.2 h2) (chkO_star h1 xs X.env)) fun σ H Q q => ?_
          obtain ⟨HF, η, ds, η', zs, S, e1, e2, hz, k⟩ := q
          cases a with
          | o i => cases h0
          | e y =>
            rw [evOs] at e1
            split at e1
            · cases e1
            rename_i d η1 ev1
            split at e1
            · cases e1
            rename_i ds1 η2 ev2
            cases e1
            obtain ⟨ws, e3, rfl⟩ := Option.map_eq_some_iff.mp (show (starD fl ds1).map (d :: ·) = some zs from e2)
            rw [List.length_cons] at hz
            exact ⟨HF, η, d, η1, S, ev1, fun v H1 HF1 S1 s1 r1 => ⟨HF1, η1, ds1, _, ws, S1, ev2, e3, by omega, fun vs H2 HF2 S2 s2 r2 => k (v :: vs) H2 HF2 S2 (s1.trans s2) (.cons (Rep.mono s2.f r1) r2)⟩⟩
        | true =>
          cases x with
          | Starred x sp =>
            have h' : (isE a && chkO c a x && allCkS fl (chkFs c as) xs) = true := h
            simp only [Bool.and_eq_true] at h'
            obtain ⟨⟨h0, h1⟩, h2⟩ := h'
            have P1 := hs.1 c X x h1 C
            have P2 := pas_ok C hs.2 h2
            refine ⟨fun pos pins s σ H Q I q => ?_⟩
            obtain ⟨HF, η, ds, η', zs, S, e1, e2, hz, k⟩ := q
            cases a with
            | o i => cases h0
            | e y =>
              rw [evOs] at e1
              split at e1
              · cases e1
              rename_i d η1 ev1
              split at e1
              · cases e1
              rename_i ds1 η2 ev2
              cases e1
              obtain ⟨ys, ws, e3, e4, rfl⟩ := starD_star e2
              rw [List.length_append] at hz
              refine PySem.W.items_star (thn (P1.run pins s σ H (fun v H1 => ∃ HF1, SR F HF1 σ H1 η1 ∧ Stp σ HF H η HF1 H1 η1 ∧ Rep F.W HF1 v d) I ⟨HF, η, d, η1, S, ev1, fun v H1 HF1 S1 s1 r1 => ⟨HF1, S1, s1, r1⟩⟩) fun v s1 ⟨y', H1, I1, ry, HF1, S1, st1, r1⟩ => ?_) rfl
              refine star_data C.K C.calm I1 S1.sub r1 ry e3 (by omega) fun vs us s2 J rv rs => ?_
              refine thn (P2.run pos pins s2 σ H1 (fun vs2 H2 => Q (vs ++ vs2) H2) J ⟨HF1, η1, ds1, _, ws, S1, ev2, e4, by omega, fun vs2 H2 HF2 S2 s2 r2 => k (vs ++ vs2) H2 HF2 S2 (st1.trans s2) ((rs.mono s2.f).append r2)⟩) fun ws2 s3 ⟨vs2, H2, I2, r2, q2⟩ => ⟨vs ++ vs2, H2, I2, rv.append r2, q2⟩
          | _ => cases h
end
end CF

set_option Elab.async false
set_option linter.all false
set_option maxRecDepth 100000
namespace CF
open PySem PySem.Spec PyProof.Rows L2

/-! ## plain operations -/
def AllE : Ops → Prop
  | .nil => True
  | .cons (.e _) as => AllE as
  | .cons (.o _) _ => False
theorem allE_of {c : CI} : ∀ {as : Ops}, ((chkFs c as).all fun f => f.isE) = true → AllE as
  | .nil, _ => trivial
  | .cons a as, h => by
    rw [chkFs, List.all_cons, Bool.and_eq_true] at h
    cases a with
    | e x =>
      show AllE as
      exact allE_of h.2
    | o i => cases h.1
theorem isE_of {a : Op} (h : isE a = true) : ∃ x, a = .e x := by
  cases a with
  | e x => exact ⟨x, rfl⟩
  | o i => cases h
section
variable {F : Fx} {Γ : Tab} {HF : Hp} {σ : L2.St} {H : Hp} {η : CF.Env}
theorem OOks.reps (S : SR F HF σ H η) : ∀ {as : Ops} {vs : List V} {ds ds' : List Dv}, AllE as → OOks F HF σ as vs ds → finOs as ds η = some ds' → Reps F.W HF vs ds'
  | .nil, [], [], ds', _, _, e => by
    cases e
    exact .nil
  | .cons a as, v :: vs, d :: ds, ds', ha, ⟨h, r⟩, e => by
    unfold finOs at e
    split at e
    · rename_i x xs e1 e2
      cases e
      cases a with
      | e y =>
        cases e1
        exact .cons h (OOks.reps S (show AllE as from ha) r e2)
      | o i => exact (show False from ha).elim
    · cases e
  | .nil, _ :: _, _, _, _, h, _ => h.elim
  | .nil, [], _ :: _, _, _, h, _ => h.elim
  | .cons _ _, [], _, _, _, h, _ => h.elim
  | .cons _ _, _ :: _, [], _, _, h, _ => h.elim
def rE (W : Wd) (p : Pr) (xs : List V) (H : Hp) (Q : VK) : Prop := ∃ HF ds d, Same HF H ∧ Reps W HF xs ds ∧ prD p ds = some d ∧ Out W HF H d Q
def rEN (W : Wd) (p : Pr) (xs : List V) (H : Hp) (Q : VK) : Prop := ∃ HF ds ys, Same HF H ∧ Reps W HF xs ds ∧ prD p ds = some (.lst ys) ∧ ∀ q vs, H q = none → Reps W HF vs ys → Q (.ref q) (upd H q (.lst vs))
theorem tE_manyE {p : Pr} {as : Ops} {Q : VK} (ha : AllE as) (h : tE F Γ (.pr p as) σ H Q) : tOs F Γ as σ H fun xs H1 => rE F.W p xs H1 Q := by
  obtain ⟨HF, η, d, η', S, e, k⟩ := h
  rw [evE] at e
  split at e
  · cases e
  · rename_i ds η1 e1
    split at e
    · cases e
    · rename_i ds' e2
      obtain ⟨d', e3, e4⟩ := Option.map_eq_some_iff.mp e
      cases e4
      exact ⟨HF, η, ds, _, S, e1, fun vs H' HF' S' s h => ⟨HF', ds', _, S'.sub, h.reps S' ha e2, e3, out_of S' fun v H2 HF2 S2 s2 r => k v H2 HF2 S2 (s.trans s2) r⟩⟩
theorem tF_manyE {p : Pr} {as : Ops} {Q : VK} (ha : AllE as) (h : tF F Γ (.pr p as) σ H Q) : tOs F Γ as σ H fun xs H1 => rEN F.W p xs H1 Q := by
  obtain ⟨HF, η, d, η', S, e, k⟩ := h
  rw [evE] at e
  split at e
  · cases e
  · rename_i ds η1 e1
    split at e
    · cases e
    · rename_i ds' e2
      obtain ⟨d', e3, e4⟩ := Option.map_eq_some_iff.mp e
      cases e4
      exact ⟨HF, η, ds, _, S, e1, fun vs H' HF' S' s h => ⟨HF', ds', _, S'.sub, h.reps S' ha e2, e3, fresh_of S' fun q vs H2 HF2 S2 s2 z => k q vs H2 HF2 S2 (s.trans s2) (s.non z)⟩⟩
theorem tT_tE {x : Ex} {Q : Bool → Hp → Prop} (h : tT F Γ x σ H Q) : tE F Γ x σ H fun v H1 => ∃ c, v = .bl c ∧ Q c H1 := by
  obtain ⟨HF, η, b, η', S, e, k⟩ := h
  refine ⟨HF, η, _, η', S, e, fun v H' HF' S' s r => ?_⟩
  cases r
  exact ⟨b, rfl, k H' HF' S' s⟩
theorem tE_three {p : Pr} {a b d : Op} {Q : VK} (h : tE F Γ (.pr p (.cons a (.cons b (.cons d .nil)))) σ H Q) : tO F Γ a σ H fun x H1 => tO F Γ b σ H1 fun y H2 => tO F Γ d σ H2 fun z H3 => rV F.W p [x, y, z] H3 Q :=
  tO_mono (tOs_cons (tE_many h)) fun _ _ z => tO_mono (tOs_cons z) fun _ _ z => tO_mono (tOs_cons z) fun _ _ z => tOs_nil z
theorem tF_three {p : Pr} {a b d : Op} {Q : VK} (h : tF F Γ (.pr p (.cons a (.cons b (.cons d .nil)))) σ H Q) : tO F Γ a σ H fun x H1 => tO F Γ b σ H1 fun y H2 => tO F Γ d σ H2 fun z H3 => rN F.W p [x, y, z] H3 Q :=
  tO_mono (tOs_cons (tF_many h)) fun _ _ z => tO_mono (tOs_cons z) fun _ _ z => tO_mono (tOs_cons z) fun _ _ z => tOs_nil z
end
theorem Reps.int1 {W : Wd} {H : Hp} {v : V} {d : Dv} {i : Int} (e : asInt d = some i) {HF : Hp} (r : RepL W HF H v d) : v = .int i := by
  cases d <;> cases e
  exact r.int_of
section
variable {W : Wd} {H : Hp} {Q : VK} {x y z : V}
theorem sl_00 (h : rV W (.sl false false) [x] H Q) : rS W x none none H Q := by
  obtain ⟨HF, a, d, sub, r, e, o⟩ := rV_one h
  exact ⟨HF, a, d, sub, r, e, o⟩
theorem sl_00N (h : rN W (.sl false false) [x] H Q) : rSN W x none none H Q := by
  obtain ⟨HF, a, d, sub, r, e, o⟩ := rN_one h
  exact ⟨HF, a, d, sub, r, e, o⟩
theorem sl_10 (h : rV W (.sl true false) [x, y] H Q) : ∃ i, y = .int i ∧ rS W x (some i) none H Q := by
  obtain ⟨HF, a, b, d, sub, r, r2, e, o⟩ := rV_two h
  obtain ⟨i, e1, e2⟩ := Option.bind_eq_some_iff.mp (show ((asInt b).bind fun i => slD a (some i) none) = some d from e)
  exact ⟨i, Reps.int1 e1 r2, HF, a, d, sub, r, e2, o⟩
theorem sl_10N (h : rN W (.sl true false) [x, y] H Q) : ∃ i, y = .int i ∧ rSN W x (some i) none H Q := by
  obtain ⟨HF, a, b, d, sub, r, r2, e, o⟩ := rN_two h
  obtain ⟨i, e1, e2⟩ := Option.bind_eq_some_iff.mp (show ((asInt b).bind fun i => slD a (some i) none) = some _ from e)
  exact ⟨i, Reps.int1 e1 r2, HF, a, d, sub, r, e2, o⟩
theorem sl_01 (h : rV W (.sl false true) [x, y] H Q) : ∃ i, y = .int i ∧ rS W x none (some i) H Q := by
  obtain ⟨HF, a, b, d, sub, r, r2, e, o⟩ := rV_two h
  obtain ⟨i, e1, e2⟩ := Option.bind_eq_some_iff.mp (show ((asInt b).bind fun i => slD a none (some i)) = some d from e)
  exact ⟨i, Reps.int1 e1 r2, HF, a, d, sub, r, e2, o⟩
theorem sl_01N (h : rN W (.sl false true) [x, y] H Q) : ∃ i, y = .int i ∧ rSN W x none (some i) H Q := by
  obtain ⟨HF, a, b, d, sub, r, r2, e, o⟩ := rN_two h
  obtain ⟨i, e1, e2⟩ := Option.bind_eq_some_iff.mp (show ((asInt b).bind fun i => slD a none (some i)) = some _ from e)
  exact ⟨i, Reps.int1 e1 r2, HF, a, d, sub, r, e2, o⟩
theorem rV_three {p : Pr} (h : rV W p [x, y, z] H Q) : ∃ HF a b c d, Same HF H ∧ RepL W HF H x a ∧ RepL W HF H y b ∧ RepL W HF H z c ∧ prD p [a, b, c] = some d ∧ Out W HF H d Q := by
  obtain ⟨HF, ds, d, sub, rs, q, o⟩ := h
  match ds, rs with
  | [a, b, c], rs => exact ⟨HF, a, b, c, d, sub, rs.1, rs.2.1, rs.2.2.1, q, o⟩
theorem rN_three {p : Pr} (h : rN W p [x, y, z] H Q) : ∃ HF a b c ys, Same HF H ∧ RepL W HF H x a ∧ RepL W HF H y b ∧ RepL W HF H z c ∧ prD p [a, b, c] = some (.lst ys) ∧ ∀ q vs, H q = none → Reps W HF vs ys → Q (.ref q) (upd H q (.lst vs)) := by
  obtain ⟨HF, ds, d, sub, rs, q, o⟩ := h
  match ds, rs with
  | [a, b, c], rs => exact ⟨HF, a, b, c, d, sub, rs.1, rs.2.1, rs.2.2.1, q, o⟩
theorem sl_11 (h : rV W (.sl true true) [x, y, z] H Q) : ∃ i, y = .int i ∧ ∃ j, z = .int j ∧ rS W x (some i) (some j) H Q := by
  obtain ⟨HF, a, b, c, d, sub, r, r2, r3, e, o⟩ := rV_three h
  obtain ⟨i, e1, e2⟩ := Option.bind_eq_some_iff.mp (show ((asInt b).bind fun i => (asInt c).bind fun j => slD a (some i) (some j)) = some d from e)
  obtain ⟨j, e3, e4⟩ := Option.bind_eq_some_iff.mp e2
  exact ⟨i, Reps.int1 e1 r2, j, Reps.int1 e3 r3, HF, a, d, sub, r, e4, o⟩
theorem sl_11N (h : rN W (.sl true true) [x, y, z] H Q) : ∃ i, y = .int i ∧ ∃ j, z = .int j ∧ rSN W x (some i) (some j) H Q := by
  obtain ⟨HF, a, b, c, d, sub, r, r2, r3, e, o⟩ := rN_three h
  obtain ⟨i, e1, e2⟩ := Option.bind_eq_some_iff.mp (show ((asInt b).bind fun i => (asInt c).bind fun j => slD a (some i) (some j)) = some _ from e)
  obtain ⟨j, e3, e4⟩ := Option.bind_eq_some_iff.mp e2
  exact ⟨i, Reps.int1 e1 r2, j, Reps.int1 e3 r3, HF, a, d, sub, r, e4, o⟩
end
theorem plainIx_of {b : Expr} (h : notSlice b = true) : PlainIx b := by
  cases b <;> first | exact fun _ _ => rfl | cases h
theorem rg_reps {W : Wd} {H : Hp} (a b : Int) : Reps W H (rgV a b) ((List.range (b - a).toNat).map fun (k : Nat) => Dv.int (a + (k : Int))) := by
  have h := Reps.of_ints (W := W) (H := H) ((List.range (b - a).toNat).map fun (k : Nat) => a + (k : Int))
  rw [List.map_map, List.map_map] at h
  exact h
theorem rngD_some {a b : Int} {xs : List Dv} (h : rngD a b = some xs) : (-(2 ^ 62) ≤ a ∧ a < 2 ^ 62 ∧ -(2 ^ 62) ≤ b ∧ b < 2 ^ 62) ∧ xs = (List.range (b - a).toNat).map fun (k : Nat) => Dv.int (a + (k : Int)) := by
  unfold rngD at h
  obtain ⟨h1, h2⟩ := if_some h
  simp only [Bool.and_eq_true, decide_eq_true_eq] at h1
  exact ⟨⟨h1.1.1.1, h1.1.1.2, h1.1.2, h1.2⟩, h2.symm⟩
theorem rngL_some {a b : Int} {d : Dv} (h : rngL a b = some d) : RgOk a b ∧ d = .lst ((List.range (b - a).toNat).map fun (k : Nat) => Dv.int (a + (k : Int))) := by
  obtain ⟨xs, h1, h2⟩ := Option.bind_eq_some_iff.mp h
  obtain ⟨h3, rfl⟩ := rngD_some h1
  obtain ⟨h4, h5⟩ := if_some h2
  refine ⟨⟨h3.1, h3.2.1, h3.2.2.1, h3.2.2.2, ?_⟩, h5.symm⟩
  have := short_ok h4
  rw [List.length_map, List.length_range, sizeLine_eq] at this
  omega
section
variable {W : Wd} {H : Hp} {Q : VK} {x y z : V}
theorem rng1_ok (h : rV W .rngL1 [x] H Q) : ∃ n, x = .int n ∧ RgOk 0 n ∧ ∀ q, H q = none → Q (.ref q) (upd H q (.lst (rgV 0 n))) := by
  obtain ⟨HF, a, d, sub, r, e, o⟩ := rV_one h
  cases a <;> try cases e
  rename_i n
  obtain ⟨e1, rfl⟩ := rngL_some (show rngL 0 n = some d from e)
  exact ⟨n, r.int_of, e1, fun q hq => out_l o hq (rg_reps 0 n)⟩
theorem rng1_okN (h : rN W .rngL1 [x] H Q) : ∃ n, x = .int n ∧ RgOk 0 n ∧ ∀ q, H q = none → Q (.ref q) (upd H q (.lst (rgV 0 n))) := by
  obtain ⟨HF, a, d, sub, r, e, o⟩ := rN_one h
  cases a <;> try cases e
  rename_i n
  obtain ⟨e1, e2⟩ := rngL_some (show rngL 0 n = some _ from e)
  cases e2
  exact ⟨n, r.int_of, e1, fun q hq => o q _ hq (rg_reps 0 n)⟩
theorem rng2_ok (h : rV W .rngL2 [x, y] H Q) : ∃ i j, x = .int i ∧ y = .int j ∧ RgOk i j ∧ ∀ q, H q = none → Q (.ref q) (upd H q (.lst (rgV i j))) := by
  obtain ⟨HF, a, b, d, sub, r, r2, e, o⟩ := rV_two h
  cases a <;> cases b <;> try cases e
  rename_i i j
  obtain ⟨e1, rfl⟩ := rngL_some (show rngL i j = some d from e)
  exact ⟨i, j, r.int_of, r2.int_of, e1, fun q hq => out_l o hq (rg_reps i j)⟩
theorem rng2_okN (h : rN W .rngL2 [x, y] H Q) : ∃ i j, x = .int i ∧ y = .int j ∧ RgOk i j ∧ ∀ q, H q = none → Q (.ref q) (upd H q (.lst (rgV i j))) := by
  obtain ⟨HF, a, b, d, sub, r, r2, e, o⟩ := rN_two h
  cases a <;> cases b <;> try cases e
  rename_i i j
  obtain ⟨e1, e2⟩ := rngL_some (show rngL i j = some _ from e)
  cases e2
  exact ⟨i, j, r.int_of, r2.int_of, e1, fun q hq => o q _ hq (rg_reps i j)⟩
theorem isN_ok (neg : Bool) (h : rV W (.isN neg) [x] H Q) : Q (.bl (if neg then !decide (x = .non) else decide (x = .non))) H := by
  obtain ⟨HF, a, d, sub, r, e, o⟩ := rV_one h
  have e' : d = .bl (if neg then !isNon a else isNon a) := by
    have : some (Dv.bl (if neg then !isNon a else isNon a)) = some d := e
    cases this
    rfl
  subst e'
  have key : isNon a = decide (x = .non) := by
    rcases r with r | ⟨p, vs, xs, rfl, rfl, _⟩
    · cases r <;> simp [isNon]
    · simp [isNon]
  rw [← key]
  exact out_v o (.bl _)
end
end CF

set_option Elab.async false
set_option linter.all false
set_option maxRecDepth 100000
namespace CF
open PySem PySem.Spec PyProof.Rows L2

/-! ## each operation as an expression -/
section
variable {F : Fx} {Γ : Tab} {c : CI} {X : Cx}
theorem so_e {x : Ex} (h : SE F Γ x) : SO F Γ (.e x) := fun c X e hc C => by
  rw [chkO] at hc
  exact CF.PE.weaken (h.pe c X e hc C) fun _ _ _ => tO_e
theorem so_o (i : Nat) : SO F Γ (.o i) := fun c X e hc C => by
  cases e with
  | Name x pos =>
    unfold chkO at hc
    simp only [Bool.and_eq_true] at hc
    obtain ⟨h1, h2, _⟩ := nmB_dbg hc.2
    refine CF.PE.weaken (pe_var (C.slot hc.1.1) (C.vis hc.1.2) h1 h2) fun σ H Q h => ?_
    obtain ⟨HF, η, d, η', S, e, k⟩ := h
    rw [evO] at e
    obtain ⟨xs, e1, e2⟩ := Option.map_eq_some_iff.mp e
    cases e2
    obtain ⟨br, e3⟩ := ownL_some e1
    obtain ⟨p, vs, q, hp, r, _⟩ := S.slotL e3
    exact ⟨.ref p, q, k (.ref p) H HF S .refl q⟩
  | _ =>
    unfold chkO at hc
    cases hc
theorem ck_a {a : Op} {b : Bool} {f : PySem.Expr → Bool} (h : (⟨b, f⟩ : OC) = ⟨isE a, chkO c a⟩) : b = isE a ∧ f = chkO c a := by
  cases h
  exact ⟨rfl, rfl⟩
theorem sl11_inv {a : Op} {b d : Ex} {η η1 : CF.Env} {ds ds' : List Dv} {r : Dv} (e1 : evOs Γ (.cons a (.cons (.e b) (.cons (.e d) .nil))) η = some (ds, η1)) (e2 : finOs (.cons a (.cons (.e b) (.cons (.e d) .nil))) ds η1 = some ds') (e3 : prD (.sl true true) ds' = some r) :
    ∃ x ηa i ηb j x', evO Γ a η = some (x, ηa) ∧ evO Γ (.e b) ηa = some (.int i, ηb) ∧ evO Γ (.e d) ηb = some (.int j, η1) ∧ finO a x η1 = some x' ∧ slD x' (some i) (some j) = some r := by
  rw [evOs] at e1
  split at e1
  · cases e1
  rename_i x ηa ea
  split at e1
  · cases e1
  rename_i xs ηb eb
  cases e1
  rw [evOs] at eb
  split at eb
  · cases eb
  rename_i y ηy ey
  split at eb
  · cases eb
  rename_i ys ηz ez
  cases eb
  rw [evOs] at ez
  split at ez
  · cases ez
  rename_i z ηw ew
  split at ez
  · cases ez
  rename_i zs ηv ev
  cases ez
  rw [evOs] at ev
  cases ev
  unfold finOs at e2
  split at e2
  · rename_i x' r1 f1 f2
    cases e2
    unfold finOs at f2
    split at f2
    · rename_i y' r2 f3 f4
      cases f2
      cases f3
      unfold finOs at f4
      split at f4
      · rename_i z' r3 f5 f6
        cases f4
        cases f5
        unfold finOs at f6
        cases f6
        obtain ⟨i, e4, e5⟩ := Option.bind_eq_some_iff.mp (show ((asInt y).bind fun i => (asInt z).bind fun j => slD x' (some i) (some j)) = some r from e3)
        obtain ⟨j, e6, e7⟩ := Option.bind_eq_some_iff.mp e5
        cases y <;> cases e4
        cases z <;> cases e6
        exact ⟨x, ηa, i, ηy, j, x', ea, ey, ew, f1, e7⟩
      · cases f4
    · cases f2
  · cases e2
theorem tE_sl11 {σ : L2.St} {H : Hp} {a : Op} {b d : Ex} {Q : VK} (h : tE F Γ (.pr (.sl true true) (.cons a (.cons (.e b) (.cons (.e d) .nil)))) σ H Q) :
    tSl (rS F.W) (tO F Γ a) (tPart (tO F Γ (.e b))) (tPart (tO F Γ (.e d))) σ H Q := by
  obtain ⟨HF, η, r, η', S, e, k⟩ := h
  rw [evE] at e
  split at e
  · cases e
  · rename_i ds η1 e1
    split at e
    · cases e
    · rename_i ds' e2
      obtain ⟨d', e3, e4⟩ := Option.map_eq_some_iff.mp e
      cases e4
      obtain ⟨x, ηa, i, ηb, j, x', ea, eb, ed, ex, es⟩ := sl11_inv e1 e2 e3
      refine ⟨HF, η, x, ηa, S, ea, fun vx H1 HF1 S1 s1 o1 => ⟨HF1, ηa, .int i, ηb, S1, eb, fun vy H2 HF2 S2 s2 o2 => ?_⟩⟩
      cases (show Rep F.W HF2 vy (.int i) from o2)
      refine ⟨i, rfl, HF2, ηb, .int j, _, S2, ed, fun vz H3 HF3 S3 s3 o3 => ?_⟩
      cases (show Rep F.W HF3 vz (.int j) from o3)
      exact ⟨j, rfl, HF3, x', _, S3.sub, ((o1.mono s2.f).mono s3.f).fin S3 ex, es, out_of S3 fun v H4 HF4 S4 s4 r => k v H4 HF4 S4 (s1.trans (s2.trans (s3.trans s4))) r⟩
theorem tF_sl11 {σ : L2.St} {H : Hp} {a : Op} {b d : Ex} {Q : VK} (h : tF F Γ (.pr (.sl true true) (.cons a (.cons (.e b) (.cons (.e d) .nil)))) σ H Q) :
    tSl (rSN F.W) (tO F Γ a) (tPart (tO F Γ (.e b))) (tPart (tO F Γ (.e d))) σ H Q := by
  obtain ⟨HF, η, r, η', S, e, k⟩ := h
  rw [evE] at e
  split at e
  · cases e
  · rename_i ds η1 e1
    split at e
    · cases e
    · rename_i ds' e2
      obtain ⟨d', e3, e4⟩ := Option.map_eq_some_iff.mp e
      cases e4
      obtain ⟨x, ηa, i, ηb, j, x', ea, eb, ed, ex, es⟩ := sl11_inv e1 e2 e3
      refine ⟨HF, η, x, ηa, S, ea, fun vx H1 HF1 S1 s1 o1 => ⟨HF1, ηa, .int i, ηb, S1, eb, fun vy H2 HF2 S2 s2 o2 => ?_⟩⟩
      cases (show Rep F.W HF2 vy (.int i) from o2)
      refine ⟨i, rfl, HF2, ηb, .int j, _, S2, ed, fun vz H3 HF3 S3 s3 o3 => ?_⟩
      cases (show Rep F.W HF3 vz (.int j) from o3)
      exact ⟨j, rfl, HF3, x', _, S3.sub, ((o1.mono s2.f).mono s3.f).fin S3 ex, es, fresh_of S3 fun q vs H4 HF4 S4 s4 z => k q vs H4 HF4 S4 (s1.trans (s2.trans (s3.trans s4))) ((s1.trans (s2.trans s3)).non z)⟩
variable (C : CtxOk X c Γ F.W) {as : Ops} (hs : AllO (SO F Γ) as)
include C hs
theorem bin_e {p : Pr} {o : Operator} {x y : PySem.Expr} {pos : Pos} (h : ckBin p (chkFs c as) o x y = true) :
    PE X (.BinOp x o y pos) (tE F Γ (.pr p as)) ∧ (isFresh (.pr p as) = true → PE X (.BinOp x o y pos) (tF F Γ (.pr p as))) := by
  generalize hf : chkFs c as = fs at h
  unfold ckBin at h
  split at h
  · rename_i o' a b
    obtain ⟨a, b, rfl, rfl, rfl⟩ := chkFs_two hf
    simp only [Bool.and_eq_true, decide_eq_true_eq] at h
    obtain ⟨⟨rfl, h1⟩, h2⟩ := h
    have pa := hs.1 c X x h1 C
    have pb := hs.2.1 c X y h2 C
    refine ⟨CF.PE.weaken (pe_op (bin_ok C.K o') pa pb) fun _ _ _ => tE_two, fun hf => ?_⟩
    cases o' with
    | Add => exact CF.PE.weaken (pe_op cat_fresh pa pb) fun _ _ _ => tF_two
    | Mult => exact CF.PE.weaken (pe_op mul_fresh pa pb) fun _ _ _ => tF_two
    | _ => cases hf
  · cases h
theorem cmp_e {p : Pr} {o : CmpOp} {x y : PySem.Expr} {pos : Pos} (h : ckCmp p (chkFs c as) o x y = true) :
    PE X (.Compare x [o] [y] pos) (tE F Γ (.pr p as)) ∧ PT X (.Compare x [o] [y] pos) (tT F Γ (.pr p as)) ∧ isFresh (.pr p as) = false := by
  generalize hf : chkFs c as = fs at h
  unfold ckCmp at h
  split at h
  · rename_i o' a b
    obtain ⟨a, b, rfl, rfl, rfl⟩ := chkFs_two hf
    simp only [Bool.and_eq_true, decide_eq_true_eq, Bool.not_eq_true'] at h
    obtain ⟨⟨⟨rfl, h0⟩, h1⟩, h2⟩ := h
    have pa := hs.1 c X x h1 C
    have pb := hs.2.1 c X y h2 C
    exact ⟨CF.PE.weaken (pe_cmpR (cmp_ok C.K C.hu o') pa pb h0) fun _ _ _ => tE_two, CF.PT.weaken (pt_cmpR (cmp_ok C.K C.hu o') pa pb h0) fun _ _ _ h => tE_two (tT_tE h), rfl⟩
  · rename_i n a
    obtain ⟨a, rfl, rfl⟩ := chkFs_one hf
    simp only [Bool.and_eq_true, decide_eq_true_eq] at h
    obtain ⟨⟨⟨rfl, h0⟩, h2⟩, h1⟩ := h
    have pa := hs.1 c X x h1 C
    split at h0
    · cases n with
      | true =>
        have nb : ∀ b : PySem.Expr, behindInMarks .IsNot b = false := fun b => nobehind b (by decide) (by decide)
        exact ⟨CF.PE.weaken (pe_cmp (pc_notN pa) (nb _)) fun σ H Q h => tO_mono (tE_one h) fun v H' z => isN_ok true z, CF.PT.weaken (pt_cmp (pc_notN pa) (nb _)) fun σ H Q h => tO_mono (tE_one (tT_tE h)) fun v H' z => isN_ok true z, rfl⟩
      | false =>
        have nb : ∀ b : PySem.Expr, behindInMarks .Is b = false := fun b => nobehind b (by decide) (by decide)
        exact ⟨CF.PE.weaken (pe_cmp (pc_isN pa) (nb _)) fun σ H Q h => tO_mono (tE_one h) fun v H' z => isN_ok false z, CF.PT.weaken (pt_cmp (pc_isN pa) (nb _)) fun σ H Q h => tO_mono (tE_one (tT_tE h)) fun v H' z => isN_ok false z, rfl⟩
    · cases h0
  · cases h
theorem un_e {p : Pr} {o : UnaryOp} {x : PySem.Expr} {pos : Pos} (h : ckUn p (chkFs c as) o x = true) : PE X (.UnaryOp o x pos) (tE F Γ (.pr p as)) ∧ o = .USub ∧ isFresh (.pr p as) = false := by
  generalize hf : chkFs c as = fs at h
  unfold ckUn at h
  split at h
  · obtain ⟨a, rfl, rfl⟩ := chkFs_one hf
    simp only [Bool.and_eq_true, decide_eq_true_eq] at h
    obtain ⟨rfl, h1⟩ := h
    exact ⟨CF.PE.weaken (pe_un neg_ok (hs.1 c X x h1 C)) fun _ _ _ => tE_one, rfl, rfl⟩
  · cases h
omit C hs in
theorem rE_tup {W : Wd} {xs : List V} {H : Hp} {Q : VK} (h : rE W .tup xs H Q) : xs.length ≤ sizeLine ∧ ∀ p, H p = none → Q (.ref p) (upd H p (.tup xs)) := by
  obtain ⟨HF, ds, d, sub, r, e, o⟩ := h
  obtain ⟨e1, rfl⟩ := if_some (show (if short ds.length = true then some (Dv.tup ds) else none) = some d from e)
  rw [r.length]
  exact ⟨short_ok e1, fun p hp => out_t o hp r⟩
omit C hs in
theorem rE_lst {W : Wd} {xs : List V} {H : Hp} {Q : VK} (h : rE W .lst xs H Q) : xs.length ≤ sizeLine ∧ ∀ p, H p = none → Q (.ref p) (upd H p (.lst xs)) := by
  obtain ⟨HF, ds, d, sub, r, e, o⟩ := h
  obtain ⟨e1, rfl⟩ := if_some (show (if short ds.length = true then some (Dv.lst ds) else none) = some d from e)
  rw [r.length]
  exact ⟨short_ok e1, fun p hp => out_l o hp r⟩
omit C hs in
theorem rEN_lst {W : Wd} {xs : List V} {H : Hp} {Q : VK} (h : rEN W .lst xs H Q) : xs.length ≤ sizeLine ∧ ∀ p, H p = none → Q (.ref p) (upd H p (.lst xs)) := by
  obtain ⟨HF, ds, ys, sub, r, e, o⟩ := h
  obtain ⟨e1, e2⟩ := if_some (show (if short ds.length = true then some (Dv.lst ds) else none) = some (.lst ys) from e)
  cases e2
  rw [r.length]
  exact ⟨short_ok e1, fun p hp => o p _ hp r⟩
omit C hs in
theorem allE_S : ∀ {fl : List Bool} {as : Ops} {es : List PySem.Expr}, allCkS fl (chkFs c as) es = true → AllE as
  | fl, .nil, es, _ => trivial
  | fl, .cons a as, es, h => by
    rw [chkFs] at h
    have key : isE a = true ∧ ∃ fl' es', allCkS fl' (chkFs c as) es' = true := by
      cases fl with
      | nil => cases h
      | cons b fl =>
        cases es with
        | nil => cases b <;> cases h
        | cons x xs =>
          have h' : ∃ x', (isE a && chkO c a x' && allCkS fl (chkFs c as) xs) = true := by
            cases b with
            | false => exact ⟨x, by cases x <;> exact h⟩
            | true => cases x <;> first | exact ⟨_, h⟩ | cases h
          obtain ⟨x', h'⟩ := h'
          simp only [Bool.and_eq_true] at h'
          exact ⟨h'.1.1, fl, xs, h'.2⟩
    obtain ⟨h1, fl', es', h2⟩ := key
    cases a with
    | o i => cases h1
    | e y => exact (allE_S h2 : AllE as)
omit C hs in
theorem fin_allE {η : CF.Env} : ∀ {as : Ops} {ds ds' : List Dv}, AllE as → finOs as ds η = some ds' → ds' = ds
  | .nil, [], _, _, e => by cases e; rfl
  | .nil, _ :: _, _, _, e => by cases e
  | .cons _ _, [], _, _, e => by cases e
  | .cons a as, d :: ds, ds', ha, e => by
    cases a with
    | o i => exact (show False from ha).elim
    | e y =>
      unfold finOs at e
      split at e
      · rename_i x xs e1 e2
        cases e1
        cases e
        rw [fin_allE (show AllE as from ha) e2]
      · cases e
omit C hs in
/-- a display with stars -/
theorem tE_stars {p : Pr} {fl : List Bool} {mkD : List Dv → Dv} (hp : ∀ ds, prD p ds = (starD fl ds).bind fun xs => if short xs.length = true then some (mkD xs) else none) (ha : AllE as) {σ : L2.St} {H : Hp} {Q : VK} (h : tE F Γ (.pr p as) σ H Q) {R : List V → Hp → Prop}
    (k : ∀ vs H1 HF1 zs, Reps F.W HF1 vs zs → zs.length ≤ sizeLine → Out F.W HF1 H1 (mkD zs) Q → R vs H1) : tSt F Γ fl as σ H R := by
  obtain ⟨HF, η, d, η', S, e, kk⟩ := h
  rw [evE] at e
  split at e
  · cases e
  rename_i ds η1 e1
  split at e
  · cases e
  rename_i ds' e2
  obtain ⟨d', e3, e4⟩ := Option.map_eq_some_iff.mp e
  cases e4
  rw [fin_allE ha e2, hp] at e3
  obtain ⟨zs, e5, e6⟩ := Option.bind_eq_some_iff.mp e3
  obtain ⟨e7, rfl⟩ := if_some e6
  exact ⟨HF, η, ds, _, zs, S, e1, e5, short_ok e7, fun vs H1 HF1 S1 s1 rs => k vs H1 HF1 zs rs (short_ok e7) (out_of S1 fun v H2 HF2 S2 s2 r => kk v H2 HF2 S2 (s1.trans s2) r)⟩
theorem tup_e {p : Pr} {es : List PySem.Expr} {k : Nat} {pos : Pos} (h : ckTup p (chkFs c as) es = true) : PE X (.Tuple es k pos) (tE F Γ (.pr p as)) ∧ isFresh (.pr p as) = false := by
  unfold ckTup at h
  split at h
  · simp only [Bool.and_eq_true] at h
    have ha := allE_of h.1
    exact ⟨CF.PE.weaken (pe_tup (pa_ok C hs h.2)) fun σ H Q h => tOs_mono (tE_manyE ha h) fun _ _ z => rE_tup z, rfl⟩
  · rename_i fl
    exact ⟨CF.PE.weaken (pe_tup (pas_ok C hs h)) fun σ H Q q => tE_stars (mkD := .tup) (fun _ => rfl) (allE_S h) q fun vs H1 HF1 zs rs hz o => ⟨by rw [rs.length]; exact hz, fun p hp => out_t o hp rs⟩, rfl⟩
  · cases h
theorem lst_e {p : Pr} {es : List PySem.Expr} {pos : Pos} (h : ckLst p (chkFs c as) es = true) : PE X (.List es pos) (tE F Γ (.pr p as)) ∧ (isFresh (.pr p as) = true → PE X (.List es pos) (tF F Γ (.pr p as))) := by
  unfold ckLst at h
  split at h
  · simp only [Bool.and_eq_true] at h
    have ha := allE_of h.1
    exact ⟨CF.PE.weaken (pe_lst (pa_ok C hs h.2)) fun σ H Q h => tOs_mono (tE_manyE ha h) fun _ _ z => rE_lst z, fun _ => CF.PE.weaken (pe_lst (pa_ok C hs h.2)) fun σ H Q h => tOs_mono (tF_manyE ha h) fun _ _ z => rEN_lst z⟩
  · rename_i fl
    exact ⟨CF.PE.weaken (pe_lst (pas_ok C hs h)) fun σ H Q q => tE_stars (mkD := .lst) (fun _ => rfl) (allE_S h) q fun vs H1 HF1 zs rs hz o => ⟨by rw [rs.length]; exact hz, fun p hp => out_l o hp rs⟩, fun z => by cases z⟩
  · cases h
theorem sub_e {p : Pr} {x y : PySem.Expr} {pos : Pos} (h : ckSub p (chkFs c as) x y = true) : PE X (.Subscript x y pos) (tE F Γ (.pr p as)) ∧ (isFresh (.pr p as) = true → PE X (.Subscript x y pos) (tF F Γ (.pr p as))) := by
  generalize hf : chkFs c as = fs at h
  unfold ckSub at h
  split at h
  · obtain ⟨a, b, rfl, rfl, rfl⟩ := chkFs_two hf
    simp only [Bool.and_eq_true] at h
    exact ⟨CF.PE.weaken (pe_ix (ix_ok C.K) (hs.1 c X x h.1.1.2 C) (hs.2.1 c X y h.2 C) (plainIx_of h.1.1.1)) fun _ _ _ => tE_two, fun z => by cases z⟩
  · obtain ⟨a, rfl, rfl⟩ := chkFs_one hf
    simp only [Bool.and_eq_true] at h
    obtain ⟨h1, h2⟩ := h
    split at h1
    · exact ⟨CF.PE.weaken (pe_rev C.K (hs.1 c X x h2 C)) fun _ _ _ => tE_one, fun z => by cases z⟩
    · cases h1
  · obtain ⟨a, rfl, rfl⟩ := chkFs_one hf
    simp only [Bool.and_eq_true] at h
    obtain ⟨h1, h2⟩ := h
    split at h1
    · have pa := hs.1 c X x h2 C
      exact ⟨CF.PE.weaken (pe_slice (sl_ok C.K) pa po_none po_none) fun σ H Q h => tO_mono (tE_one h) fun _ _ z => sl_00 z, fun _ => CF.PE.weaken (pe_slice (slN_ok C.K) pa po_none po_none) fun σ H Q h => tO_mono (tF_one h) fun _ _ z => sl_00N z⟩
    · cases h1
  · obtain ⟨a, b, rfl, rfl, rfl⟩ := chkFs_two hf
    simp only [Bool.and_eq_true] at h
    obtain ⟨⟨h1, h2⟩, h3⟩ := h
    split at h1
    · have pa := hs.1 c X x h2 C
      have pb := hs.2.1 c X _ h1 C
      exact ⟨CF.PE.weaken (pe_slice (sl_ok C.K) pa (po_some pb) po_none) fun σ H Q h => tO_mono (tE_two h) fun _ _ z => tO_mono z fun _ _ z => sl_10 z, fun _ => CF.PE.weaken (pe_slice (slN_ok C.K) pa (po_some pb) po_none) fun σ H Q h => tO_mono (tF_two h) fun _ _ z => tO_mono z fun _ _ z => sl_10N z⟩
    · cases h1
  · obtain ⟨a, b, rfl, rfl, rfl⟩ := chkFs_two hf
    simp only [Bool.and_eq_true] at h
    obtain ⟨⟨h1, h2⟩, h3⟩ := h
    split at h1
    · have pa := hs.1 c X x h2 C
      have pb := hs.2.1 c X _ h1 C
      exact ⟨CF.PE.weaken (pe_slice (sl_ok C.K) pa po_none (po_some pb)) fun σ H Q h => tO_mono (tE_two h) fun _ _ z => tO_mono z fun _ _ z => sl_01 z, fun _ => CF.PE.weaken (pe_slice (slN_ok C.K) pa po_none (po_some pb)) fun σ H Q h => tO_mono (tF_two h) fun _ _ z => tO_mono z fun _ _ z => sl_01N z⟩
    · cases h1
  · obtain ⟨a, b, d, rfl, rfl, rfl, rfl⟩ := chkFs_three hf
    simp only [Bool.and_eq_true] at h
    obtain ⟨⟨⟨h1, h2⟩, h3⟩, h4⟩ := h
    split at h1
    · simp only [Bool.and_eq_true] at h1
      have pa := hs.1 c X x h2 C
      have pb := hs.2.1 c X _ h1.1 C
      have pd := hs.2.2.1 c X _ h1.2 C
      obtain ⟨b, rfl⟩ := isE_of h3
      obtain ⟨d, rfl⟩ := isE_of h4
      exact ⟨CF.PE.weaken (pe_slice (sl_ok C.K) pa (po_some pb) (po_some pd)) fun σ H Q h => tE_sl11 h, fun _ => CF.PE.weaken (pe_slice (slN_ok C.K) pa (po_some pb) (po_some pd)) fun σ H Q h => tF_sl11 h⟩
    · cases h1
  · cases h
end
end CF

set_option Elab.async false
set_option linter.all false
set_option maxRecDepth 100000
namespace CF
open PySem PySem.Spec PyProof.Rows L2

/-! ## calls of built-ins, of classes -/
theorem boot_ty (t : Ty) : bootBuiltins (Str.ofString (tyName t)) = some (.type (tyName t)) := by cases t <;> kernel_rfl
theorem boot_vE : bootBuiltins ("ValueError" : Str) = some (.type "ValueError") := by kernel_rfl
theorem isx_bis {x : Str} (h : x ∈ bis) : x ∈ bis := h
section
variable {X : Cx}
theorem pe_callCls {f : Str} {C : Addr} {p pos : Pos} {e : PySem.Expr} {es : List PySem.Expr} {t : TA} {r : List V → Hp → VK → Prop} (hc : CallR X (.ref C) r) (hg : Gl X f) (hm : X.mg f = some (.ref C)) (hk : PySem.W.keepIn X.K (.ref C) = true) (ha : PA X (e :: es) t)
    (hdb : (f == ("__debug__" : Str)) = false) (he : starEach (e :: es) X.env = (false, eval e X.env) :: starEach es X.env) (hpl : (backTo pos (starEach es X.env)).any (·.1) = false) : PE X (.Call (.Name f p) (e :: es) [] pos) (tCB r t) := by
  refine ⟨fun pins s σ H Q I h => ?_⟩
  refine wpAny_Call_Name_kw (ld_glob I hg hm ?_ hdb)
  exact PySem.W.callWith_K (h₀ := X.base) I.ok.mod.kin hk (thn (ha.run pos pins s σ H _ I h) fun us s1 ⟨vs, H1, I1, r1, q1⟩ => ⟨I1.kIn, hc pins s1 σ H1 vs us Q I1 r1 q1⟩) he hpl
end
section
variable {F : Fx} {Γ : Tab} {c : CI} {X : Cx}
theorem tE_mk {k : Str} {a : Ex} {C : Addr} (hC : F.W.cl k = some C) {σ : L2.St} {H : Hp} {Q : VK} (h : tE F Γ (.pr (.mk k) (.cons (.e a) .nil)) σ H Q) :
    tO F Γ (.e a) σ H fun v H1 => ∀ e tt dx, H1 e = none → H1 tt = none → H1 dx = none → e ≠ tt → e ≠ dx → tt ≠ dx → Q (.ref e) (upd (upd (upd H1 tt (.tup [v])) dx (.xd [("value", v)])) e (ExH e C tt dx)) := by
  obtain ⟨HF, η, r, η', S, e, k⟩ := h
  rw [evE] at e
  split at e
  · cases e
  rename_i ds η1 e1
  split at e
  · cases e
  rename_i ds' e2
  obtain ⟨d', e3, e4⟩ := Option.map_eq_some_iff.mp e
  cases e4
  rw [evOs] at e1
  split at e1
  · cases e1
  rename_i x ηa ea
  split at e1
  · cases e1
  rename_i xs ηb eb
  cases e1
  rw [evOs] at eb
  cases eb
  unfold finOs at e2
  split at e2
  · rename_i x' r1 f1 f2
    cases e2
    cases f1
    unfold finOs at f2
    cases f2
    cases e3
    refine ⟨HF, η, x, _, S, ea, fun v H1 HF1 S1 s1 o1 ad tt dx n1 n2 n3 d1 d2 d3 => ?_⟩
    have rv : Rep F.W HF1 v x := o1
    have m1 : (upd H1 tt (.tup [v])) dx = none := by rw [upd_ne (Ne.symm d3)]; exact n3
    have m2 : (upd (upd H1 tt (.tup [v])) dx (.xd [("value", v)])) ad = none := by rw [upd_ne d2, upd_ne d1]; exact n1
    obtain ⟨S2, g2⟩ := S1.alloc (o := .tup [v]) n2
    obtain ⟨S3, g3⟩ := S2.alloc (o := .xd [("value", v)]) m1
    obtain ⟨S4, g4⟩ := S3.alloc (o := ExH ad C tt dx) m2
    refine k _ _ _ S4 (s1.trans ((Stp.alloc n2 (S1.sub.free n2)).trans ((Stp.alloc m1 (S2.sub.free m1)).trans (Stp.alloc m2 (S3.sub.free m2))))) ?_
    refine .exc hC upd_same (v := v) ?_ ?_ (rv.mono (g2.trans (g3.trans g4)))
    · exact g4 _ _ (g3 _ _ upd_same)
    · exact g4 _ _ upd_same
  · cases e2
variable (C : CtxOk X c Γ F.W) {as : Ops} (hs : AllO (SO F Γ) as)
include C hs
theorem attr_e {p : Pr} {n : Str} {x : PySem.Expr} {pos : Pos} (h : ckAttr p (chkFs c as) n x = true) : PE X (.Attribute x n pos) (tE F Γ (.pr p as)) ∧ isFresh (.pr p as) = false := by
  generalize hf : chkFs c as = fs at h
  unfold ckAttr at h
  split at h
  · obtain ⟨a, rfl, rfl⟩ := chkFs_one hf
    simp only [Bool.and_eq_true] at h
    obtain ⟨⟨⟨h0, h1⟩, h2⟩, h3⟩ := h
    obtain rfl := eqs_eq h0
    split at h1
    · rename_i y py
      refine ⟨CF.PE.weaken (pe_exv (W := F.W) C.x.xis (hs.1 c X _ h3 C) rfl) fun σ H Q h => tO_mono (tE_one h) fun v H' z => ?_, rfl⟩
      obtain ⟨HF, a, d, sub, r, e, o⟩ := rV_one z
      cases a <;> cases e
      rcases r with r | ⟨_, _, _, _, q, _⟩
      · cases r with
        | exc hc h1 h2 h3 rv => exact ⟨_, _, _, _, _, _, rfl, hc, sub _ _ h1, sub _ _ h3, out_v o rv⟩
      · cases q
    · cases h1
  · cases h
theorem bi_e {p : Pr} {f : Str} {x : PySem.Expr} {xs : List PySem.Expr} {pf pos : Pos} (h : ckBi c p (chkFs c as) f (x :: xs) = true) :
    PE X (.Call (.Name f pf) (x :: xs) [] pos) (tE F Γ (.pr p as)) ∧ (isFresh (.pr p as) = true → PE X (.Call (.Name f pf) (x :: xs) [] pos) (tF F Γ (.pr p as))) := by
  unfold ckBi at h
  simp only [Bool.and_eq_true] at h
  obtain ⟨⟨⟨h1, h2⟩, h3⟩, h4⟩ := h
  obtain ⟨d1, d2, d3⟩ := nmB_dbg h3
  have hg := C.glb h2
  have pa := pa_ok C hs h4
  have st := allCk_star h4
  have he := st x List.mem_cons_self xs X.env
  have hpl : (backTo pos (starEach xs X.env)).any (·.1) = false := any_back fun e he => st e (List.mem_cons_of_mem _ he)
  split at h1
  · rename_i b hb
    obtain rfl := eqs_eq h1
    cases p <;> cases hb
    · exact ⟨CF.PE.weaken (pe_callB (len_ok C.K) hg (C.bi _ (by decide)) (by kernel_rfl) pa d3 d1 he hpl) fun _ _ _ => tE_many, fun z => by cases z⟩
    · exact ⟨CF.PE.weaken (pe_callTy int_ok hg (C.bi _ (by decide)) (by kernel_rfl) pa d3 d1 he hpl) fun _ _ _ => tE_many, fun z => by cases z⟩
    · exact ⟨CF.PE.weaken (pe_callTy str_ok hg (C.bi _ (by decide)) (by kernel_rfl) pa d3 d1 he hpl) fun _ _ _ => tE_many, fun z => by cases z⟩
    · exact ⟨CF.PE.weaken (pe_callB (repr_ok C.K C.x.xis C.hg C.hu) hg (C.bi _ (by decide)) (by kernel_rfl) pa d3 d1 he hpl) fun _ _ _ => tE_many, fun z => by cases z⟩
    · exact ⟨CF.PE.weaken (pe_callB abs_ok hg (C.bi _ (by decide)) (by kernel_rfl) pa d3 d1 he hpl) fun _ _ _ => tE_many, fun z => by cases z⟩
    · exact ⟨CF.PE.weaken (pe_callB (sum_ok C.calm) hg (C.bi _ (by decide)) (by kernel_rfl) pa d3 d1 he hpl) fun _ _ _ => tE_many, fun z => by cases z⟩
    · exact ⟨CF.PE.weaken (pe_callB (all_ok C.calm) hg (C.bi _ (by decide)) (by kernel_rfl) pa d3 d1 he hpl) fun _ _ _ => tE_many, fun z => by cases z⟩
    · exact ⟨CF.PE.weaken (pe_callB (any_ok C.calm) hg (C.bi _ (by decide)) (by kernel_rfl) pa d3 d1 he hpl) fun _ _ _ => tE_many, fun z => by cases z⟩
    · exact ⟨CF.PE.weaken (pe_callB (sort_ok C.K C.hu) hg (C.bi _ (by decide)) (by kernel_rfl) pa d3 d1 he hpl) fun _ _ _ => tE_many, fun z => by cases z⟩
    · exact ⟨CF.PE.weaken (pe_callTy (list_ok C.K) hg (C.bi _ (by decide)) (by kernel_rfl) pa d3 d1 he hpl) fun _ _ _ => tE_many, fun _ => CF.PE.weaken (pe_callTy (list_fresh C.K) hg (C.bi _ (by decide)) (by kernel_rfl) pa d3 d1 he hpl) fun _ _ _ => tF_many⟩
    · exact ⟨CF.PE.weaken (pe_callTy (tuple_ok C.K) hg (C.bi _ (by decide)) (by kernel_rfl) pa d3 d1 he hpl) fun _ _ _ => tE_many, fun z => by cases z⟩
    · exact ⟨CF.PE.weaken (pe_callB (min2_ok C.K C.calm C.hu) hg (C.bi _ (by decide)) (by kernel_rfl) pa d3 d1 he hpl) fun _ _ _ => tE_many, fun z => by cases z⟩
    · exact ⟨CF.PE.weaken (pe_callB (max2_ok C.K C.calm C.hu) hg (C.bi _ (by decide)) (by kernel_rfl) pa d3 d1 he hpl) fun _ _ _ => tE_many, fun z => by cases z⟩
  · cases h1
end
end CF

set_option Elab.async false
set_option linter.all false
set_option maxRecDepth 100000
namespace CF
open PySem PySem.Spec PyProof.Rows L2

section
variable {F : Fx} {HF HF' : Hp} {σ σ' : L2.St} {H H' : Hp} {η η' : CF.Env}
/-- an object that is nobody's is changed -/
theorem SR.updX (S : SR F HF σ H η) {q : Addr} {o : HO} (hF : HF q = none) (h0 : F.H0 q = none) (no : ¬ Own η σ q) : SR F HF σ (upd H q o) η where
  sub := Same.upd_both S.sub hF
  grow := S.grow
  keep := fun a u e m => by
    rw [upd_ne (ne_of_none e h0)]
    exact S.keep a u e m
  ent := S.ent
  mt := fun i p e => by
    obtain ⟨h1, vs, h2⟩ := S.mt i p e
    obtain ⟨ws, h3⟩ := S.ent i p e
    exact ⟨h1, vs, by rw [upd_ne (ne_of_none h3 h0)]; exact h2⟩
  newF := S.newF
  len := S.len
  slot := fun i sv e => by
    have s := S.slot i sv e
    cases sv with
    | no => trivial
    | dat d => exact s
    | lst br xs =>
      obtain ⟨p, vs, e1, h1, h2, h3, h4⟩ := s
      have hp : p ≠ q := fun z => no ⟨i, _, e, rfl, by rw [← z]; exact some_join e1⟩
      exact ⟨p, vs, e1, by rw [upd_ne hp]; exact h1, h2, h3, h4⟩
    | dic kvs =>
      obtain ⟨p, vs, e1, h1, h2, h3, h4⟩ := s
      have hp : p ≠ q := fun z => no ⟨i, _, e, rfl, by rw [← z]; exact some_join e1⟩
      exact ⟨p, vs, e1, by rw [upd_ne hp]; exact h1, h2, h3, h4⟩
  apart := S.apart
/-- .. is frozen -/
theorem SR.frz (S : SR F HF σ H η) {q : Addr} {o : HO} (hq : H q = some o) (hF : HF q = none) (h0 : F.H0 q = none) (no : ¬ Own η σ q) : SR F (upd HF q o) σ H η where
  sub := fun b u e => by
    by_cases hb : b = q
    · subst hb
      rw [upd_same] at e
      cases e
      exact hq
    · rw [upd_ne hb] at e
      exact S.sub _ _ e
  grow := S.grow.trans (Same.upd_new hF)
  keep := S.keep
  ent := S.ent
  mt := fun i p e => by
    obtain ⟨h1, vs, h2⟩ := S.mt i p e
    obtain ⟨ws, h3⟩ := S.ent i p e
    exact ⟨by rw [upd_ne (ne_of_none h3 h0)]; exact h1, vs, h2⟩
  newF := fun a u e => by
    by_cases ha : a = q
    · subst ha
      exact .inr h0
    · rw [upd_ne ha] at e
      exact S.newF a u e
  len := S.len
  slot := fun i sv e => by
    have s := S.slot i sv e
    cases sv with
    | no => trivial
    | dat d =>
      obtain ⟨v, e1, r⟩ := s
      exact ⟨v, e1, r.mono (Same.upd_new hF)⟩
    | lst br xs =>
      obtain ⟨p, vs, e1, h1, h2, h3, h4⟩ := s
      have hp : p ≠ q := fun z => no ⟨i, _, e, rfl, by rw [← z]; exact some_join e1⟩
      exact ⟨p, vs, e1, h1, h2.mono (Same.upd_new hF), by rw [upd_ne hp]; exact h3, h4⟩
    | dic kvs =>
      obtain ⟨p, vs, e1, h1, h2, h3, h4⟩ := s
      have hp : p ≠ q := fun z => no ⟨i, _, e, rfl, by rw [← z]; exact some_join e1⟩
      exact ⟨p, vs, e1, h1, h2.mono (Same.upd_new hF), by rw [upd_ne hp]; exact h3, h4⟩
  apart := S.apart

end
section
variable {F : Fx} {Γ : Tab} {c : CI} {X : Cx}
variable (C : CtxOk X c Γ F.W) {as : Ops} (hs : AllO (SO F Γ) as)
include C hs
theorem rng_e {p : Pr} {x : PySem.Expr} {pf pos : Pos} (hg : Gl X "list") (h : ckRng c p (chkFs c as) x = true) :
    PE X (.Call (.Name "list" pf) [x] [] pos) (tE F Γ (.pr p as)) ∧ PE X (.Call (.Name "list" pf) [x] [] pos) (tF F Γ (.pr p as)) := by
  have hm : X.mg "list" = none := C.bi _ (by decide)
  have hmr : X.mg "range" = none := C.bi _ (by decide)
  generalize hf : chkFs c as = fs at h
  unfold ckRng at h
  split at h
  · obtain ⟨a, rfl, rfl⟩ := chkFs_one hf
    simp only [Bool.and_eq_true] at h
    obtain ⟨h1, _⟩ := h
    split at h1
    · rename_i g pg y py
      simp only [Bool.and_eq_true] at h1
      obtain ⟨⟨h1, h2⟩, h3⟩ := h1
      obtain rfl := eqs_eq h1
      have st := chkO_star h3 [] X.env
      have P := prg_1 (p := pg) (pos := py) (C.glb h2) hmr (hs.1 c X _ h3 C) st
      exact ⟨CF.PE.weaken (pe_listRg C.calm hg hm P) fun σ H Q h => tO_mono (tE_one h) fun _ _ z => rng1_ok z, CF.PE.weaken (pe_listRg C.calm hg hm P) fun σ H Q h => tO_mono (tF_one h) fun _ _ z => rng1_okN z⟩
    · cases h1
  · obtain ⟨a, b, rfl, rfl, rfl⟩ := chkFs_two hf
    simp only [Bool.and_eq_true] at h
    obtain ⟨⟨h1, _⟩, _⟩ := h
    split at h1
    · rename_i g pg y z py
      simp only [Bool.and_eq_true] at h1
      obtain ⟨⟨⟨h1, h2⟩, h3⟩, h4⟩ := h1
      obtain rfl := eqs_eq h1
      have st := chkO_star h3 [z] X.env
      have st2 := chkO_star h4 [] X.env
      have P := prg_2 (p := pg) (pos := py) (C.glb h2) hmr (hs.1 c X _ h3 C) (hs.2.1 c X _ h4 C) st st2 (by rw [st2]; rfl)
      exact ⟨CF.PE.weaken (pe_listRg C.calm hg hm P) fun σ H Q h => tO_mono (tE_two h) fun _ _ z => tO_mono z fun _ _ z => rng2_ok z, CF.PE.weaken (pe_listRg C.calm hg hm P) fun σ H Q h => tO_mono (tF_two h) fun _ _ z => tO_mono z fun _ _ z => rng2_okN z⟩
    · cases h1
  · cases h
theorem isi_e {p : Pr} {x : PySem.Expr} {n : Str} {pf pn pos : Pos} (hg : Gl X "isinstance") (h : ckIsi c p (chkFs c as) x n = true) :
    PE X (.Call (.Name "isinstance" pf) [x, .Name n pn] [] pos) (tE F Γ (.pr p as)) ∧ isFresh (.pr p as) = false := by
  have hm : X.mg "isinstance" = none := C.bi _ (by decide)
  generalize hf : chkFs c as = fs at h
  unfold ckIsi at h
  split at h
  · rename_i t a
    obtain ⟨a, rfl, rfl⟩ := chkFs_one hf
    simp only [Bool.and_eq_true] at h
    obtain ⟨⟨⟨h1, h2⟩, h3⟩, h4⟩ := h
    obtain rfl := eqs_eq h1
    have st := chkO_star h4
    have hmt : X.mg (Str.ofString (tyName t)) = none := C.bi _ (by cases t <;> decide)
    have P : PA X [x, .Name (Str.ofString (tyName t)) pn] _ := pa_cons (hs.1 c X _ h4 C) (pa_cons (pe_bltn (v := .ty (tyName t)) (pos := pn) (C.glb h2) hmt (boot_ty t) rfl (by cases t <;> decide) (by cases t <;> decide)) pa_nil rfl) (st _ _)
    refine ⟨CF.PE.weaken (pe_callB (isi_ok C.K t) hg hm (by kernel_rfl) P (by decide) (by decide) (st _ _) rfl) fun σ H Q h => tO_mono (tE_one h) fun v H' z => ?_, rfl⟩
    obtain ⟨HF, d, d', sub, r, e, o⟩ := rV_one z
    have key : ∀ d : Dv, isiD t d = some d' → RepL F.W HF H' v d → (dvTy d).isSome = true ∧ d' = .bl (isTy t d) := fun d e r => by
      cases d <;> cases e <;> exact ⟨rfl, rfl⟩
    obtain ⟨k1, rfl⟩ := key d e r
    exact ⟨HF, v, d, rfl, sub, r, k1, out_v o (.bl _)⟩
  · rename_i k a
    obtain ⟨a, rfl, rfl⟩ := chkFs_one hf
    simp only [Bool.and_eq_true, decide_eq_true_eq] at h
    obtain ⟨⟨⟨⟨⟨h1, hk⟩, h2⟩, h3⟩, h4⟩, h5⟩ := h
    obtain rfl := eqs_eq h1
    have st := chkO_star h5
    obtain ⟨Cc, hCc⟩ := Option.isSome_iff_exists.mp (C.xs _ hk)
    obtain ⟨m1, m2, _⟩ := C.x.xcl _ _ hCc
    have P : PA X [x, .Name n pn] _ := pa_cons (hs.1 c X _ h5 C) (pa_cons (pe_glob (v := .ref Cc) (pos := pn) (C.glb h2) m1 rfl (nmB_dbg h3).1) pa_nil rfl) (st _ _)
    refine ⟨CF.PE.weaken (pe_callB (isx_ok (W := F.W) C.x.xis) hg hm (by kernel_rfl) P (by decide) (by decide) (st _ _) rfl) fun σ H Q h => tO_mono (tE_one h) fun v H' z => ?_, rfl⟩
    obtain ⟨HF, d, d', sub, r, e, o⟩ := rV_one z
    cases d <;> cases e
    rcases r with r | ⟨_, _, _, _, q, _⟩
    · cases r with
      | exc hc h1 h2 h3 rv => exact ⟨_, _, _, _, _, _, _, .ref Cc, .ref Cc, rfl, (fun u ru => by cases ru; rfl), hc, sub _ _ h1, sub _ _ h3, C.x.xk _ _ _ _ hc hCc, out_v o (.bl _)⟩
    · cases q
  · rename_i k a
    obtain ⟨a, rfl, rfl⟩ := chkFs_one hf
    simp only [Bool.and_eq_true, decide_eq_true_eq] at h
    obtain ⟨⟨⟨⟨h1, rfl⟩, h2⟩, h4⟩, h5⟩ := h
    obtain rfl := eqs_eq h1
    have st := chkO_star h5
    have P : PA X [x, .Name (Str.ofString "ValueError") pn] _ := pa_cons (hs.1 c X _ h5 C) (pa_cons (pe_bltn (v := .ty "ValueError") (pos := pn) (C.glb h2) (C.bi _ (by decide)) boot_vE rfl (by decide) (by decide)) pa_nil rfl) (st _ _)
    refine ⟨CF.PE.weaken (pe_callB (isx_ok (W := F.W) C.x.xis) hg hm (by kernel_rfl) P (by decide) (by decide) (st _ _) rfl) fun σ H Q h => tO_mono (tE_one h) fun v H' z => ?_, rfl⟩
    obtain ⟨HF, d, d', sub, r, e, o⟩ := rV_one z
    cases d <;> cases e
    rcases r with r | ⟨_, _, _, _, q, _⟩
    · cases r with
      | exc hc h1 h2 h3 rv => exact ⟨_, _, _, _, _, _, _, .ty "ValueError", .type "ValueError", rfl, (fun u ru => by cases ru; rfl), hc, sub _ _ h1, sub _ _ h3, C.x.xv _ _ hc, out_v o (.bl _)⟩
    · cases q
  · cases h
theorem mk_e {p : Pr} {f : Str} {x : PySem.Expr} {pf pos : Pos} (h : ckMk c p (chkFs c as) f x = true) : PE X (.Call (.Name f pf) [x] [] pos) (tE F Γ (.pr p as)) ∧ isFresh (.pr p as) = false := by
  generalize hf : chkFs c as = fs at h
  unfold ckMk at h
  split at h
  · rename_i k a
    obtain ⟨a, rfl, rfl⟩ := chkFs_one hf
    simp only [Bool.and_eq_true, decide_eq_true_eq] at h
    obtain ⟨⟨⟨⟨⟨h1, hk⟩, h2⟩, h3⟩, h4⟩, h5⟩ := h
    obtain rfl := eqs_eq h1
    obtain ⟨a, rfl⟩ := isE_of h4
    have st := chkO_star h5
    obtain ⟨Cc, hCc⟩ := Option.isSome_iff_exists.mp (C.xs _ hk)
    obtain ⟨m1, m2, fI, D, X1, X2⟩ := C.x.xcl _ _ hCc
    have P : PA X [x] _ := pa_cons (hs.1 c X _ h5 C) pa_nil (st _ _)
    exact ⟨CF.PE.weaken (pe_callCls (rl_mk X1 X2 (C.bi _ (by decide)) C.dp) (C.glb h2) m1 m2 P (nmB_dbg h3).1 (st _ _) rfl) fun σ H Q h => tO_mono (tE_mk hCc h) fun v H' z => ⟨v, rfl, z⟩, rfl⟩
  · cases h
theorem call_e {p : Pr} {f : Str} {x : PySem.Expr} {xs : List PySem.Expr} {pf pos : Pos} (h : ckCall c p (chkFs c as) f (x :: xs) = true) :
    PE X (.Call (.Name f pf) (x :: xs) [] pos) (tE F Γ (.pr p as)) ∧ (isFresh (.pr p as) = true → PE X (.Call (.Name f pf) (x :: xs) [] pos) (tF F Γ (.pr p as))) := by
  have no : ∀ {q : Pr}, isFresh (.pr q as) = false → PE X (.Call (.Name f pf) (x :: xs) [] pos) (tE F Γ (.pr q as)) → PE X (.Call (.Name f pf) (x :: xs) [] pos) (tE F Γ (.pr q as)) ∧ (isFresh (.pr q as) = true → PE X (.Call (.Name f pf) (x :: xs) [] pos) (tF F Γ (.pr q as))) :=
    fun h P => ⟨P, fun z => by rw [h] at z; cases z⟩
  unfold ckCall at h
  split at h
  · simp only [Bool.and_eq_true] at h
    obtain ⟨⟨h1, h2⟩, h3⟩ := h
    obtain rfl := eqs_eq h1
    cases xs with
    | nil =>
      obtain ⟨a, b⟩ := rng_e C hs (pf := pf) (pos := pos) (C.glb h2) h3
      exact ⟨a, fun _ => b⟩
    | cons y ys => cases h3
  · simp only [Bool.and_eq_true] at h
    obtain ⟨⟨h1, h2⟩, h3⟩ := h
    obtain rfl := eqs_eq h1
    cases xs with
    | nil =>
      obtain ⟨a, b⟩ := rng_e C hs (pf := pf) (pos := pos) (C.glb h2) h3
      exact ⟨a, fun _ => b⟩
    | cons y ys => cases h3
  all_goals first
    | exact bi_e C hs h
    | skip
  all_goals first
    | (simp only [Bool.and_eq_true] at h
       obtain ⟨⟨h1, h2⟩, h3⟩ := h
       obtain rfl := eqs_eq h1
       split at h3
       · rename_i n pn e
         cases e
         obtain ⟨a, b⟩ := isi_e C hs (pf := pf) (pn := pn) (pos := pos) (C.glb h2) h3
         exact no b a
       · cases h3)
    | skip
  split at h
  · rename_i e
    cases e
    obtain ⟨a, b⟩ := mk_e C hs (pf := pf) (pos := pos) h
    exact no b a
  · cases h
theorem dct_e {p : Pr} {ks : List (Option PySem.Expr)} {vs : List PySem.Expr} {pos : Pos} (h : ckDct p (chkFs c as) ks vs = true) : PE X (.Dict ks vs pos) (tE F Γ (.pr p as)) ∧ isFresh (.pr p as) = false := by
  generalize hf : chkFs c as = fs at h
  unfold ckDct at h
  split at h
  · obtain rfl := chkFs_nil hf
    split at h
    · refine ⟨CF.PE.weaken pe_dnewK fun σ H Q q => ?_, rfl⟩
      obtain ⟨HF, η, d, η', S, e, k⟩ := q
      rw [evE, evOs] at e
      cases e
      intro q hq
      obtain ⟨S', g⟩ := S.alloc (o := .dK []) hq
      exact k _ _ _ S' (.alloc hq (S.sub.free hq)) (.dct upd_same .nil .nil)
    · cases h
  · rename_i k a
    obtain ⟨a, rfl, rfl⟩ := chkFs_one hf
    split at h
    · rename_i k' j pk v
      simp only [Bool.and_eq_true] at h
      obtain ⟨⟨h1, h2⟩, h3⟩ := h
      obtain rfl := eqs_eq h1
      obtain ⟨a, rfl⟩ := isE_of h2
      refine ⟨CF.PE.weaken (pe_disp (pps_cons pe_str (hs.1 c X v h3 C) pps_nil) rfl rfl (fun z => nomatch z) (by show 1 ≤ 15; decide)) fun σ H Q q => ?_, rfl⟩
      obtain ⟨HF, η, d, η', S, e, kk⟩ := q
      rw [evE] at e
      split at e
      · cases e
      rename_i ds η1 e1
      split at e
      · cases e
      rename_i ds' e2
      obtain ⟨d', e3, e4⟩ := Option.map_eq_some_iff.mp e
      cases e4
      rw [evOs] at e1
      split at e1
      · cases e1
      rename_i x ηa ea
      split at e1
      · cases e1
      rename_i xs ηb eb
      cases e1
      rw [evOs] at eb
      cases eb
      unfold finOs at e2
      split at e2
      · rename_i x' r1 f1 f2
        cases e2
        cases f1
        unfold finOs at f2
        cases f2
        cases e3
        intro q hq
        have S0 := S.allocOwn (o := .dK []) hq
        have s0 : Stp σ HF H η HF (upd H q (.dK [])) η := .allocOwn hq
        have h0 := S.dom hq
        have no : ¬ Own η σ q := own_tracked S hq
        refine ⟨HF, η, x, _, S0, ea, fun y H2 HF2 S2 s2 o2 => ?_⟩
        have ry : Rep F.W HF2 y x := o2
        have hq2 : H2 q = some (.dK []) := s2.k q _ upd_same no
        have no2 := fun z => no (s2.w q z)
        have hF2 : HF2 q = none := by
          cases w : HF2 q with
          | none => rfl
          | some o =>
            rcases s2.n q o w with z | z | z
            · rw [S.sub.free hq] at z
              cases z
            · rw [upd_same] at z
              cases z
            · exact absurd z no
        refine ⟨hq2, [(.inr k, y)], rfl, (by show 1 ≤ 15; decide), ?_⟩
        have S3 := S2.updX (o := .dK [(.inr k, y)]) hF2 h0 no2
        have S4 := S3.frz upd_same hF2 h0 no2
        have T := s0.trans s2
        refine kk _ _ _ S4 ⟨T.f.trans (Same.upd_new hF2), fun a o e n => ?_, fun a o e => ?_, T.w, fun a o e => ?_⟩ (.dct upd_same (.cons (.str k) .nil) (.cons (ry.mono (Same.upd_new hF2)) .nil))
        · rw [upd_ne (ne_of_none e hq)]
          exact T.k a o e n
        · by_cases ha : a = q
          · rw [ha]
            exact .inr (.inl hq)
          · rw [upd_ne ha] at e
            exact T.n a o e
        · obtain ⟨o', z⟩ := T.g a o e
          exact ⟨o', by rw [upd_ne (ne_of_none e hq)]; exact z⟩
      · cases e2
    · cases h
  · cases h
end
/-! ### methods of texts, len(set(..)) -/
section
variable {F : Fx} {Γ : Tab} {c : CI} {X : Cx}
theorem recv_base {x : PySem.Expr} (h : recv x = true) (n : Str) : attributeBase x n X.env (eval x X.env) = eval x X.env := by
  cases x <;> first | rfl | cases h
theorem join_some {a : Dv} {ys : List Dv} {d : Dv} (e : joinD a (.lst ys) = some d) : ∃ x zs, a = .str x ∧ ys = zs.map .str ∧ (zs.map (·.length)).sum + zs.length * x.length ≤ 16777216 ∧ d = .str (Txt.join x zs) := by
  cases a <;> try cases e
  rename_i x
  obtain ⟨zs, e1, e2⟩ := Option.bind_eq_some_iff.mp (show ((strsOf ys).bind fun ys => if decide ((ys.map (·.length)).sum + ys.length * x.length ≤ 16777216) = true then some (Dv.str (Txt.join x ys)) else none) = some d from e)
  obtain ⟨e3, rfl⟩ := if_some e2
  exact ⟨x, zs, rfl, strsOf_some e1, of_decide_eq_true e3, rfl⟩
theorem tE_join {a b : Ex} {σ : L2.St} {H : Hp} {Q : VK} (hK : F.W.K = X.K) (h : tE F Γ (.pr .join (.cons (.e a) (.cons (.e b) .nil))) σ H Q) :
    tM1 (fun x xs H Q => ∃ a p, ∃ ys : List Str, x = .str a ∧ xs = [.ref p] ∧ (SqL X.K H p (ys.map V.str) ∨ SqT X.K H p (ys.map V.str)) ∧ (ys.map (·.length)).sum + ys.length * a.length ≤ 16777216 ∧ Q (.str (Txt.join a ys)) H) (tO F Γ (.e a)) (tO F Γ (.e b)) σ H Q := by
  obtain ⟨HF, η, d, η', S, e, k⟩ := h
  rw [evE] at e
  split at e
  · cases e
  rename_i ds η1 e1
  split at e
  · cases e
  rename_i ds' e2
  obtain ⟨d', e3, e4⟩ := Option.map_eq_some_iff.mp e
  cases e4
  rw [evOs] at e1
  split at e1
  · cases e1
  rename_i x ηa ea
  split at e1
  · cases e1
  rename_i xs ηb eb
  cases e1
  rw [evOs] at eb
  split at eb
  · cases eb
  rename_i y ηc ec
  split at eb
  · cases eb
  rename_i ys ηd ed
  cases eb
  rw [evOs] at ed
  cases ed
  have ae : AllE (.cons (.e a) (.cons (.e b) .nil)) := trivial
  rw [fin_allE ae e2] at e3
  have e5 : joinD x y = some d := e3
  have hy : ∃ zs, y = .lst zs := by
    cases x <;> cases y <;> first | exact ⟨_, rfl⟩ | cases e5
  obtain ⟨zs, rfl⟩ := hy
  obtain ⟨s, ss, rfl, rfl, hz, rfl⟩ := join_some e5
  refine ⟨HF, η, _, ηa, S, ea, fun vx H1 HF1 S1 s1 r1 => ?_⟩
  have r1' : Rep F.W HF1 vx (.str s) := r1
  cases r1'
  refine ⟨⟨s, rfl⟩, HF1, ηa, _, _, S1, ec, fun vy H2 HF2 S2 s2 r2 => ?_⟩
  have r2' : Rep F.W HF2 vy (.lst (ss.map .str)) := r2
  cases r2' with
  | lst hq rs =>
    have hv := rs.strs
    subst hv
    exact ⟨s, _, ss, rfl, rfl, .inl (SqL.of (S2.sub _ _ hq)), hz, k _ H2 HF2 S2 (s1.trans s2) (.str _)⟩
theorem meth_e (C : CtxOk X c Γ F.W) {as : Ops} (hs : AllO (SO F Γ) as) {p : Pr} {m : Str} {x : PySem.Expr} {xs : List PySem.Expr} {ap cp : Pos} (h : ckMeth p (chkFs c as) m x xs ap cp = true) :
    PE X (.Call (.Attribute x m ap) xs [] cp) (tE F Γ (.pr p as)) ∧ isFresh (.pr p as) = false := by
  unfold ckMeth at h
  simp only [Bool.and_eq_true, decide_eq_true_eq] at h
  obtain ⟨⟨hl, hr⟩, h⟩ := h
  generalize hf : chkFs c as = fs at h
  split at h
  · obtain ⟨a, b, rfl, rfl, rfl⟩ := chkFs_two hf
    simp only [Bool.and_eq_true] at h
    obtain ⟨⟨⟨⟨h1, h2⟩, h3⟩, h4⟩, h5⟩ := h
    obtain rfl := eqs_eq h1
    obtain ⟨a, rfl⟩ := isE_of h2
    obtain ⟨b, rfl⟩ := isE_of h4
    refine ⟨CF.PE.weaken (pe_join (hs.1 c X x h3 C) (hs.2.1 c X _ h5 C) (by rw [chkO_star h5]; rfl) (recv_base hr _) (by rw [hl]; exact beq_self_eq_true _)) fun σ H Q q => tE_join C.K q, rfl⟩
  · obtain ⟨a, rfl, rfl⟩ := chkFs_one hf
    simp only [Bool.and_eq_true] at h
    obtain ⟨⟨h1, h2⟩, h3⟩ := h
    obtain rfl := eqs_eq h1
    obtain ⟨a, rfl⟩ := isE_of h2
    refine ⟨CF.PE.weaken (pe_upper (hs.1 c X x h3 C) (recv_base hr _) (by rw [hl]; exact beq_self_eq_true _)) fun σ H Q q => tO_mono (tE_one q) fun v H1 z => ?_, rfl⟩
    obtain ⟨HF, d, d', sub, r, e, o⟩ := rV_one z
    cases d <;> try cases e
    rename_i s
    obtain ⟨e1, rfl⟩ := if_some (show (if decide (s.length ≤ 5592405) = true then some (Dv.str (Txt.upper s)) else none) = some d' from e)
    cases r.str_of
    exact ⟨⟨s, rfl⟩, s, rfl, rfl, of_decide_eq_true e1, out_v o (.str _)⟩
  · cases h
theorem lenset_e (C : CtxOk X c Γ F.W) {as : Ops} (hs : AllO (SO F Γ) as) {f : Str} {x : PySem.Expr} {xs : List PySem.Expr} {pf pos : Pos} (h : ckLenset c (chkFs c as) f (x :: xs) = true) :
    PE X (.Call (.Name f pf) (x :: xs) [] pos) (tE F Γ (.pr .lenset as)) := by
  generalize hf : chkFs c as = fs at h
  unfold ckLenset at h
  split at h
  · rename_i a g pg y py heq
    obtain ⟨a, rfl, rfl⟩ := chkFs_one hf
    cases heq
    simp only [Bool.and_eq_true] at h
    obtain ⟨⟨⟨⟨⟨h1, h2⟩, h3⟩, h4⟩, h5⟩, h6⟩ := h
    obtain rfl := eqs_eq h1
    obtain rfl := eqs_eq h2
    exact CF.PE.weaken (pe_lenSet (W := F.W) C.calm C.K C.hu (C.glb h3) (C.bi _ (by decide)) (C.glb h4) (C.bi _ (by decide)) (hs.1 c X _ h6 C) (chkO_star h6 _ _)) fun _ _ _ => tE_one
  · cases h
end
end CF

set_option Elab.async false
set_option linter.all false
set_option maxRecDepth 100000
namespace CF
open PySem PySem.Spec PyProof.Rows L2

section
variable {F : Fx} {Γ : Tab}
theorem callL_e {c : CI} {X : Cx} (C : CtxOk X c Γ F.W) {as : Ops} (hs : AllO (SO F Γ) as) {p : Pr} {f : Str} {x : PySem.Expr} {xs : List PySem.Expr} {pf pos : Pos} (h : ckCallL c p (chkFs c as) f (x :: xs) = true) :
    PE X (.Call (.Name f pf) (x :: xs) [] pos) (tE F Γ (.pr p as)) ∧ (isFresh (.pr p as) = true → PE X (.Call (.Name f pf) (x :: xs) [] pos) (tF F Γ (.pr p as))) := by
  unfold ckCallL at h
  split at h
  · exact ⟨lenset_e C hs h, fun z => by cases z⟩
  · exact call_e C hs h
theorem se_pr {p : Pr} {as : Ops} (hs : AllO (SO F Γ) as) : SE F Γ (.pr p as) where
  pe := fun c X e h C => by
    rw [chkE] at h
    unfold chkPr at h
    split at h
    · exact (bin_e C hs h).1
    · exact (cmp_e C hs h).1
    · exact (un_e C hs h).1
    · exact (tup_e C hs h).1
    · exact (lst_e C hs h).1
    · exact (sub_e C hs h).1
    · exact (attr_e C hs h).1
    · rename_i f pf xs pos
      cases xs with
      | nil => cases h
      | cons x xs =>
        rw [Bool.and_eq_true] at h
        exact (callL_e C hs h.2).1
    · exact (meth_e C hs h).1
    · exact (dct_e C hs h).1
    · cases h
  pt := fun c X e h C => by
    rw [chkE] at h
    unfold chkPr at h
    split at h
    · exact CF.PT.weaken (pt_val (bin_e C hs h).1) fun _ _ _ => tT_tE
    · exact (cmp_e C hs h).2.1
    · obtain ⟨a, rfl, _⟩ := un_e C hs h
      exact CF.PT.weaken (pt_val a) fun _ _ _ => tT_tE
    · exact CF.PT.weaken (pt_val (tup_e C hs h).1) fun _ _ _ => tT_tE
    · exact CF.PT.weaken (pt_val (lst_e C hs h).1) fun _ _ _ => tT_tE
    · exact CF.PT.weaken (pt_val (sub_e C hs h).1) fun _ _ _ => tT_tE
    · exact CF.PT.weaken (pt_val (attr_e C hs h).1) fun _ _ _ => tT_tE
    · rename_i f pf xs pos
      cases xs with
      | nil => cases h
      | cons x xs =>
        rw [Bool.and_eq_true] at h
        exact CF.PT.weaken (pt_val (callL_e C hs h.2).1) fun _ _ _ => tT_tE
    · exact CF.PT.weaken (pt_val (meth_e C hs h).1) fun _ _ _ => tT_tE
    · exact CF.PT.weaken (pt_val (dct_e C hs h).1) fun _ _ _ => tT_tE
    · cases h
  pw := fun c X op es p h C => by
    rw [chkE] at h
    cases h
  pf := fun c X e h C hf => by
    rw [chkE] at h
    unfold chkPr at h
    split at h
    · exact (bin_e C hs h).2 hf
    · rw [(cmp_e C hs (pos := default) h).2.2] at hf
      cases hf
    · rw [(un_e C hs (pos := default) h).2.2] at hf
      cases hf
    · rw [(tup_e C hs (k := 0) (pos := default) h).2] at hf
      cases hf
    · exact (lst_e C hs h).2 hf
    · exact (sub_e C hs h).2 hf
    · rw [(attr_e C hs (pos := default) h).2] at hf
      cases hf
    · rename_i f pf xs pos
      cases xs with
      | nil => cases h
      | cons x xs =>
        rw [Bool.and_eq_true] at h
        exact (callL_e C hs h.2).2 hf
    · rw [(meth_e C hs h).2] at hf
      cases hf
    · rw [(dct_e C hs (pos := default) h).2] at hf
      cases hf
    · cases h

/-! ## names, constants -/
theorem tE_var {i : Nat} {σ : L2.St} {H : Hp} {Q : VK} (h : tE F Γ (.var i) σ H Q) : tVar i σ H Q := by
  obtain ⟨HF, η, d, η', S, e, k⟩ := h
  rw [evE] at e
  unfold rdVar at e
  split at e
  · rename_i d' e1
    cases e
    obtain ⟨v, q, r⟩ := S.slotV e1
    exact ⟨v, q, k v H HF S .refl r⟩
  · rename_i xs e1
    cases e
    obtain ⟨p, vs, q, hp, r, hF, _⟩ := S.slotL e1
    obtain ⟨S', g, r'⟩ := S.freeze e1 q hp
    refine ⟨.ref p, q, k _ H _ S' ⟨g, fun a o z _ => z, fun a o z => ?_, fun a ⟨j, z⟩ => ⟨j, own_dat rfl z⟩, fun _ o e => ⟨o, e⟩⟩ r'⟩
    by_cases ha : a = p
    · subst ha
      exact .inr (.inr ⟨i, _, e1, rfl, q⟩)
    · rw [upd_ne ha] at z
      exact .inl z
  · cases e
theorem se_var (i : Nat) : SE F Γ (.var i) := by
  have pe : ∀ (c : CI) (X : Cx) (e : PySem.Expr), chkE c (.var i) e = true → CtxOk X c Γ F.W → ∃ x pos, e = .Name x pos ∧ PE X e (tE F Γ (.var i)) := fun c X e h C => by
    unfold chkE at h
    split at h
    · simp only [Bool.and_eq_true] at h
      obtain ⟨h1, h2, _⟩ := nmB_dbg h.2
      exact ⟨_, _, rfl, CF.PE.weaken (pe_var (C.slot h.1.1) (C.vis h.1.2) h1 h2) fun _ _ _ => tE_var⟩
    · cases h
  refine ⟨fun c X e h C => (pe c X e h C).elim fun _ z => z.elim fun _ z => z.2, fun c X e h C => ?_, fun c X op es p h C => ?_, fun c X e h C hf => by cases hf⟩
  · obtain ⟨x, pos, rfl, P⟩ := pe c X e h C
    exact CF.PT.weaken (pt_val P) fun _ _ _ => tT_tE
  · unfold chkE at h
    cases h
theorem cst_rep {W : Wd} {H : Hp} {k : Const} {d : Dv} (h : cstD k = some d) : Rep W H (cstV k) d := by
  cases k <;> cases h
  · exact .non
  · exact .bl _
  · exact .int _
  · exact .str _
theorem se_cst (k : Const) : SE F Γ (.cst k) := by
  have pe : ∀ (c : CI) (X : Cx) (e : PySem.Expr), chkE c (.cst k) e = true → CtxOk X c Γ F.W → ∃ x j pos, e = .Constant x j pos ∧ PE X e (tE F Γ (.cst k)) := fun c X e h C => by
    unfold chkE at h
    split at h
    · rename_i k' j pos
      simp only [Bool.and_eq_true, decide_eq_true_eq] at h
      obtain ⟨rfl, h2⟩ := h
      have go : ∀ σ H Q, tE F Γ (.cst k) σ H Q → Q (cstV k) H := fun σ H Q h => by
        obtain ⟨HF, η, d, η', S, e, kk⟩ := h
        rw [evE] at e
        obtain ⟨d', e1, e2⟩ := Option.map_eq_some_iff.mp e
        cases e2
        exact kk _ H HF S .refl (cst_rep e1)
      refine ⟨_, _, _, rfl, ?_⟩
      cases k with
      | none => exact CF.PE.weaken pe_non go
      | bool b => exact CF.PE.weaken pe_bl go
      | int i => exact CF.PE.weaken pe_int go
      | str x => exact CF.PE.weaken pe_str go
      | _ => cases h2
    · cases h
  refine ⟨fun c X e h C => (pe c X e h C).elim fun _ z => z.elim fun _ z => z.elim fun _ z => z.2, fun c X e h C => ?_, fun c X op es p h C => ?_, fun c X e h C hf => by cases hf⟩
  · obtain ⟨x, j, pos, rfl, P⟩ := pe c X e h C
    exact CF.PT.weaken (pt_val P) fun _ _ _ => tT_tE
  · unfold chkE at h
    cases h
theorem se_glb (x : Str) (k : Const) : SE F Γ (.glb x k) := by
  have pe : ∀ (c : CI) (X : Cx) (e : PySem.Expr), chkE c (.glb x k) e = true → CtxOk X c Γ F.W → ∃ x pos, e = .Name x pos ∧ PE X e (tE F Γ (.glb x k)) := fun c X e h C => by
    unfold chkE at h
    split at h
    · rename_i y pos
      simp only [Bool.and_eq_true, decide_eq_true_eq] at h
      obtain ⟨⟨⟨⟨h1, h2⟩, h3⟩, h4⟩, h5⟩ := h
      obtain rfl := eqs_eq h1
      obtain ⟨u, hm, r⟩ := C.gl _ _ h4
      refine ⟨_, _, rfl, CF.PE.weaken (pe_glob (C.glb h2) hm r (nmB_dbg h3).1) fun σ H Q h => ?_⟩
      obtain ⟨HF, η, d, η', S, e, kk⟩ := h
      rw [evE] at e
      obtain ⟨d', e1, e2⟩ := Option.map_eq_some_iff.mp e
      cases e2
      exact kk _ H HF S .refl (cst_rep e1)
    · cases h
  refine ⟨fun c X e h C => (pe c X e h C).elim fun _ z => z.elim fun _ z => z.2, fun c X e h C => ?_, fun c X op es p h C => ?_, fun c X e h C hf => by cases hf⟩
  · obtain ⟨x, pos, rfl, P⟩ := pe c X e h C
    exact CF.PT.weaken (pt_val P) fun _ _ _ => tT_tE
  · unfold chkE at h
    cases h

/-! ## and, or, not, if -/
theorem tE_and {a b : Ex} {σ : L2.St} {H : Hp} {Q : VK} (h : tE F Γ (.and a b) σ H Q) : tAndV (tE F Γ a) (tE F Γ b) σ H Q := by
  obtain ⟨HF, η, d, η', S, e, k⟩ := h
  rw [evE] at e
  split at e
  · rename_i η1 e1
    refine ⟨HF, η, _, η1, S, e1, fun v H1 HF1 S1 s1 r => ?_⟩
    cases r
    refine ⟨true, rfl, ?_⟩
    show (if true = true then _ else _)
    rw [if_pos rfl]
    exact ⟨HF1, η1, d, η', S1, e, fun v H2 HF2 S2 s2 r => k v H2 HF2 S2 (s1.trans s2) r⟩
  · rename_i η1 e1
    cases e
    refine ⟨HF, η, _, _, S, e1, fun v H1 HF1 S1 s1 r => ?_⟩
    cases r
    refine ⟨false, rfl, ?_⟩
    show (if false = true then _ else _)
    rw [if_neg Bool.false_ne_true]
    exact k _ H1 HF1 S1 s1 (.bl false)
  · cases e
theorem tE_or {a b : Ex} {σ : L2.St} {H : Hp} {Q : VK} (h : tE F Γ (.or a b) σ H Q) : tOrV (tE F Γ a) (tE F Γ b) σ H Q := by
  obtain ⟨HF, η, d, η', S, e, k⟩ := h
  rw [evE] at e
  split at e
  · rename_i η1 e1
    cases e
    refine ⟨HF, η, _, _, S, e1, fun v H1 HF1 S1 s1 r => ?_⟩
    cases r
    refine ⟨true, rfl, ?_⟩
    show (if true = true then _ else _)
    rw [if_pos rfl]
    exact k _ H1 HF1 S1 s1 (.bl true)
  · rename_i η1 e1
    refine ⟨HF, η, _, η1, S, e1, fun v H1 HF1 S1 s1 r => ?_⟩
    cases r
    refine ⟨false, rfl, ?_⟩
    show (if false = true then _ else _)
    rw [if_neg Bool.false_ne_true]
    exact ⟨HF1, η1, d, η', S1, e, fun v H2 HF2 S2 s2 r => k v H2 HF2 S2 (s1.trans s2) r⟩
  · cases e
theorem tT_and {a b : Ex} {σ : L2.St} {H : Hp} {Q : Bool → Hp → Prop} (h : tT F Γ (.and a b) σ H Q) : tAnd (tT F Γ a) (tT F Γ b) σ H Q := by
  obtain ⟨HF, η, d, η', S, e, k⟩ := h
  rw [evE] at e
  split at e
  · rename_i η1 e1
    refine ⟨HF, η, _, η1, S, e1, fun H1 HF1 S1 s1 => ?_⟩
    show (if true = true then _ else _)
    rw [if_pos rfl]
    exact ⟨HF1, η1, d, η', S1, e, fun H2 HF2 S2 s2 => k H2 HF2 S2 (s1.trans s2)⟩
  · rename_i η1 e1
    cases e
    refine ⟨HF, η, _, _, S, e1, fun H1 HF1 S1 s1 => ?_⟩
    show (if false = true then _ else _)
    rw [if_neg Bool.false_ne_true]
    exact k H1 HF1 S1 s1
  · cases e
theorem tT_or {a b : Ex} {σ : L2.St} {H : Hp} {Q : Bool → Hp → Prop} (h : tT F Γ (.or a b) σ H Q) : tOr (tT F Γ a) (tT F Γ b) σ H Q := by
  obtain ⟨HF, η, d, η', S, e, k⟩ := h
  rw [evE] at e
  split at e
  · rename_i η1 e1
    cases e
    refine ⟨HF, η, _, _, S, e1, fun H1 HF1 S1 s1 => ?_⟩
    show (if true = true then _ else _)
    rw [if_pos rfl]
    exact k H1 HF1 S1 s1
  · rename_i η1 e1
    refine ⟨HF, η, _, η1, S, e1, fun H1 HF1 S1 s1 => ?_⟩
    show (if false = true then _ else _)
    rw [if_neg Bool.false_ne_true]
    exact ⟨HF1, η1, d, η', S1, e, fun H2 HF2 S2 s2 => k H2 HF2 S2 (s1.trans s2)⟩
  · cases e
theorem se_and {a b : Ex} (ha : SE F Γ a) (hb : SE F Γ b) : SE F Γ (.and a b) := by
  have both : ∀ (c : CI) (X : Cx) (e : PySem.Expr), chkE c (.and a b) e = true → CtxOk X c Γ F.W → PE X e (tE F Γ (.and a b)) ∧ PW X e (tT F Γ (.and a b)) := fun c X e h C => by
    unfold chkE at h
    split at h
    · rw [Bool.and_eq_true] at h
      exact ⟨CF.PE.weaken (pe_and (ha.pe c X _ h.1 C) (pe_one (hb.pe c X _ h.2 C))) fun _ _ _ => tE_and, ⟨fun wh pins s σ H Q I q => (pw_and (ha.pt c X _ h.1 C) (pw_and1 (hb.pt c X _ h.2 C))).run wh pins s σ H Q I (tT_and q)⟩⟩
    · rw [Bool.and_eq_true] at h
      exact ⟨CF.PE.weaken (pe_and (ha.pe c X _ h.1 C) (hb.pe c X _ h.2 C)) fun _ _ _ => tE_and, ⟨fun wh pins s σ H Q I q => (pw_and (ha.pt c X _ h.1 C) (hb.pw c X _ _ _ h.2 C)).run wh pins s σ H Q I (tT_and q)⟩⟩
    · cases h
  exact ⟨fun c X e h C => (both c X e h C).1, fun c X e h C => (both c X e h C).2.pt, fun c X op es p h C => (both c X _ h C).2, fun c X e h C hf => by cases hf⟩
theorem se_or {a b : Ex} (ha : SE F Γ a) (hb : SE F Γ b) : SE F Γ (.or a b) := by
  have both : ∀ (c : CI) (X : Cx) (e : PySem.Expr), chkE c (.or a b) e = true → CtxOk X c Γ F.W → PE X e (tE F Γ (.or a b)) ∧ PW X e (tT F Γ (.or a b)) := fun c X e h C => by
    unfold chkE at h
    split at h
    · rw [Bool.and_eq_true] at h
      exact ⟨CF.PE.weaken (pe_or (ha.pe c X _ h.1 C) (pe_one (hb.pe c X _ h.2 C))) fun _ _ _ => tE_or, ⟨fun wh pins s σ H Q I q => (pw_or (ha.pt c X _ h.1 C) (pw_or1 (hb.pt c X _ h.2 C))).run wh pins s σ H Q I (tT_or q)⟩⟩
    · rw [Bool.and_eq_true] at h
      exact ⟨CF.PE.weaken (pe_or (ha.pe c X _ h.1 C) (hb.pe c X _ h.2 C)) fun _ _ _ => tE_or, ⟨fun wh pins s σ H Q I q => (pw_or (ha.pt c X _ h.1 C) (hb.pw c X _ _ _ h.2 C)).run wh pins s σ H Q I (tT_or q)⟩⟩
    · cases h
  exact ⟨fun c X e h C => (both c X e h C).1, fun c X e h C => (both c X e h C).2.pt, fun c X op es p h C => (both c X _ h C).2, fun c X e h C hf => by cases hf⟩
theorem se_not {a : Ex} (ha : SE F Γ a) : SE F Γ (.not a) := by
  have both : ∀ (c : CI) (X : Cx) (e : PySem.Expr), chkE c (.not a) e = true → CtxOk X c Γ F.W → PE X e (tE F Γ (.not a)) ∧ PT X e (tT F Γ (.not a)) := fun c X e h C => by
    unfold chkE at h
    split at h
    · refine ⟨CF.PE.weaken (pe_not (ha.pe c X _ h C)) fun σ H Q h => ?_, CF.PT.weaken (pt_not (ha.pt c X _ h C)) fun σ H Q h => ?_⟩
      · obtain ⟨HF, η, d, η', S, e, k⟩ := h
        rw [evE] at e
        split at e
        · rename_i b η1 e1
          cases e
          refine ⟨HF, η, _, _, S, e1, fun v H1 HF1 S1 s1 r => ?_⟩
          cases r
          exact ⟨b, rfl, k _ H1 HF1 S1 s1 (.bl _)⟩
        · cases e
      · obtain ⟨HF, η, d, η', S, e, k⟩ := h
        rw [evE] at e
        split at e
        · rename_i b η1 e1
          cases e
          exact ⟨HF, η, _, _, S, e1, fun H1 HF1 S1 s1 => k H1 HF1 S1 s1⟩
        · cases e
    · cases h
  refine ⟨fun c X e h C => (both c X e h C).1, fun c X e h C => (both c X e h C).2, fun c X op es p h C => ?_, fun c X e h C hf => by cases hf⟩
  unfold chkE at h
  cases h
theorem pt_if {X : Cx} {c a b : PySem.Expr} {tA tB tC : TT} {pos : Pos} (hc : PT X c tA) (ha : PT X a tB) (hb : PT X b tC) : PT X (.IfExp c a b pos) (fun σ H Q => tA σ H fun k H1 => if k = true then tB σ H1 Q else tC σ H1 Q) := by
  refine ⟨fun pins s σ H Q I h => ?_⟩
  refine isTrue_IfExp (thn (hc.run pins s σ H _ I h) fun d s1 ⟨H1, I1, q1⟩ => ?_)
  cases d with
  | true => exact ha.run pins s1 σ H1 Q I1 q1
  | false => exact hb.run pins s1 σ H1 Q I1 q1
theorem se_ite {t a b : Ex} (ht : SE F Γ t) (ha : SE F Γ a) (hb : SE F Γ b) : SE F Γ (.ite t a b) := by
  have both : ∀ (c : CI) (X : Cx) (e : PySem.Expr), chkE c (.ite t a b) e = true → CtxOk X c Γ F.W → PE X e (tE F Γ (.ite t a b)) ∧ PT X e (tT F Γ (.ite t a b)) := fun c X e h C => by
    unfold chkE at h
    split at h
    · simp only [Bool.and_eq_true] at h
      refine ⟨CF.PE.weaken (pe_ifExp (ht.pt c X _ h.1.1 C) (ha.pe c X _ h.1.2 C) (hb.pe c X _ h.2 C)) fun σ H Q h => ?_, CF.PT.weaken (pt_if (ht.pt c X _ h.1.1 C) (ha.pt c X _ h.1.2 C) (hb.pt c X _ h.2 C)) fun σ H Q h => ?_⟩
      · obtain ⟨HF, η, d, η', S, e, k⟩ := h
        rw [evE] at e
        split at e
        · rename_i η1 e1
          refine ⟨HF, η, _, η1, S, e1, fun H1 HF1 S1 s1 => ?_⟩
          show (if true = true then _ else _)
          rw [if_pos rfl]
          exact ⟨HF1, η1, d, η', S1, e, fun v H2 HF2 S2 s2 r => k v H2 HF2 S2 (s1.trans s2) r⟩
        · rename_i η1 e1
          refine ⟨HF, η, _, η1, S, e1, fun H1 HF1 S1 s1 => ?_⟩
          show (if false = true then _ else _)
          rw [if_neg Bool.false_ne_true]
          exact ⟨HF1, η1, d, η', S1, e, fun v H2 HF2 S2 s2 r => k v H2 HF2 S2 (s1.trans s2) r⟩
        · cases e
      · obtain ⟨HF, η, d, η', S, e, k⟩ := h
        rw [evE] at e
        split at e
        · rename_i η1 e1
          refine ⟨HF, η, _, η1, S, e1, fun H1 HF1 S1 s1 => ?_⟩
          show (if true = true then _ else _)
          rw [if_pos rfl]
          exact ⟨HF1, η1, d, η', S1, e, fun H2 HF2 S2 s2 => k H2 HF2 S2 (s1.trans s2)⟩
        · rename_i η1 e1
          refine ⟨HF, η, _, η1, S, e1, fun H1 HF1 S1 s1 => ?_⟩
          show (if false = true then _ else _)
          rw [if_neg Bool.false_ne_true]
          exact ⟨HF1, η1, d, η', S1, e, fun H2 HF2 S2 s2 => k H2 HF2 S2 (s1.trans s2)⟩
        · cases e
    · cases h
  refine ⟨fun c X e h C => (both c X e h C).1, fun c X e h C => (both c X e h C).2, fun c X op es p h C => ?_, fun c X e h C hf => by cases hf⟩
  unfold chkE at h
  cases h
theorem tE_chain {o1 o2 : CmpOp} {a b d : Op} {σ : L2.St} {H : Hp} {Q : VK} (h : tE F Γ (.chain o1 o2 a b d) σ H Q) :
    tChain (fun x y H Q => rV F.W (.cmp o1) [x, y] H Q) (fun x y H Q => rV F.W (.cmp o2) [x, y] H Q) (tO F Γ a) (tO F Γ b) (tO F Γ d) σ H Q := by
  obtain ⟨HF, η, r, η', S, e, k⟩ := h
  rw [evE] at e
  split at e
  · cases e
  rename_i x η1 ea
  split at e
  · cases e
  rename_i y η2 eb
  split at e
  · rename_i x' y' fx fy
    refine ⟨HF, η, x, η1, S, ea, fun vx H1 HF1 S1 s1 ox => ⟨HF1, η1, y, η2, S1, eb, fun vy H2 HF2 S2 s2 oy => ?_⟩⟩
    have rx := (ox.mono s2.f).fin S2 fx
    have ry := oy.fin S2 fy
    split at e
    · rename_i ec
      cases e
      refine ⟨HF2, [x', y'], .bl false, S2.sub, ⟨rx, ry, trivial⟩, (by show (cmpD o1 x' y').map Dv.bl = _; rw [ec]; rfl), fun v q => ?_, fun _ _ _ z => (by cases z), fun _ _ _ z => (by cases z)⟩
      cases q
      refine ⟨false, rfl, ?_⟩
      rw [if_neg Bool.false_ne_true]
      exact k _ H2 HF2 S2 (s1.trans s2) (.bl false)
    · rename_i ec
      split at e
      · cases e
      rename_i z η3 ed
      split at e
      · rename_i y2 z2 gy gz
        obtain ⟨r2, e2, e3⟩ := Option.map_eq_some_iff.mp e
        cases e3
        refine ⟨HF2, [x', y'], .bl true, S2.sub, ⟨rx, ry, trivial⟩, (by show (cmpD o1 x' y').map Dv.bl = _; rw [ec]; rfl), fun v q => ?_, fun _ _ _ z => (by cases z), fun _ _ _ z => (by cases z)⟩
        cases q
        refine ⟨true, rfl, ?_⟩
        rw [if_pos rfl]
        refine ⟨HF2, η2, z, _, S2, ed, fun vz H3 HF3 S3 s3 oz => ⟨HF3, [y2, z2], .bl r2, S3.sub, ⟨(oy.mono s3.f).fin S3 gy, oz.fin S3 gz, trivial⟩, (by show (cmpD o2 y2 z2).map Dv.bl = _; rw [e2]; rfl), fun v q => ?_, fun _ _ _ z => (by cases z), fun _ _ _ z => (by cases z)⟩⟩
        exact k _ H3 HF3 S3 (s1.trans (s2.trans s3)) q
      · cases e
    · cases e
  · cases e
theorem se_chain {o1 o2 : CmpOp} {a b d : Op} (ha : SO F Γ a) (hb : SO F Γ b) (hd : SO F Γ d) : SE F Γ (.chain o1 o2 a b d) := by
  have both : ∀ (c : CI) (X : Cx) (e : PySem.Expr), chkE c (.chain o1 o2 a b d) e = true → CtxOk X c Γ F.W → PE X e (tE F Γ (.chain o1 o2 a b d)) ∧ PT X e (tT F Γ (.chain o1 o2 a b d)) := fun c X e h C => by
    unfold chkE at h
    split at h
    · simp only [Bool.and_eq_true, decide_eq_true_eq, Bool.not_eq_true'] at h
      obtain ⟨⟨⟨⟨⟨⟨⟨⟨h0, rfl⟩, rfl⟩, h1⟩, h2⟩, h3⟩, _⟩, _⟩, _⟩ := h
      exact ⟨CF.PE.weaken (pe_chain (cmp_ok C.K C.hu _) (cmp_ok C.K C.hu _) (ha c X _ h1 C) (hb c X _ h2 C) (hd c X _ h3 C) h0) fun _ _ _ => tE_chain, CF.PT.weaken (pt_chain (cmp_ok C.K C.hu _) (cmp_ok C.K C.hu _) (ha c X _ h1 C) (hb c X _ h2 C) (hd c X _ h3 C) h0) fun _ _ _ h => tE_chain (tT_tE h)⟩
    · cases h
  refine ⟨fun c X e h C => (both c X e h C).1, fun c X e h C => (both c X e h C).2, fun c X op es p h C => ?_, fun c X e h C hf => by cases hf⟩
  unfold chkE at h
  cases h
end
end CF

set_option Elab.async false
set_option linter.all false
set_option maxRecDepth 100000
namespace CF
open PySem PySem.Spec PyProof.Rows L2

/-! ## targets -/
def tgOk (e : PySem.Expr) : Prop := ∀ (es : List PySem.Expr) (env : PySem.Env), assignEach (e :: es) env = (false, assign e env) :: assignEach es env
def gT (F : Fx) (tg : Tg) : TG := fun v σ H Q => ∃ HF η d η', SR F HF σ H η ∧ Rep F.W HF v d ∧ setTg tg d η = some η' ∧
  ∀ σ', SR F HF σ' H η' → (∀ j, j ∉ tgSlots tg → σ'[j]? = σ[j]?) → σ'.length = σ.length → (∀ a, Own η' σ' a → Own η σ a) → Q σ' H
theorem PG.weaken {X : Cx} {e : PySem.Expr} {t t' : TG} (h : PG X e t) (k : ∀ v σ H Q, t' v σ H Q → t v σ H Q) : PG X e t' := ⟨fun pins s σ H v u Q I r q => h.run pins s σ H v u Q I r (k v σ H Q q)⟩
theorem free_lt {η : CF.Env} {i : Nat} (h : free η i = true) : i < η.length := by
  unfold free at h
  split at h
  · cases h
  · rename_i sv _ e
    exact (List.getElem?_eq_some_iff.mp e).1
  · cases h
theorem Reps.pair {W : Wd} {H : Hp} {vs : List V} {a b : Dv} (r : Reps W H vs [a, b]) : ∃ u v, vs = [u, v] ∧ Rep W H u a ∧ Rep W H v b := by
  cases r with
  | cons h1 r => cases r with
    | cons h2 r => cases r; exact ⟨_, _, rfl, h1, h2⟩
theorem Reps.trip {W : Wd} {H : Hp} {vs : List V} {a b c : Dv} (r : Reps W H vs [a, b, c]) : ∃ u v w, vs = [u, v, w] ∧ Rep W H u a ∧ Rep W H v b ∧ Rep W H w c := by
  cases r with
  | cons h1 r =>
    obtain ⟨_, _, rfl, h2, h3⟩ := r.pair
    exact ⟨_, _, _, rfl, h1, h2, h3⟩
theorem Reps.quad {W : Wd} {H : Hp} {vs : List V} {a b c d : Dv} (r : Reps W H vs [a, b, c, d]) : ∃ u v w z, vs = [u, v, w, z] ∧ Rep W H u a ∧ Rep W H v b ∧ Rep W H w c ∧ Rep W H z d := by
  cases r with
  | cons h1 r =>
    obtain ⟨_, _, _, rfl, h2, h3, h4⟩ := r.trip
    exact ⟨_, _, _, _, rfl, h1, h2, h3, h4⟩
theorem rep_tup {W : Wd} {H : Hp} {v : V} {xs : List Dv} (r : Rep W H v (.tup xs)) : ∃ p vs, v = .ref p ∧ SqT W.K H p vs ∧ Reps W H vs xs := by
  cases r with
  | tup h rs => exact ⟨_, _, rfl, h, rs⟩
theorem setTg_two {a b : Tg} {d : Dv} {η η' : CF.Env} (e : setTg (.two a b) d η = some η') : ∃ x y η1, d = .tup [x, y] ∧ setTg a x η = some η1 ∧ setTg b y η1 = some η' := by
  cases d with
  | tup xs =>
    match xs, e with
    | [x, y], e =>
      obtain ⟨η1, e1, e2⟩ := Option.bind_eq_some_iff.mp (show (setTg a x η).bind (setTg b y) = some η' from e)
      exact ⟨x, y, η1, rfl, e1, e2⟩
    | [], e => cases e
    | [_], e => cases e
    | _ :: _ :: _ :: _, e => cases e
  | _ => cases e
theorem setTg_three {a b c : Tg} {d : Dv} {η η' : CF.Env} (e : setTg (.three a b c) d η = some η') : ∃ x y z η1 η2, d = .tup [x, y, z] ∧ setTg a x η = some η1 ∧ setTg b y η1 = some η2 ∧ setTg c z η2 = some η' := by
  cases d with
  | tup xs =>
    match xs, e with
    | [x, y, z], e =>
      obtain ⟨η2, e0, e3⟩ := Option.bind_eq_some_iff.mp (show ((setTg a x η).bind (setTg b y)).bind (setTg c z) = some η' from e)
      obtain ⟨η1, e1, e2⟩ := Option.bind_eq_some_iff.mp e0
      exact ⟨x, y, z, η1, η2, rfl, e1, e2, e3⟩
    | [], e => cases e
    | [_], e => cases e
    | [_, _], e => cases e
    | _ :: _ :: _ :: _ :: _, e => cases e
  | _ => cases e
theorem setTg_four {a b c f : Tg} {d : Dv} {η η' : CF.Env} (e : setTg (.four a b c f) d η = some η') : ∃ x y z w η1 η2 η3, d = .tup [x, y, z, w] ∧ setTg a x η = some η1 ∧ setTg b y η1 = some η2 ∧ setTg c z η2 = some η3 ∧ setTg f w η3 = some η' := by
  cases d with
  | tup xs =>
    match xs, e with
    | [x, y, z, w], e =>
      obtain ⟨η3, ee, e4⟩ := Option.bind_eq_some_iff.mp (show (((setTg a x η).bind (setTg b y)).bind (setTg c z)).bind (setTg f w) = some η' from e)
      obtain ⟨η2, e0, e3⟩ := Option.bind_eq_some_iff.mp ee
      obtain ⟨η1, e1, e2⟩ := Option.bind_eq_some_iff.mp e0
      exact ⟨x, y, z, w, η1, η2, η3, rfl, e1, e2, e3, e4⟩
    | [], e => cases e
    | [_], e => cases e
    | [_, _], e => cases e
    | [_, _, _], e => cases e
    | _ :: _ :: _ :: _ :: _ :: _, e => cases e
  | _ => cases e
section
variable {F : Fx}
/-- one target behind another -/
theorem gT_cons {tg : Tg} {v : V} {σ : L2.St} {H HF : Hp} {η η' : CF.Env} {d : Dv} {Q : L2.St → Hp → Prop} (S : SR F HF σ H η) (r : Rep F.W HF v d) (e : setTg tg d η = some η')
    (k : ∀ σ', SR F HF σ' H η' → (∀ j, j ∉ tgSlots tg → σ'[j]? = σ[j]?) → σ'.length = σ.length → (∀ a, Own η' σ' a → Own η σ a) → Q σ' H) : gT F tg v σ H Q := ⟨HF, η, d, η', S, r, e, k⟩
theorem pg_ok {c : CI} {X : Cx} (C : CtxOk X c Γ F.W) : ∀ (tg : Tg) (e : PySem.Expr), chkG c tg e = true → PG X e (gT F tg) ∧ tgOk e
  | .n i, e, h => by
    unfold chkG at h
    split at h
    · rw [Bool.and_eq_true] at h
      obtain ⟨h1, h2⟩ := C.sto h.2
      refine ⟨CF.PG.weaken (pg_name (by rw [C.N]; exact C.nd) (C.slot h.1) h1 h2) fun v σ H Q q => ?_, fun _ _ => rfl⟩
      obtain ⟨HF, η, d, η', S, r, e, k⟩ := q
      unfold setTg at e
      obtain ⟨e1, rfl⟩ := if_some e
      have hi : i < σ.length := by
        rw [← S.len]
        exact free_lt e1
      refine k _ (S.setDat r hi) (fun j hj => ?_) (List.length_set ..) fun a ⟨j, z⟩ => ⟨j, own_unset rfl z⟩
      rw [List.getElem?_set_ne]
      intro z
      exact hj (by rw [← z]; exact List.mem_singleton.mpr rfl)
    · cases h
  | .two a b, e, h => by
    unfold chkG at h
    split at h
    · rename_i x y _ _
      rw [Bool.and_eq_true] at h
      obtain ⟨p1, t1⟩ := pg_ok C a x h.1
      obtain ⟨p2, t2⟩ := pg_ok C b y h.2
      have P : PGs X [x, y] _ := pgs_cons p1 (pgs_cons p2 pgs_nil (by rw [t2]; rfl)) (by rw [t1]; rfl)
      refine ⟨CF.PG.weaken (pg_tup (n := 2) C.calm P (by rw [t1, t2]; rfl) (by rw [t1, t2]; rfl)) fun v σ H Q q => ?_, fun _ _ => rfl⟩
      obtain ⟨HF, η, d, η', S, r, e, k⟩ := q
      obtain ⟨_, _, η1, rfl, e1, e2⟩ := setTg_two e
      obtain ⟨p, vs, rfl, hq, rs⟩ := rep_tup r
      obtain ⟨u1, u2, rfl, r1, r2⟩ := rs.pair
      refine ⟨p, _, rfl, C.K ▸ Same.sqT S.sub hq, rfl, u1, _, rfl, gT_cons S r1 e1 fun σ1 S1 g1 l1 o1 => ⟨u2, _, rfl, gT_cons S1 r2 e2 fun σ2 S2 g2 l2 o2 => ⟨rfl, k σ2 S2 (fun j hj => ?_) (l2.trans l1) fun a z => o1 a (o2 a z)⟩⟩⟩
      simp only [tgSlots, List.mem_append, not_or] at hj
      rw [g2 j hj.2, g1 j hj.1]
    · cases h
  | .three a b d, e, h => by
    unfold chkG at h
    split at h
    · rename_i x y z _ _
      simp only [Bool.and_eq_true] at h
      obtain ⟨p1, t1⟩ := pg_ok C a x h.1.1
      obtain ⟨p2, t2⟩ := pg_ok C b y h.1.2
      obtain ⟨p3, t3⟩ := pg_ok C d z h.2
      have P : PGs X [x, y, z] _ := pgs_cons p1 (pgs_cons p2 (pgs_cons p3 pgs_nil (by rw [t3]; rfl)) (by rw [t2]; rfl)) (by rw [t1]; rfl)
      refine ⟨CF.PG.weaken (pg_tup (n := 3) C.calm P (by rw [t1, t2, t3]; rfl) (by rw [t1, t2, t3]; rfl)) fun v σ H Q q => ?_, fun _ _ => rfl⟩
      obtain ⟨HF, η, d', η', S, r, e, k⟩ := q
      obtain ⟨_, _, _, η1, η2, rfl, e1, e2, e3⟩ := setTg_three e
      obtain ⟨p, vs, rfl, hq, rs⟩ := rep_tup r
      obtain ⟨u1, u2, u3, rfl, r1, r2, r3⟩ := rs.trip
      refine ⟨p, _, rfl, C.K ▸ Same.sqT S.sub hq, rfl, u1, _, rfl, gT_cons S r1 e1 fun σ1 S1 g1 l1 o1 => ⟨u2, _, rfl, gT_cons S1 r2 e2 fun σ2 S2 g2 l2 o2 => ⟨u3, _, rfl, gT_cons S2 r3 e3 fun σ3 S3 g3 l3 o3 => ⟨rfl, k σ3 S3 (fun j hj => ?_) (l3.trans (l2.trans l1)) fun a z => o1 a (o2 a (o3 a z))⟩⟩⟩⟩
      simp only [tgSlots, List.mem_append, not_or] at hj
      rw [g3 j hj.2.2, g2 j hj.2.1, g1 j hj.1]
    · cases h
  | .four a b d f, e, h => by
    unfold chkG at h
    split at h
    · rename_i x y z w _ _
      simp only [Bool.and_eq_true] at h
      obtain ⟨p1, t1⟩ := pg_ok C a x h.1.1.1
      obtain ⟨p2, t2⟩ := pg_ok C b y h.1.1.2
      obtain ⟨p3, t3⟩ := pg_ok C d z h.1.2
      obtain ⟨p4, t4⟩ := pg_ok C f w h.2
      have P : PGs X [x, y, z, w] _ := pgs_cons p1 (pgs_cons p2 (pgs_cons p3 (pgs_cons p4 pgs_nil (by rw [t4]; rfl)) (by rw [t3]; rfl)) (by rw [t2]; rfl)) (by rw [t1]; rfl)
      refine ⟨CF.PG.weaken (pg_tup (n := 4) C.calm P (by rw [t1, t2, t3, t4]; rfl) (by rw [t1, t2, t3, t4]; rfl)) fun v σ H Q q => ?_, fun _ _ => rfl⟩
      obtain ⟨HF, η, d', η', S, r, e, k⟩ := q
      obtain ⟨_, _, _, _, η1, η2, η3, rfl, e1, e2, e3, e4⟩ := setTg_four e
      obtain ⟨p, vs, rfl, hq, rs⟩ := rep_tup r
      obtain ⟨u1, u2, u3, u4, rfl, r1, r2, r3, r4⟩ := rs.quad
      refine ⟨p, _, rfl, C.K ▸ Same.sqT S.sub hq, rfl, u1, _, rfl, gT_cons S r1 e1 fun σ1 S1 g1 l1 o1 => ⟨u2, _, rfl, gT_cons S1 r2 e2 fun σ2 S2 g2 l2 o2 => ⟨u3, _, rfl, gT_cons S2 r3 e3 fun σ3 S3 g3 l3 o3 => ⟨u4, _, rfl, gT_cons S3 r4 e4 fun σ4 S4 g4 l4 o4 => ⟨rfl, k σ4 S4 (fun j hj => ?_) (l4.trans (l3.trans (l2.trans l1))) fun a z => o1 a (o2 a (o3 a (o4 a z)))⟩⟩⟩⟩⟩
      simp only [tgSlots, List.mem_append, not_or] at hj
      rw [g4 j hj.2.2.2, g3 j hj.2.2.1, g2 j hj.2.1, g1 j hj.1]
    · cases h
end
end CF

set_option Elab.async false
set_option linter.all false
set_option maxRecDepth 100000
namespace CF
open PySem PySem.Spec PyProof.Rows L2

section
variable {F : Fx} {HF HF' : Hp} {σ σ' : L2.St} {H H' : Hp} {η η' : CF.Env}
theorem wipeE_len : ∀ vs : List Nat, (wipeE η vs).length = η.length
  | [] => rfl
  | v :: vs => by
    unfold wipeE
    rw [List.length_set, wipeE_len vs]
theorem wipeE_out {i : Nat} : ∀ {vs : List Nat}, i ∉ vs → (wipeE η vs)[i]? = η[i]?
  | [], _ => rfl
  | v :: vs, h => by
    have h1 : v ≠ i := fun e => h (by rw [e]; exact List.mem_cons_self)
    unfold wipeE
    rw [List.getElem?_set_ne h1]
    exact wipeE_out fun m => h (List.mem_cons_of_mem _ m)
theorem wipeE_in {i : Nat} : ∀ {vs : List Nat}, i ∈ vs → i < η.length → (wipeE η vs)[i]? = some .no
  | v :: vs, h, hl => by
    unfold wipeE
    by_cases e : v = i
    · subst e
      rw [List.getElem?_set_self (by rw [wipeE_len]; exact hl)]
    · rw [List.getElem?_set_ne e]
      refine wipeE_in ?_ hl
      rcases List.mem_cons.mp h with z | z
      · exact absurd z.symm e
      · exact z
theorem unwipe_len {η0 : CF.Env} : ∀ vs : List Nat, (unwipe η0 η vs).length = η.length
  | [] => rfl
  | v :: vs => by
    unfold unwipe
    split
    · rw [List.length_set, unwipe_len vs]
    · exact unwipe_len vs
theorem unwipe_out {η0 : CF.Env} {i : Nat} : ∀ {vs : List Nat}, i ∉ vs → (unwipe η0 η vs)[i]? = η[i]?
  | [], _ => rfl
  | v :: vs, h => by
    have h1 : v ≠ i := fun e => h (by rw [e]; exact List.mem_cons_self)
    unfold unwipe
    split
    · rw [List.getElem?_set_ne h1]
      exact unwipe_out fun m => h (List.mem_cons_of_mem _ m)
    · exact unwipe_out fun m => h (List.mem_cons_of_mem _ m)
theorem unwipe_in {η0 : CF.Env} {i : Nat} {sv : SV} : ∀ {vs : List Nat}, i ∈ vs → i < η.length → η0[i]? = some sv → (unwipe η0 η vs)[i]? = some sv
  | v :: vs, h, hl, e0 => by
    unfold unwipe
    by_cases e : v = i
    · subst e
      rw [e0]
      show ((unwipe η0 η vs).set v sv)[v]? = some sv
      rw [List.getElem?_set_self (by rw [unwipe_len]; exact hl)]
    · have hm : i ∈ vs := by
        rcases List.mem_cons.mp h with z | z
        · exact absurd z.symm e
        · exact z
      split
      · rw [List.getElem?_set_ne e]
        exact unwipe_in hm hl e0
      · exact unwipe_in hm hl e0
theorem noOwn_in {vs : List Nat} {i : Nat} (h : noOwn η vs = true) (hi : i ∈ vs) {sv : SV} (e : η[i]? = some sv) : sv.own = false := by
  have z := List.all_eq_true.mp h i hi
  rw [e] at z
  simpa using z
theorem own_wipe {vs : List Nat} {a : Addr} (h : Own (wipeE η vs) (wipe σ vs) a) : Own η σ a := by
  obtain ⟨j, sv, e, o, q⟩ := h
  have hj : j ∉ vs := fun m => by
    by_cases hl : j < η.length
    · rw [wipeE_in m hl] at e
      cases e
      cases o
    · have := (List.getElem?_eq_some_iff.mp e).1
      rw [wipeE_len] at this
      exact hl this
  rw [wipeE_out hj] at e
  rw [wipe_out hj] at q
  exact ⟨j, sv, e, o, q⟩
theorem own_unwipe {η0 : CF.Env} {vs : List Nat} {a : Addr} (hn : noOwn η0 vs = true) (hl0 : η0.length = η.length) (h : Own (unwipe η0 η vs) σ a) : Own η (wipe σ vs) a := by
  obtain ⟨j, sw, e, o, q⟩ := h
  have hj : j ∉ vs := fun m => by
    have hl := (List.getElem?_eq_some_iff.mp e).1
    rw [unwipe_len] at hl
    obtain ⟨sv, h0⟩ : ∃ sv, η0[j]? = some sv := ⟨η0[j]'(hl0 ▸ hl), List.getElem?_eq_getElem _⟩
    rw [unwipe_in m hl h0] at e
    cases e
    rw [noOwn_in hn m h0] at o
    cases o
  rw [unwipe_out hj] at e
  exact ⟨j, sw, e, o, by rw [wipe_out hj]; exact q⟩
theorem SR.wipe (S : SR F HF σ H η) (vs : List Nat) : SR F HF (L2.wipe σ vs) H (wipeE η vs) where
  sub := S.sub
  grow := S.grow
  keep := S.keep
  ent := S.ent
  mt := S.mt
  newF := S.newF
  len := by rw [wipeE_len, wipe_length, S.len]
  slot := fun i sv e => by
    by_cases hi : i ∈ vs
    · have hl := (List.getElem?_eq_some_iff.mp e).1
      rw [wipeE_len] at hl
      rw [wipeE_in hi hl] at e
      cases e
      trivial
    · rw [wipeE_out hi] at e
      rw [wipe_out hi]
      exact S.slot i sv e
  apart := fun i j a h1 h2 => by
    have go : ∀ i, OwnAt (wipeE η vs) (L2.wipe σ vs) i a → OwnAt η σ i a := fun i ⟨sv, e, o, q⟩ => by
      have hj : i ∉ vs := fun m => by
        have hl := (List.getElem?_eq_some_iff.mp e).1
        rw [wipeE_len] at hl
        rw [wipeE_in m hl] at e
        cases e
        cases o
      rw [wipeE_out hj] at e
      rw [wipe_out hj] at q
      exact ⟨sv, e, o, q⟩
    exact S.apart i j a (go i h1) (go j h2)
/-- the block's slots as they were ahead of it -/
theorem SR.unwipe {HF0 H0' : Hp} {η0 : CF.Env} (S0 : SR F HF0 σ H0' η0) {vs : List Nat} (S : SR F HF (L2.wipe σ vs) H η) (g : Same HF0 HF) (hn : noOwn η0 vs = true) : SR F HF σ H (CF.unwipe η0 η vs) where
  sub := S.sub
  grow := S.grow
  keep := S.keep
  ent := S.ent
  mt := S.mt
  newF := S.newF
  len := by rw [unwipe_len, S.len, wipe_length]
  slot := fun i sv e => by
    have hl := (List.getElem?_eq_some_iff.mp e).1
    rw [unwipe_len, S.len, wipe_length] at hl
    by_cases hi : i ∈ vs
    · obtain ⟨sv0, h0⟩ : ∃ sv, η0[i]? = some sv := ⟨η0[i]'(by rw [S0.len]; exact hl), List.getElem?_eq_getElem _⟩
      rw [unwipe_in hi (by rw [S.len, wipe_length]; exact hl) h0] at e
      cases e
      have s := S0.slot i _ h0
      cases sv with
      | no => trivial
      | dat d =>
        obtain ⟨v, e1, r⟩ := s
        exact ⟨v, e1, r.mono g⟩
      | lst br xs => exact absurd (noOwn_in hn hi h0) (by simp [SV.own])
      | dic kvs => exact absurd (noOwn_in hn hi h0) (by simp [SV.own])
    · rw [unwipe_out hi] at e
      have s := S.slot i sv e
      rw [wipe_out hi] at s
      exact s
  apart := fun i j a h1 h2 => by
    have go : ∀ i, OwnAt (CF.unwipe η0 η vs) σ i a → OwnAt η (L2.wipe σ vs) i a := fun i ⟨sw, e, o, q⟩ => by
      have hl := (List.getElem?_eq_some_iff.mp e).1
      rw [unwipe_len, S.len, wipe_length] at hl
      have hj : i ∉ vs := fun m => by
        obtain ⟨sv0, h0⟩ : ∃ sv, η0[i]? = some sv := ⟨η0[i]'(by rw [S0.len]; exact hl), List.getElem?_eq_getElem _⟩
        rw [unwipe_in m (by rw [S.len, wipe_length]; exact hl) h0] at e
        cases e
        rw [noOwn_in hn m h0] at o
        cases o
      rw [unwipe_out hj] at e
      exact ⟨sw, e, o, by rw [wipe_out hj]; exact q⟩
    exact S.apart i j a (go i h1) (go j h2)
theorem wipe_eq {vs : List Nat} (h : ∀ j, j ∉ vs → σ'[j]? = (L2.wipe σ vs)[j]?) (hl : σ'.length = (L2.wipe σ vs).length) : L2.wipe σ' vs = L2.wipe σ vs := by
  refine List.ext_getElem? fun j => ?_
  by_cases hj : j ∈ vs
  · by_cases hlt : j < σ.length
    · have in_ : ∀ {τ : L2.St} {ws : List Nat}, j ∈ ws → j < τ.length → (L2.wipe τ ws)[j]? = some none := fun {τ ws} => by
        induction ws with
        | nil => exact fun m => (List.not_mem_nil m).elim
        | cons v ws ih =>
          intro m hl
          unfold L2.wipe
          by_cases e : v = j
          · subst e
            rw [List.getElem?_set_self (by rw [wipe_length]; exact hl)]
          · rw [List.getElem?_set_ne e]
            refine ih ?_ hl
            rcases List.mem_cons.mp m with z | z
            · exact absurd z.symm e
            · exact z
      rw [wipe_length] at hl
      rw [in_ hj (by omega), in_ hj hlt]
    · rw [wipe_length] at hl
      rw [List.getElem?_eq_none (by rw [wipe_length]; omega), List.getElem?_eq_none (by rw [wipe_length]; omega)]
  · rw [wipe_out hj, h j hj]
end

/-! ## what is gone through -/
/-- an iterator over data -/
structure JOk (F : Fx) (HF : Hp) (J : L2.It) (ds : List Dv) : Prop where
  stop : ∀ (i : Nat) (HF1 H : Hp), Same HF HF1 → Same HF1 H → ds.length ≤ i → J.stop i H
  go : ∀ (i : Nat) (d : Dv) (HF1 : Hp) (σ : L2.St) (H : Hp) (η : CF.Env), ds[i]? = some d → Same HF HF1 → SR F HF1 σ H η → J.go i H ∧
    ∀ x H', J.yld i H x H' → ∃ HF2, SR F HF2 σ H' η ∧ Stp σ HF1 H η HF2 H' η ∧ Rep F.W HF2 x d
def tI (F : Fx) (Γ : Tab) (it : CF.It) : TI := fun σ H R => ∃ HF η ds η', SR F HF σ H η ∧ evI Γ it η = some (ds, η') ∧ ∀ J H' HF', SR F HF' σ H' η' → Stp σ HF H η HF' H' η' → JOk F HF' J ds → R J H'
def SI (F : Fx) (Γ : Tab) (it : CF.It) : Prop := ∀ (c : CI) (X : Cx) (tg e : PySem.Expr), chkI c it e = true → tgF it tg = true → CtxOk X c Γ F.W → PI X tg e (tI F Γ it) ∧ ∀ x, foldedSetIterable e X.env x = pure x
section
variable {F : Fx} {Γ : Tab}
theorem jok_list {K : PySem.W.Frag} {HF : Hp} {p : Addr} {vs : List V} {ds : List Dv} (h : HF p = some (.lst vs)) (r : Reps F.W HF vs ds) : JOk F HF (Itl K p) ds where
  stop := fun i HF1 H g1 g2 l => ⟨vs, SqL.of (g2 _ _ (g1 _ _ h)), by rw [r.length]; exact l⟩
  go := fun i d HF1 σ H η e g S => by
    obtain ⟨v, e1, rv⟩ := r.get e
    have hq : SqL K H p vs := SqL.of (S.sub _ _ (g _ _ h))
    refine ⟨⟨vs, v, hq, e1⟩, fun x H' y => ?_⟩
    obtain ⟨rfl, y⟩ := y
    have z := y vs hq
    rw [e1] at z
    cases z
    exact ⟨HF1, S, .refl, rv.mono g⟩
theorem jok_tup {K : PySem.W.Frag} {HF : Hp} {p : Addr} {vs : List V} {ds : List Dv} (hK : F.W.K = K) (h : SqT F.W.K HF p vs) (r : Reps F.W HF vs ds) : JOk F HF (Itt K p) ds where
  stop := fun i HF1 H g1 g2 l => ⟨vs, hK ▸ Same.sqT g2 (Same.sqT g1 h), by rw [r.length]; exact l⟩
  go := fun i d HF1 σ H η e g S => by
    obtain ⟨v, e1, rv⟩ := r.get e
    have hq : SqT K H p vs := hK ▸ Same.sqT S.sub (Same.sqT g h)
    refine ⟨⟨vs, v, hq, e1⟩, fun x H' y => ?_⟩
    obtain ⟨rfl, y⟩ := y
    have z := y vs hq
    rw [e1] at z
    cases z
    exact ⟨HF1, S, .refl, rv.mono g⟩
theorem jok_rng {HF : Hp} (lo : Int) (n : Nat) : JOk F HF (Itr lo n) ((List.range n).map fun (k : Nat) => Dv.int (lo + (k : Int))) where
  stop := fun i _ _ _ _ l => by
    rw [List.length_map, List.length_range] at l
    exact l
  go := fun i d HF1 σ H η e g S => by
    rw [List.getElem?_map] at e
    obtain ⟨k, e1, rfl⟩ := Option.map_eq_some_iff.mp e
    have hl := (List.getElem?_eq_some_iff.mp e1).1
    rw [List.length_range] at hl
    rw [List.getElem?_range hl] at e1
    cases e1
    refine ⟨hl, fun x H' y => ?_⟩
    obtain ⟨rfl, rfl⟩ := y
    exact ⟨HF1, S, .refl, .int _⟩
theorem itOf_some {x : Dv} {xs : List Dv} (h : itOf x = some xs) : (∃ z, x = .str z ∧ xs = z.cps.toList.map fun c => .str ⟨#[c]⟩) ∨ x = .lst xs ∨ x = .tup xs := by
  cases x <;> cases h
  · exact .inl ⟨_, rfl, rfl⟩
  · exact .inr (.inr rfl)
  · exact .inr (.inl rfl)
theorem jok_str {HF : Hp} (z : Str) : JOk F HF (Its z) (z.cps.toList.map fun c => .str ⟨#[c]⟩) where
  stop := fun i _ _ _ _ l => by
    rw [List.length_map, Array.length_toList] at l
    exact l
  go := fun i d HF1 σ H η e g S => by
    rw [List.getElem?_map] at e
    obtain ⟨c, e1, rfl⟩ := Option.map_eq_some_iff.mp e
    rw [Array.getElem?_toList] at e1
    refine ⟨(Array.getElem?_eq_some_iff.mp e1).1, fun x H' y => ?_⟩
    obtain ⟨rfl, c', y1, rfl⟩ := y
    rw [e1] at y1
    cases y1
    exact ⟨HF1, S, .refl, .str _⟩
theorem zipD_at {xs ys : List Dv} {i : Nat} {d : Dv} (e : (zipD xs ys)[i]? = some d) : ∃ x y, d = .tup [x, y] ∧ xs[i]? = some x ∧ ys[i]? = some y := by
  unfold zipD at e
  rw [List.getElem?_map] at e
  obtain ⟨p, e1, rfl⟩ := Option.map_eq_some_iff.mp e
  obtain ⟨e2, e3⟩ := List.getElem?_zip_eq_some.mp e1
  exact ⟨p.1, p.2, rfl, e2, e3⟩
theorem zipD_len (xs ys : List Dv) : (zipD xs ys).length = min xs.length ys.length := by
  unfold zipD
  rw [List.length_map, List.length_zip]
theorem jok_zip {K : PySem.W.Frag} {HF : Hp} {a b : Addr} {vs ws : List V} {xs ys : List Dv} (ha : HF a = some (.lst vs)) (hb : HF b = some (.lst ws)) (r1 : Reps F.W HF vs xs) (r2 : Reps F.W HF ws ys) : JOk F HF (Itz K a b) (zipD xs ys) where
  stop := fun i HF1 H g1 g2 l => by
    rw [zipD_len] at l
    exact ⟨vs, ws, SqL.of (g2 _ _ (g1 _ _ ha)), SqL.of (g2 _ _ (g1 _ _ hb)), by rw [r1.length, r2.length]; omega⟩
  go := fun i d HF1 σ H η e g S => by
    obtain ⟨x, y, rfl, e1, e2⟩ := zipD_at e
    obtain ⟨v, k1, rv⟩ := r1.get e1
    obtain ⟨w, k2, rw'⟩ := r2.get e2
    have qa : SqL K H a vs := SqL.of (S.sub _ _ (g _ _ ha))
    have qb : SqL K H b ws := SqL.of (S.sub _ _ (g _ _ hb))
    refine ⟨⟨vs, ws, v, w, qa, qb, k1, k2⟩, fun z H' yl => ?_⟩
    obtain ⟨T, v', w', rfl, hT, rfl, f1, f2⟩ := yl
    have z1 := f1 vs qa
    have z2 := f2 ws qb
    rw [k1] at z1
    rw [k2] at z2
    cases z1
    cases z2
    obtain ⟨S', s'⟩ := S.alloc (o := .tup [v, w]) hT
    exact ⟨_, S', .alloc hT (S.sub.free hT), .tup (SqT.of upd_same) (.cons ((rv.mono g).mono s') (.cons ((rw'.mono g).mono s') .nil))⟩
theorem enumD_at : ∀ {xs : List Dv} {n i : Nat} {d : Dv}, (enumD n xs)[i]? = some d → ∃ x, d = .tup [.int ((n + i : Nat) : Int), x] ∧ xs[i]? = some x
  | [], _, _, _, e => by simp [enumD] at e
  | x :: xs, n, 0, d, e => by
    rw [enumD, List.getElem?_cons_zero] at e
    cases e
    exact ⟨x, rfl, rfl⟩
  | x :: xs, n, i + 1, d, e => by
    rw [enumD, List.getElem?_cons_succ] at e
    obtain ⟨y, e1, e2⟩ := enumD_at e
    exact ⟨y, by rw [e1, Nat.add_right_comm, Nat.add_assoc], by rw [List.getElem?_cons_succ]; exact e2⟩
theorem enumD_len : ∀ (n : Nat) (xs : List Dv), (enumD n xs).length = xs.length
  | _, [] => rfl
  | n, x :: xs => by rw [enumD, List.length_cons, List.length_cons, enumD_len]
theorem jok_ez {K : PySem.W.Frag} {HF : Hp} {a b : Addr} {vs ws : List V} {xs ys : List Dv} (ha : HF a = some (.lst vs)) (hb : HF b = some (.lst ws)) (r1 : Reps F.W HF vs xs) (r2 : Reps F.W HF ws ys) : JOk F HF (Itez K a b) (enumD 0 (zipD xs ys)) where
  stop := fun i HF1 H g1 g2 l => by
    rw [enumD_len, zipD_len] at l
    exact ⟨vs, ws, SqL.of (g2 _ _ (g1 _ _ ha)), SqL.of (g2 _ _ (g1 _ _ hb)), by rw [r1.length, r2.length]; omega⟩
  go := fun i d HF1 σ H η e g S => by
    obtain ⟨p, rfl, e0⟩ := enumD_at e
    obtain ⟨x, y, rfl, e1, e2⟩ := zipD_at e0
    obtain ⟨v, k1, rv⟩ := r1.get e1
    obtain ⟨w, k2, rw'⟩ := r2.get e2
    have qa : SqL K H a vs := SqL.of (S.sub _ _ (g _ _ ha))
    have qb : SqL K H b ws := SqL.of (S.sub _ _ (g _ _ hb))
    refine ⟨⟨vs, ws, v, w, qa, qb, k1, k2⟩, fun z H' yl => ?_⟩
    obtain ⟨T, U, v', w', rfl, hU, hT, ne, rfl, f1, f2⟩ := yl
    have z1 := f1 vs qa
    have z2 := f2 ws qb
    rw [k1] at z1
    rw [k2] at z2
    cases z1
    cases z2
    obtain ⟨S1, s1⟩ := S.alloc (o := .tup [v, w]) hU
    have hT1 : upd H U (.tup [v, w]) T = none := by rw [upd_ne ne]; exact hT
    obtain ⟨S2, s2⟩ := S1.alloc (o := .tup [.int (i : Nat), .ref U]) hT1
    refine ⟨_, S2, (Stp.alloc hU (S.sub.free hU)).trans (.alloc hT1 (S1.sub.free hT1)), .tup (SqT.of upd_same) (.cons ?_ (.cons (.tup (SqT.of (s2 _ _ upd_same)) (.cons (((rv.mono g).mono s1).mono s2) (.cons (((rw'.mono g).mono s1).mono s2) .nil))) .nil))⟩
    rw [Nat.zero_add]
    exact .int _
theorem rep_lst {W : Wd} {H : Hp} {v : V} {xs : List Dv} (r : Rep W H v (.lst xs)) : ∃ p vs, v = .ref p ∧ H p = some (.lst vs) ∧ Reps W H vs xs := by
  cases r with
  | lst h rs => exact ⟨_, _, rfl, h, rs⟩
theorem zip_ev {a b : Ex} {η η' : CF.Env} {f : List Dv → List Dv → List Dv} {ds : List Dv} (e : (match evO Γ (.e a) η with
    | none => none
    | some (x, η1) => match evO Γ (.e b) η1 with
      | none => none
      | some (y, η2) => match finO (.e a) x η2, finO (.e b) y η2 with
        | some (.lst xs), some (.lst ys) => some (f xs ys, η2)
        | _, _ => none) = some (ds, η')) : ∃ xs ys η1, evE Γ a η = some (.lst xs, η1) ∧ evE Γ b η1 = some (.lst ys, η') ∧ ds = f xs ys := by
  split at e
  · cases e
  rename_i x η1 e1
  split at e
  · cases e
  rename_i y η2 e2
  split at e
  · rename_i xs ys f1 f2
    cases e
    cases f1
    cases f2
    rw [evO] at e1 e2
    exact ⟨xs, ys, η1, e1, e2, rfl⟩
  · cases e
theorem si_seq {a : Ex} (ha : SE F Γ a) : SI F Γ (.seq (.e a)) := fun c X tg e h nt C => by
  unfold chkI at h
  rw [Bool.and_eq_true] at h
  have P := ha.pe c X e h.1 C
  refine ⟨⟨fun pins s σ H R I q => ?_⟩, fun x => ?_⟩
  · obtain ⟨HF, η, ds, η', S, ev, k⟩ := q
    rw [evI] at ev
    split at ev
    · rename_i d η1 e1
      rw [evO] at e1
      obtain ⟨xs, e2, e3⟩ := Option.map_eq_some_iff.mp ev
      cases e3
      rcases itOf_some e2 with ⟨z, rfl, rfl⟩ | rfl | rfl
      · refine (pi_str P).run pins s σ H R I ⟨HF, η, _, _, S, e1, fun v H1 HF1 S1 s1 r => ?_⟩
        cases r
        exact ⟨z, rfl, k _ H1 HF1 S1 s1 (jok_str z)⟩
      · refine (pi_list P).run pins s σ H R I ⟨HF, η, _, _, S, e1, fun v H1 HF1 S1 s1 r => ?_⟩
        cases r with
        | lst h rs => exact ⟨_, rfl, ⟨_, SqL.of (S1.sub _ _ h)⟩, k _ H1 HF1 S1 s1 (jok_list h rs)⟩
      · refine (pi_tup P).run pins s σ H R I ⟨HF, η, _, _, S, e1, fun v H1 HF1 S1 s1 r => ?_⟩
        obtain ⟨p, vs, rfl, hq, rs⟩ := rep_tup r
        exact ⟨_, rfl, ⟨vs, C.K ▸ Same.sqT S1.sub hq⟩, k _ H1 HF1 S1 s1 (jok_tup C.K hq rs)⟩
    · cases ev
  · have h2 := h.2
    cases e <;> first | cases h2; done | rfl
theorem si_zip {a b : Ex} (ha : SE F Γ a) (hb : SE F Γ b) : SI F Γ (.zip (.e a) (.e b)) := fun c X tg e h nt C => by
  unfold chkI at h
  split at h
  · simp only [Bool.and_eq_true] at h
    obtain ⟨⟨⟨h1, h2⟩, h3⟩, h4⟩ := h
    obtain rfl := eqs_eq h1
    have st := chkE_star h3
    have st2 := chkE_star h4
    have P : PA X [_, _] _ := pa_cons (ha.pe c X _ h3 C) (pa_cons (hb.pe c X _ h4 C) pa_nil (st2 _ _)) (st _ _)
    refine ⟨⟨fun pins s σ H R I q => ?_⟩, fun x => rfl⟩
    obtain ⟨HF, η, ds, η', S, ev, k⟩ := q
    rw [evI] at ev
    obtain ⟨xs, ys, η1, e1, e2, rfl⟩ := zip_ev ev
    refine (pi_zp nt (C.glb h2) (C.bi _ (by decide)) P (by rw [st]) (by rw [st2]; rfl)).run pins s σ H R I ⟨HF, η, _, η1, S, e1, fun v H1 HF1 S1 s1 r => ⟨HF1, η1, _, _, S1, e2, fun u H2 HF2 S2 s2 r2 => ?_⟩⟩
    obtain ⟨p, vs, rfl, hp, rs⟩ := rep_lst r
    obtain ⟨q, ws, rfl, hq, rs2⟩ := rep_lst r2
    exact ⟨p, q, vs, ws, rfl, SqL.of (S2.sub _ _ (s2.f _ _ hp)), SqL.of (S2.sub _ _ hq), k _ H2 HF2 S2 (s1.trans s2) (jok_zip (s2.f _ _ hp) hq (rs.mono s2.f) rs2)⟩
  · cases h
theorem si_ez {a b : Ex} (ha : SE F Γ a) (hb : SE F Γ b) : SI F Γ (.ez (.e a) (.e b)) := fun c X tg e h nt C => by
  have ht : ∃ es k p, tg = .Tuple es k p := by
    cases tg <;> first | exact ⟨_, _, _, rfl⟩ | cases nt
  unfold chkI at h
  split at h
  · simp only [Bool.and_eq_true] at h
    obtain ⟨⟨⟨⟨⟨h1, h2⟩, h3⟩, h4⟩, h5⟩, h6⟩ := h
    obtain rfl := eqs_eq h1
    obtain rfl := eqs_eq h3
    have st := chkE_star h5
    have st2 := chkE_star h6
    have P : PA X [_, _] _ := pa_cons (ha.pe c X _ h5 C) (pa_cons (hb.pe c X _ h6 C) pa_nil (st2 _ _)) (st _ _)
    refine ⟨⟨fun pins s σ H R I q => ?_⟩, fun x => rfl⟩
    obtain ⟨HF, η, ds, η', S, ev, k⟩ := q
    rw [evI] at ev
    obtain ⟨xs, ys, η1, e1, e2, rfl⟩ := zip_ev (f := fun xs ys => enumD 0 (zipD xs ys)) ev
    refine (pi_ez ht (C.glb h2) (C.bi _ (by decide)) (C.glb h4) (C.bi _ (by decide)) P (by rw [st]) (by rw [st2]; rfl)).run pins s σ H R I ⟨HF, η, _, η1, S, e1, fun v H1 HF1 S1 s1 r => ⟨HF1, η1, _, _, S1, e2, fun u H2 HF2 S2 s2 r2 => ?_⟩⟩
    obtain ⟨p, vs, rfl, hp, rs⟩ := rep_lst r
    obtain ⟨q, ws, rfl, hq, rs2⟩ := rep_lst r2
    exact ⟨p, q, vs, ws, rfl, SqL.of (S2.sub _ _ (s2.f _ _ hp)), SqL.of (S2.sub _ _ hq), k _ H2 HF2 S2 (s1.trans s2) (jok_ez (s2.f _ _ hp) hq (rs.mono s2.f) rs2)⟩
  · cases h
theorem si_rng1 {a : Ex} (ha : SE F Γ a) : SI F Γ (.rng1 a) := fun c X tg e h nt C => by
  unfold chkI at h
  split at h
  · simp only [Bool.and_eq_true] at h
    obtain ⟨⟨h1, h2⟩, h3⟩ := h
    obtain rfl := eqs_eq h1
    have st := chkE_star h3
    have P : PA X [_] _ := pa_cons (ha.pe c X _ h3 C) pa_nil (st _ _)
    refine ⟨⟨fun pins s σ H R I q => ?_⟩, fun x => rfl⟩
    obtain ⟨HF, η, ds, η', S, ev, k⟩ := q
    rw [evI] at ev
    split at ev
    · rename_i b η1 e1
      obtain ⟨xs, e2, e3⟩ := Option.map_eq_some_iff.mp ev
      cases e3
      obtain ⟨⟨_, _, b1, b2⟩, rfl⟩ := rngD_some e2
      refine (pi_range1 (C.glb h2) (C.bi _ (by decide)) P (st _ _)).run pins s σ H R I ⟨HF, η, _, _, S, e1, fun v H1 HF1 S1 s1 r => ?_⟩
      cases r
      refine ⟨b, rfl, b1, b2, k _ H1 HF1 S1 s1 ?_⟩
      rw [Int.sub_zero]
      exact jok_rng 0 _
    · cases ev
  · cases h
theorem si_rng2 {a b : Ex} (ha : SE F Γ a) (hb : SE F Γ b) : SI F Γ (.rng2 a b) := fun c X tg e h nt C => by
  unfold chkI at h
  split at h
  · simp only [Bool.and_eq_true] at h
    obtain ⟨⟨⟨h1, h2⟩, h3⟩, h4⟩ := h
    obtain rfl := eqs_eq h1
    have st := chkE_star h3
    have st2 := chkE_star h4
    have P : PA X [_, _] _ := pa_cons (ha.pe c X _ h3 C) (pa_cons (hb.pe c X _ h4 C) pa_nil (st2 _ _)) (st _ _)
    refine ⟨⟨fun pins s σ H R I q => ?_⟩, fun x => rfl⟩
    obtain ⟨HF, η, ds, η', S, ev, k⟩ := q
    rw [evI] at ev
    split at ev
    · rename_i i η1 e1
      split at ev
      · rename_i j η2 e2
        obtain ⟨xs, e3, e4⟩ := Option.map_eq_some_iff.mp ev
        cases e4
        obtain ⟨⟨b1, b2, b3, b4⟩, rfl⟩ := rngD_some e3
        refine (pi_range2 (C.glb h2) (C.bi _ (by decide)) P (by rw [st, st2]; rfl) (by rw [st2]; rfl)).run pins s σ H R I ⟨HF, η, _, _, S, e1, fun v H1 HF1 S1 s1 r => ⟨HF1, η1, _, _, S1, e2, fun u H2 HF2 S2 s2 r2 => ?_⟩⟩
        cases r
        cases r2
        exact ⟨i, j, rfl, ⟨b1, b2, b3, b4⟩, k _ H2 HF2 S2 (s1.trans s2) (jok_rng i _)⟩
      · cases ev
    · cases ev
  · cases h
end
end CF

set_option Elab.async false
set_option linter.all false
set_option maxRecDepth 100000
namespace CF
open PySem PySem.Spec PyProof.Rows L2

/-! ## comprehensions -/
def tTs (F : Fx) (Γ : Tab) (ifs : List Ex) : TT := match ifs with
  | [] => tYes
  | [f] => tT F Γ f
  | _ => fun _ _ _ => False
section
variable {F : Fx} {Γ : Tab}
theorem tTs_run {ifs : List Ex} (hl : ifs.length ≤ 1) {HF : Hp} {σ : L2.St} {H : Hp} {η η' : CF.Env} {b : Bool} {Q : Bool → Hp → Prop} (S : SR F HF σ H η) (e : testL (evTs Γ ifs) η = some (b, η'))
    (k : ∀ H' HF', SR F HF' σ H' η' → Stp σ HF H η HF' H' η' → Q b H') : tTs F Γ ifs σ H Q := by
  match ifs, hl, e with
  | [], _, e =>
    rw [evTs] at e
    cases e
    exact k H HF S .refl
  | [f], _, e =>
    rw [evTs, evTs] at e
    unfold testL at e
    split at e
    · rename_i η1 e1
      cases e
      exact ⟨HF, η, _, _, S, e1, k⟩
    · rename_i η1 e1
      cases e
      exact ⟨HF, η, _, _, S, e1, k⟩
    · cases e
theorem tLc_of {elt : Ex} {tg : Tg} {it : CF.It} {ifs : List Ex} {own : List Nat} (hl : ifs.length ≤ 1) (hown : ∀ j ∈ tgSlots tg, j ∈ own) {σ : L2.St} {H0 : Hp} {Q : VK} (h : tF F Γ (.comp elt tg it ifs own) σ H0 Q) :
    tLc (tI F Γ it) (gT F tg) (tTs F Γ ifs) (tE F Γ elt) own σ H0 Q := by
  obtain ⟨HF, η, xs, η', S, e, k⟩ := h
  rw [evE] at e
  split at e
  · cases e
  rename_i ds η1 e1
  obtain ⟨hno, e⟩ := if_opt e
  split at e
  · cases e
  rename_i ys η2 e2
  cases e
  refine ⟨HF, η, ds, η1, S, e1, fun J H1 HF1 S1 s1 jk D hD => ?_⟩
  have S1w := S1.wipe own
  have h0D : F.H0 D = none := S1.dom hD
  have hFD : HF1 D = none := S1.sub.free hD
  have nD : ¬ Own (wipeE η1 own) (L2.wipe σ own) D := fun z => own_tracked S1 hD (own_wipe z)
  refine ⟨fun i m H => m = ds.length - i ∧ i ≤ ds.length ∧ ∃ HFi ηi acc zs, SR F HFi (L2.wipe σ own) H ηi ∧ compL (testL (evTs Γ ifs)) (evE Γ elt) tg own (ds.drop i) zs ηi = some (xs, η2) ∧ H D = some (.lst acc) ∧ Reps F.W HFi acc zs ∧ HFi D = none ∧ Same HF1 HFi ∧
      (∀ a o, a ≠ D → H1 a = some o → ¬ Own (wipeE η1 own) (L2.wipe σ own) a → H a = some o) ∧ (∀ a o, HFi a = some o → HF1 a = some o ∨ H1 a = none ∨ Own (wipeE η1 own) (L2.wipe σ own) a) ∧
      (∀ a, Own ηi (L2.wipe σ own) a → Own (wipeE η1 own) (L2.wipe σ own) a) ∧ ∀ a o, H1 a = some o → ∃ o', H a = some o',
    ⟨ds.length, by simp, Nat.zero_le _, HF1, wipeE η1 own, [], [], S1w.updX hFD h0D nD, e2, upd_same, .nil, hFD, (fun _ _ e => e), (fun a o ne e _ => by rw [upd_ne ne]; exact e), (fun a o e => .inl e), (fun _ z => z), fun a o e => ⟨o, by rw [upd_ne (ne_of_none e hD)]; exact e⟩⟩, ?_⟩
  rintro i m H ⟨rfl, hi, HFi, ηi, acc, zs, Si, ei, hDi, ri, hFi, gi, ki, ni, wi, di⟩
  by_cases hlt : i < ds.length
  · have hd : ds[i]? = some ds[i] := List.getElem?_eq_getElem hlt
    rw [List.drop_eq_getElem_cons hlt] at ei
    generalize ds[i] = d at hd ei
    obtain ⟨hgo, hy⟩ := jk.go i d HFi _ H ηi hd gi Si
    rw [compL] at ei
    split at ei
    · cases ei
    rename_i ηt et
    refine .inr ⟨hgo, _, fun H' p => ⟨ds.length - (i + 1), by omega, rfl, hlt, p⟩, fun x H' y => ?_⟩
    obtain ⟨HF2, S2, s2, rx⟩ := hy x H' y
    refine ⟨HF2, ηi, d, ηt, S2, rx, et, fun σ2 S3 g3 l3 o3 => ?_⟩
    have hw : L2.wipe σ2 own = L2.wipe σ own := wipe_eq (fun j hj => g3 j fun z => hj (hown j z)) l3
    refine ⟨hw, ?_⟩
    have hD' : H' D = some (.lst acc) := s2.k D _ hDi fun z => nD (wi D z)
    have nDt : ¬ Own ηt σ2 D := fun z => nD (wi D (o3 D z))
    -- what a turn leaves
    have kk : ∀ {HFn Hn : Hp} {ηn : CF.Env}, Stp σ2 HF2 H' ηt HFn Hn ηn → Hn D = some (.lst acc) ∧ HFn D = none ∧ (∀ a o, a ≠ D → H1 a = some o → ¬ Own (wipeE η1 own) (L2.wipe σ own) a → Hn a = some o) ∧ (∀ a o, HFn a = some o → HF1 a = some o ∨ H1 a = none ∨ Own (wipeE η1 own) (L2.wipe σ own) a) ∧
        (∀ a, Own (wipeE ηn own) (L2.wipe σ own) a → Own (wipeE η1 own) (L2.wipe σ own) a) ∧ (∀ a o, H1 a = some o → ∃ o', Hn a = some o') ∧ ¬ Own ηn σ2 D := fun {HFn Hn ηn} T => by
      have up : ∀ a, H' a = none → H1 a = none := fun a z => by
        cases q : H1 a with
        | none => rfl
        | some o =>
          obtain ⟨o1, q1⟩ := di a o q
          obtain ⟨o2, q2⟩ := s2.g a o1 q1
          rw [z] at q2
          cases q2
      have up2 : ∀ a, H a = none → H1 a = none := fun a z => by
        cases q : H1 a with
        | none => rfl
        | some o =>
          obtain ⟨o1, q1⟩ := di a o q
          rw [z] at q1
          cases q1
      refine ⟨T.k D _ hD' nDt, ?_, fun a o ne e no => T.k a o (s2.k a o (ki a o ne e no) fun z => no (wi a z)) fun z => no (wi a (o3 a z)), fun a o e => ?_, fun a z => ?_, fun a o e => ?_, fun z => nDt (T.w D z)⟩
      · cases q : HFn D with
        | none => rfl
        | some o =>
          rcases T.n D o q with z | z | z
          · rcases s2.n D o z with z | z | z
            · rw [hFi] at z
              cases z
            · rw [hDi] at z
              cases z
            · exact absurd (wi D z) nD
          · rw [hD'] at z
            cases z
          · exact absurd z nDt
      · rcases T.n a o e with z | z | z
        · rcases s2.n a o z with z | z | z
          · exact ni a o z
          · exact .inr (.inl (up2 a z))
          · exact .inr (.inr (wi a z))
        · exact .inr (.inl (up a z))
        · exact .inr (.inr (wi a (o3 a z)))
      · rw [← hw] at z
        exact wi a (o3 a (T.w a (own_wipe z)))
      · obtain ⟨o1, q1⟩ := di a o e
        obtain ⟨o2, q2⟩ := s2.g a o1 q1
        exact T.g a o2 q2
    split at ei
    · cases ei
    · rename_i ηb eb
      refine tTs_run hl S3 eb fun H4 HF4 S4 s4 => ?_
      show (if false = true then _ else _)
      rw [if_neg Bool.false_ne_true]
      split at ei
      · obtain ⟨q1, q2, q3, q4, q5, q6, _⟩ := kk s4
        exact ⟨HF4, _, acc, zs, hw ▸ S4.wipe own, ei, q1, ri.mono (s2.f.trans s4.f), q2, gi.trans (s2.f.trans s4.f), q3, q4, q5, q6⟩
      · cases ei
    · rename_i ηb eb
      refine tTs_run hl S3 eb fun H4 HF4 S4 s4 => ?_
      show (if true = true then _ else _)
      rw [if_pos rfl]
      split at ei
      · cases ei
      rename_i y0 ηe ee
      split at ei
      · rename_i hc
        rw [Bool.and_eq_true, decide_eq_true_eq] at hc
        refine ⟨HF4, ηb, y0, ηe, S4, ee, fun yv H5 HF5 S5 s5 ry => ?_⟩
        obtain ⟨q1, q2, q3, q4, q5, q6, q7⟩ := kk (s4.trans s5)
        refine ⟨acc, q1, by rw [ri.length, sizeLine_eq]; exact hc.1, HF5, _, acc ++ [yv], zs ++ [y0], hw ▸ (S5.updX q2 h0D q7).wipe own, ei, upd_same, (ri.mono (s2.f.trans (s4.f.trans s5.f))).snoc ry, q2, gi.trans (s2.f.trans (s4.f.trans s5.f)), fun a o ne e no => ?_, q4, q5, fun a o e => ?_⟩
        · rw [upd_ne ne]
          exact q3 a o ne e no
        · by_cases ha : a = D
          · exact ⟨_, by rw [ha]; exact upd_same⟩
          · rw [upd_ne ha]
            exact q6 a o e
      · cases ei
  · have e : i = ds.length := by omega
    subst e
    rw [List.drop_length, compL] at ei
    cases ei
    have ll : η1.length = η2.length := by rw [S1.len, Si.len, wipe_length]
    refine .inl ⟨jk.stop _ HFi H gi Si.sub (Nat.le_refl _), k D acc H HFi (S1.unwipe Si gi hno) (s1.trans ⟨gi, fun a o e no => ki a o (ne_of_none e hD) e fun z => no (own_wipe z), fun a o e => ?_, fun a z => own_wipe (wi a (own_unwipe hno ll z)), di⟩) (s1.non hD) hDi ri hFi h0D fun z => nD (wi D (own_unwipe hno ll z))⟩
    rcases ni a o e with z | z | z
    · exact .inl z
    · exact .inr (.inl z)
    · exact .inr (.inr (own_wipe z))
/-- a fresh list, frozen -/
theorem tF_of_tE {x : Ex} (hx : ∀ η d η', evE Γ x η = some (d, η') → ∃ xs, d = .lst xs) {σ : L2.St} {H : Hp} {Q : VK} (h : tE F Γ x σ H Q) : tF F Γ x σ H Q := by
  obtain ⟨HF, η, d, η', S, e, k⟩ := h
  obtain ⟨xs, rfl⟩ := hx _ _ _ e
  refine ⟨HF, η, xs, η', S, e, fun q vs H' HF' S' s hn hq r hF h0 no => ?_⟩
  have S2 := S'.frz hq hF h0 no
  refine k (.ref q) H' _ S2 ⟨s.f.trans (Same.upd_new hF), s.k, fun a o e => ?_, s.w, s.g⟩ (.lst upd_same (r.mono (Same.upd_new hF)))
  by_cases ha : a = q
  · rw [ha]
    exact .inr (.inl hn)
  · rw [upd_ne ha] at e
    exact s.n a o e
def AllX (P : Ex → Prop) : List Ex → Prop
  | [] => True
  | a :: as => P a ∧ AllX P as
theorem pts_ok {c : CI} {X : Cx} (C : CtxOk X c Γ F.W) : ∀ {ifs : List Ex} {fs : List PySem.Expr}, AllX (SE F Γ) ifs → allCk (chkTs c ifs) fs = true → fs.length ≤ 1 → PTs X fs (tTs F Γ ifs)
  | [], [], _, _, _ => pts_nil
  | [a], [x], hs, h, _ => by
    unfold chkTs allCk at h
    rw [Bool.and_eq_true] at h
    exact pts_one (hs.1.pt c X x h.1 C)
  | _, _ :: _ :: _, _, _, hl => by simp at hl
  | [], [_], _, h, _ => by
    unfold chkTs at h
    cases h
  | _ :: _, [], _, h, _ => by
    unfold chkTs at h
    cases h
  | a :: b :: r, [x], _, h, _ => by
    unfold chkTs allCk at h
    rw [Bool.and_eq_true] at h
    have h2 := h.2
    unfold chkTs at h2
    cases h2
theorem ckTs_len {c : CI} : ∀ {ifs : List Ex} {fs : List PySem.Expr}, allCk (chkTs c ifs) fs = true → ifs.length = fs.length
  | [], [], _ => rfl
  | a :: as, x :: xs, h => by
    unfold chkTs allCk at h
    rw [Bool.and_eq_true] at h
    rw [List.length_cons, List.length_cons, ckTs_len h.2]
  | [], _ :: _, h => by
    unfold chkTs at h
    cases h
  | _ :: _, [], h => by
    unfold chkTs at h
    cases h
theorem own_names {c : CI} {ow : List Nat} : (ownP c ow).map (·.2) = ow := by
  unfold ownP
  rw [List.map_map]
  exact List.map_id' _
theorem se_comp {elt : Ex} {tg : Tg} {it : CF.It} {ifs : List Ex} {ow : List Nat} (he : SE F Γ elt) (hi : SI F Γ it) (hf : AllX (SE F Γ) ifs) : SE F Γ (.comp elt tg it ifs ow) := by
  have pf : ∀ (c : CI) (X : Cx) (e : PySem.Expr), chkE c (.comp elt tg it ifs ow) e = true → CtxOk X c Γ F.W → PE X e (tF F Γ (.comp elt tg it ifs ow)) ∧ ∃ a b d f, e = .ListComp a b d f := fun c X e h C => by
    unfold chkE at h
    split at h
    · rename_i e t i fs scope pos
      simp only [Bool.and_eq_true, decide_eq_true_eq, List.all_eq_true] at h
      obtain ⟨⟨⟨⟨⟨⟨⟨h1, h2⟩, ht⟩, h3⟩, h4⟩, h5⟩, h6⟩, h7⟩ := h
      have bk : BlkOk X.N X.env.scope scope (ownP c ow) := blkOk_by (by rw [C.N, C.sc]; exact h4)
      obtain ⟨pi, fo⟩ := hi c X t i h3 ht C
      have P := pe_lc (pos := pos) (tt := tTs F Γ ifs) C.calm (by rw [C.N]; exact C.nd) pi bk (fun s H C' cl fp => (pg_ok (C.blk s H scope C' cl fp) tg t h5).1) (fun s H C' cl fp => pts_ok (C.blk s H scope C' cl fp) hf h6 h1) (fun s H C' cl fp => he.pe _ _ e h7 (C.blk s H scope C' cl fp)) fo
      rw [own_names] at P
      exact ⟨CF.PE.weaken P fun σ H Q q => tLc_of (by rw [ckTs_len h6]; exact h1) (fun j hj => by simpa using h2 j hj) q, _, _, _, _, rfl⟩
    · cases h
  have hx : ∀ η d η', evE Γ (.comp elt tg it ifs ow) η = some (d, η') → ∃ xs, d = .lst xs := fun η d η' e => by
    rw [evE] at e
    split at e
    · cases e
    split at e
    · split at e
      · cases e
      · cases e
        exact ⟨_, rfl⟩
    · cases e
  refine ⟨fun c X e h C => CF.PE.weaken (pf c X e h C).1 fun _ _ _ => tF_of_tE hx, fun c X e h C => ?_, fun c X op es p h C => ?_, fun c X e h C _ => (pf c X e h C).1⟩
  · obtain ⟨P, _, _, _, _, rfl⟩ := pf c X e h C
    exact CF.PT.weaken (pt_val (CF.PE.weaken P fun _ _ _ => tF_of_tE hx)) fun _ _ _ => tT_tE
  · unfold chkE at h
    cases h
end
end CF

set_option Elab.async false
set_option linter.all false
set_option maxRecDepth 100000
namespace CF
open PySem PySem.Spec PyProof.Rows L2

/-! ## calls of the program's own defs -/
section
variable {F : Fx} {Γ : Tab} {HF HF' : Hp} {σ : L2.St} {H H' : Hp} {η η' : CF.Env}
theorem args_of (S : SR F HF σ H η) : ∀ {as : Ops} {vs : List V} {ds ds' : List Dv}, OOks F HF σ as vs ds → finOs as ds η = some ds' → ArgOks F.W HF H (brOf as) vs ds'
  | .nil, [], [], ds', _, e => by
    cases e
    exact trivial
  | .cons a as, v :: vs, d :: ds, ds', ⟨h, r⟩, e => by
    unfold finOs at e
    split at e
    · rename_i x xs e1 e2
      cases e
      have rest := args_of S (as := as) r e2
      cases a with
      | e y =>
        cases e1
        exact ⟨h, rest⟩
      | o i =>
        obtain ⟨ys, e3, rfl⟩ := Option.map_eq_some_iff.mp e1
        obtain ⟨br, e4⟩ := ownL_some e3
        obtain ⟨p, us, q, hp, rr, hF, _⟩ := S.slotL e4
        have h' : σ[i]? = some (some v) := h
        rw [q] at h'
        cases h'
        exact ⟨⟨p, us, ys, rfl, rfl, hp, rr, hF⟩, rest⟩
    · cases e
  | .nil, _ :: _, _, _, h, _ => h.elim
  | .nil, [], _ :: _, _, h, _ => h.elim
  | .cons _ _, [], _, _, h, _ => h.elim
  | .cons _ _, _ :: _, [], _, h, _ => h.elim
theorem back_none : ∀ {as : Ops} {r : List (List Dv)}, (brOf as).all (!·) = true → backOs as r η = some η' → r = [] ∧ η' = η
  | .nil, [], _, e => by
    cases e
    exact ⟨rfl, rfl⟩
  | .nil, _ :: _, _, e => by cases e
  | .cons a as, r, h, e => by
    cases a with
    | e x =>
      unfold brOf at h
      rw [List.all_cons, Bool.and_eq_true] at h
      unfold backOs at e
      exact back_none (as := as) h.2 e
    | o i =>
      unfold brOf at h
      rw [List.all_cons, Bool.and_eq_true] at h
      cases h.1
theorem back_some (S : SR F HF σ H η) : ∀ {as : Ops} {vs : List V} {ds ds' : List Dv} {outs : List (List Dv)}, OOks F HF σ as vs ds → finOs as ds η = some ds' → oneLent (brOf as) = true → backOs as outs η = some η' →
    (lentA (brOf as) vs = none ∧ outs = [] ∧ η' = η) ∨ ∃ i p br xs ys, lentA (brOf as) vs = some p ∧ σ[i]? = some (some (.ref p)) ∧ η[i]? = some (.lst br xs) ∧ outs = [ys] ∧ η' = η.set i (.lst br ys)
  | .nil, [], [], _, outs, _, _, _, e => by
    cases outs with
    | nil =>
      cases e
      exact .inl ⟨rfl, rfl, rfl⟩
    | cons _ _ => cases e
  | .cons a as, v :: vs, d :: ds, ds', outs, ⟨h, r⟩, e, ho, hb => by
    unfold finOs at e
    split at e
    · rename_i x xs e1 e2
      cases a with
      | e y =>
        unfold brOf oneLent at ho
        unfold backOs at hb
        exact back_some S (as := as) r e2 ho hb
      | o i =>
        unfold brOf oneLent at ho
        obtain ⟨ys, e3, _⟩ := Option.map_eq_some_iff.mp e1
        obtain ⟨br, e4⟩ := ownL_some e3
        obtain ⟨p, us, q, hp, rr, hF, _⟩ := S.slotL e4
        have h' : σ[i]? = some (some v) := h
        rw [q] at h'
        cases h'
        cases outs with
        | nil => cases hb
        | cons zs outs =>
          unfold backOs at hb
          rw [e4] at hb
          obtain ⟨rfl, rfl⟩ := back_none (as := as) ho hb
          exact .inr ⟨i, p, br, ys, zs, rfl, q, e4, rfl, rfl⟩
    · cases e
  | .nil, _ :: _, _, _, _, h, _, _, _ => h.elim
  | .nil, [], _ :: _, _, _, h, _, _, _ => h.elim
  | .cons _ _, [], _, _, _, h, _, _, _ => h.elim
  | .cons _ _, _ :: _, [], _, _, h, _, _, _ => h.elim
theorem back_ok (S : SR F HF σ H η) {as : Ops} {vs : List V} {ds ds' : List Dv} {outs : List (List Dv)} (oo : OOks F HF σ as vs ds) (fin : finOs as ds η = some ds') (one : oneLent (brOf as) = true) (hb : backOs as outs η = some η')
    (sF : Same HF HF') (sub : Same HF' H') (keep : ∀ a o, H a = some o → lentA (brOf as) vs ≠ some a → H' a = some o) (new : ∀ a o, HF' a = some o → HF a = some o ∨ H a = none) (back : BackOk F.W HF' H' (lentA (brOf as) vs) outs) :
    SR F HF' σ H' η' ∧ Stp σ HF H η HF' H' η' := by
  rcases back_some S oo fin one hb with ⟨l, rfl, rfl⟩ | ⟨i, p, br, xs, ys, l, q, e, rfl, rfl⟩
  · have k : Same H H' := fun a o z => keep a o z (by rw [l]; exact fun z => nomatch z)
    exact ⟨S.ext sF k sub new, sF, fun a o z _ => k a o z, fun a o z => (new a o z).imp id .inl, fun _ z => z, fun a o z => ⟨o, k a o z⟩⟩
  · rw [l] at back
    obtain ⟨us, hp, rs, hF⟩ := back
    obtain ⟨p', ws, q', hp0, r0, hF0, hb0⟩ := S.slotL e
    rw [q] at q'
    cases q'
    have hi : i < η.length := (List.getElem?_eq_some_iff.mp e).1
    have k2 : Same H (upd H' p (.lst ws)) := fun a o z => by
      by_cases ha : a = p
      · subst ha
        rw [hp0] at z
        cases z
        exact upd_same
      · rw [upd_ne ha]
        exact keep a o z (by rw [l]; exact fun z => ha (Option.some.inj z).symm)
    have S2 : SR F HF' σ (upd H' p (.lst ws)) η := S.ext sF k2 (Same.upd_both sub hF) new
    have S3 := S2.updOwn (ws := us) e q rs
    have eq : upd (upd H' p (.lst ws)) p (.lst us) = H' := by
      funext a
      by_cases ha : a = p
      · subst ha
        rw [upd_same, hp]
      · rw [upd_ne ha, upd_ne ha]
    rw [eq] at S3
    have own_p : Own η σ p := ⟨i, _, e, rfl, q⟩
    refine ⟨S3, sF, fun a o z no => ?_, fun a o z => (new a o z).imp id .inl, fun a ⟨j, x2, z1, z3, z2⟩ => ?_, fun a o z => ?_⟩
    · have ha : a ≠ p := fun w => no (by rw [w]; exact own_p)
      exact keep a o z (by rw [l]; exact fun w => ha (Option.some.inj w).symm)
    · by_cases hj : j = i
      · subst hj
        rw [q] at z2
        cases z2
        exact own_p
      · rw [List.getElem?_set_ne (Ne.symm hj)] at z1
        exact ⟨j, x2, z1, z3, z2⟩
    · by_cases ha : a = p
      · exact ⟨_, by rw [ha]; exact hp⟩
      · exact ⟨o, keep a o z (by rw [l]; exact fun w => ha (Option.some.inj w).symm)⟩
theorem tE_call {g : Nat} {as : Ops} {Q : VK} (one : oneLent (brOf as) = true) (h : tE F Γ (.call g as) σ H Q) : tCall (spF F.W (Γ g) (brOf as)) [] (fun _ _ _ => False) (tOs F Γ as) σ H Q := by
  obtain ⟨HF, η, d, η', S, e, k⟩ := h
  rw [evE] at e
  split at e
  · cases e
  rename_i ds η1 e1
  split at e
  · cases e
  rename_i ds' e2
  split at e
  · cases e
  rename_i d' outs e3
  obtain ⟨η2, e4, e5⟩ := Option.map_eq_some_iff.mp e
  cases e5
  refine ⟨HF, η, ds, η1, S, e1, fun vs H1 HF1 S1 s1 oo => ?_⟩
  show spF F.W (Γ g) (brOf as) (vs ++ []) H1 Q fun _ _ _ => False
  rw [List.append_nil]
  refine ⟨HF1, ds', _, outs, S1.sub, args_of S1 oo e2, e3, fun v H2 HF2 sF sub keep new rv back => ?_⟩
  obtain ⟨S2, s2⟩ := back_ok S1 oo e2 one e4 sF sub keep new back
  exact k v H2 HF2 S2 (s1.trans s2) rv
theorem se_call {g : Nat} {as : Ops} (hs : AllO (SO F Γ) as) : SE F Γ (.call g as) := by
  have pe : ∀ (c : CI) (X : Cx) (e : PySem.Expr), chkE c (.call g as) e = true → CtxOk X c Γ F.W → PE X e (tE F Γ (.call g as)) ∧ ∃ a b d f, e = .Call a b d f := fun c X e h C => by
    unfold chkE at h
    split at h
    · rename_i f pf x xs pos
      rw [Bool.and_eq_true] at h
      obtain ⟨h1, h2⟩ := h
      unfold ckFn at h1
      simp only [Bool.and_eq_true] at h1
      obtain ⟨⟨h1, h3⟩, h4⟩ := h1
      split at h1
      · rename_i n hn
        simp only [Bool.and_eq_true, decide_eq_true_eq] at h1
        obtain ⟨⟨e1, e2⟩, e3⟩ := h1
        obtain rfl := eqs_eq e1
        obtain ⟨⟨k, fa, fd, ps, m1, m2, hb, Fk, hr, _⟩, one⟩ := C.fns g n hn
        rw [← e2] at Fk one
        rw [← e3] at Fk
        have st := allCk_star h2
        refine ⟨CF.PE.weaken (pe_callG (E := fun _ _ _ => False) (dvs := []) (ds := []) Fk hr (C.glb h3) m1 m2 hb .nil pass0 (pa_ok C hs h2) (nmB_dbg h4).1 (st x List.mem_cons_self xs X.env) (any_back fun e he => st e (List.mem_cons_of_mem _ he))) fun σ H Q q => tE_call one q, _, _, _, _, rfl⟩
      · cases h1
    · cases h
  refine ⟨fun c X e h C => (pe c X e h C).1, fun c X e h C => ?_, fun c X op es p h C => ?_, fun c X e h C hf => by cases hf⟩
  · obtain ⟨P, _, _, _, _, rfl⟩ := pe c X e h C
    exact CF.PT.weaken (pt_val P) fun _ _ _ => tT_tE
  · unfold chkE at h
    cases h
theorem tF_call {g : Nat} {as : Ops} {Q : VK} (one : oneLent (brOf as) = true) (h : tF F Γ (.callF g as) σ H Q) : tCall (spG F.W (Γ g) (brOf as)) [] (fun _ _ _ => False) (tOs F Γ as) σ H Q := by
  obtain ⟨HF, η, xs, η', S, e, k⟩ := h
  rw [evE] at e
  split at e
  · cases e
  rename_i ds η1 e1
  split at e
  · cases e
  rename_i ds' e2
  split at e
  · rename_i ys outs e3
    obtain ⟨η2, e4, e5⟩ := Option.map_eq_some_iff.mp e
    cases e5
    refine ⟨HF, η, ds, η1, S, e1, fun vs H1 HF1 S1 s1 oo => ?_⟩
    show spG F.W (Γ g) (brOf as) (vs ++ []) H1 Q fun _ _ _ => False
    rw [List.append_nil]
    refine ⟨HF1, ds', xs, outs, S1.sub, args_of S1 oo e2, e3, fun q us H2 HF2 sF sub keep new n1 hq r hF back => ?_⟩
    obtain ⟨S2, s2⟩ := back_ok S1 oo e2 one e4 sF sub keep new back
    exact k q us H2 HF2 S2 (s1.trans s2) (s1.non n1) hq r hF (S1.dom n1) fun z => own_tracked S1 n1 (s2.w q z)
  · cases e
theorem callF_lst {g : Nat} {as : Ops} : ∀ η d η', evE Γ (.callF g as) η = some (d, η') → ∃ xs, d = .lst xs := fun η d η' e => by
  rw [evE] at e
  split at e
  · cases e
  split at e
  · cases e
  split at e
  · obtain ⟨η2, e4, e5⟩ := Option.map_eq_some_iff.mp e
    cases e5
    exact ⟨_, rfl⟩
  · cases e
theorem se_callF {g : Nat} {as : Ops} (hs : AllO (SO F Γ) as) : SE F Γ (.callF g as) := by
  have pf : ∀ (c : CI) (X : Cx) (e : PySem.Expr), chkE c (.callF g as) e = true → CtxOk X c Γ F.W → PE X e (tF F Γ (.callF g as)) ∧ ∃ a b d f, e = .Call a b d f := fun c X e h C => by
    unfold chkE at h
    split at h
    · rename_i f pf x xs pos
      rw [Bool.and_eq_true] at h
      obtain ⟨h1, h2⟩ := h
      unfold ckFn at h1
      simp only [Bool.and_eq_true] at h1
      obtain ⟨⟨h1, h3⟩, h4⟩ := h1
      split at h1
      · rename_i n hn
        simp only [Bool.and_eq_true, decide_eq_true_eq] at h1
        obtain ⟨⟨e1, e2⟩, e3⟩ := h1
        obtain rfl := eqs_eq e1
        obtain ⟨⟨k, fa, fd, ps, m1, m2, hb, Fk, hr, _⟩, one⟩ := C.fns g n hn
        rw [← e2] at Fk one
        rw [← e3] at Fk
        have st := allCk_star h2
        refine ⟨CF.PE.weaken (pe_callG (E := fun _ _ _ => False) (dvs := []) (ds := []) Fk hr (C.glb h3) m1 m2 hb .nil pass0 (pa_ok C hs h2) (nmB_dbg h4).1 (st x List.mem_cons_self xs X.env) (any_back fun e he => st e (List.mem_cons_of_mem _ he))) fun σ H Q q => tF_call one q, _, _, _, _, rfl⟩
      · cases h1
    · cases h
  refine ⟨fun c X e h C => CF.PE.weaken (pf c X e h C).1 fun _ _ _ => tF_of_tE callF_lst, fun c X e h C => ?_, fun c X op es p h C => ?_, fun c X e h C hf => (pf c X e h C).1⟩
  · obtain ⟨P, _, _, _, _, rfl⟩ := pf c X e h C
    exact CF.PT.weaken (pt_val (CF.PE.weaken P fun _ _ _ => tF_of_tE callF_lst)) fun _ _ _ => tT_tE
  · unfold chkE at h
    cases h
theorem tE_callT {g : Nat} {x : Ex} {Q : VK} (h : tE F Γ (.callT g x) σ H Q) : tCall (spF F.W (Γ g) [true]) [] (fun _ _ _ => False) (tCons (tF F Γ x) tNil) σ H Q := by
  obtain ⟨HF, η, d, η', S, e, k⟩ := h
  rw [evE] at e
  split at e
  · rename_i xs η1 e1
    split at e
    · rename_i d' outs e2
      cases e
      refine ⟨HF, η, xs, _, S, e1, fun q vs H1 HF1 S1 s1 hn hq r hF h0 no => ?_⟩
      refine ⟨HF1, [.lst xs], _, outs, S1.sub, ⟨⟨q, vs, xs, rfl, rfl, hq, r, hF⟩, trivial⟩, e2, fun v H2 HF2 sF sub keep new rv back => ?_⟩
      have bk : ∃ ys us, H2 q = some (.lst us) ∧ Reps F.W HF2 us ys ∧ HF2 q = none := by
        match outs, back with
        | [ys], back =>
          obtain ⟨us, b⟩ := back
          exact ⟨ys, us, b⟩
      obtain ⟨ys, us, hp, rs, hF2⟩ := bk
      have ke : ∀ a o, a ≠ q → H1 a = some o → H2 a = some o := fun a o ne z => keep a o z fun w => ne (Option.some.inj w).symm
      have k2 : Same H1 (upd H2 q (.lst vs)) := fun a o z => by
        by_cases ha : a = q
        · subst ha
          rw [hq] at z
          cases z
          exact upd_same
        · rw [upd_ne ha]
          exact ke a o ha z
      have S2 : SR F HF2 σ (upd H2 q (.lst vs)) _ := S1.ext sF k2 (Same.upd_both sub hF2) new
      have S3 := S2.updX (o := .lst us) hF2 h0 no
      have eq : upd (upd H2 q (.lst vs)) q (.lst us) = H2 := by
        funext a
        by_cases ha : a = q
        · subst ha
          rw [upd_same, hp]
        · rw [upd_ne ha, upd_ne ha]
      rw [eq] at S3
      refine k v H2 HF2 S3 ⟨s1.f.trans sF, fun a o z nw => ke a o (ne_of_none z hn) (s1.k a o z nw), fun a o z => ?_, s1.w, fun a o z => ?_⟩ rv
      · rcases new a o z with w | w
        · exact s1.n a o w
        · exact .inr (.inl (s1.non w))
      · obtain ⟨o1, z1⟩ := s1.g a o z
        exact ⟨o1, ke a o1 (ne_of_none z hn) z1⟩
    · cases e
  · cases e
theorem se_callT {g : Nat} {x : Ex} (hx : SE F Γ x) : SE F Γ (.callT g x) := by
  have pe : ∀ (c : CI) (X : Cx) (e : PySem.Expr), chkE c (.callT g x) e = true → CtxOk X c Γ F.W → PE X e (tE F Γ (.callT g x)) ∧ ∃ a b d f, e = .Call a b d f := fun c X e h C => by
    unfold chkE at h
    split at h
    · rename_i f pf y pos
      simp only [Bool.and_eq_true] at h
      obtain ⟨⟨h1, h2⟩, h5⟩ := h
      unfold ckFn at h1
      simp only [Bool.and_eq_true] at h1
      obtain ⟨⟨h1, h3⟩, h4⟩ := h1
      split at h1
      · rename_i n hn
        simp only [Bool.and_eq_true, decide_eq_true_eq] at h1
        obtain ⟨⟨e1, e2⟩, e3⟩ := h1
        obtain rfl := eqs_eq e1
        obtain ⟨⟨k, fa, fd, ps, m1, m2, hb, Fk, hr, _⟩, one⟩ := C.fns g n hn
        rw [← e2, ← e3] at Fk
        have st := chkE_star h5
        exact ⟨CF.PE.weaken (pe_callG (E := fun _ _ _ => False) (dvs := []) (ds := []) Fk hr (C.glb h3) m1 m2 hb .nil pass0 (pa_cons (hx.pf c X y h5 C h2) pa_nil (st _ _)) (nmB_dbg h4).1 (st _ _) rfl) fun σ H Q q => tE_callT q, _, _, _, _, rfl⟩
      · cases h1
    · cases h
  refine ⟨fun c X e h C => (pe c X e h C).1, fun c X e h C => ?_, fun c X op es p h C => ?_, fun c X e h C hf => by cases hf⟩
  · obtain ⟨P, _, _, _, _, rfl⟩ := pe c X e h C
    exact CF.PT.weaken (pt_val P) fun _ _ _ => tT_tE
  · unfold chkE at h
    cases h
theorem brOf_append : ∀ {as bs : Ops} {P : List Bool → Prop}, (brOf as ++ brOf bs).all (!·) = true → (brOf as).all (!·) = true ∧ (brOf bs).all (!·) = true := fun {as bs P} h => by
  rw [List.all_append, Bool.and_eq_true] at h
  exact h
theorem args_e {H : Hp} {HF : Hp} {W : Wd} : ∀ {as : Ops} {br : List Bool} {vs : List V} {ds : List Dv}, br.all (!·) = true → br.length = vs.length → Reps W HF vs ds → ArgOks W HF H br vs ds
  | _, [], [], _, _, _, r => by
    cases r
    trivial
  | as, b :: br, v :: vs, _, h, hl, .cons r rs => by
    rw [List.all_cons, Bool.and_eq_true] at h
    cases b with
    | true => cases h.1
    | false => exact ⟨r, args_e (as := as) h.2 (Nat.succ.inj hl) rs⟩
  | _, [], _ :: _, _, _, hl, _ => by cases hl
  | _, _ :: _, [], _, _, hl, _ => by cases hl
theorem allE_br : ∀ {as : Ops}, (brOf as).all (!·) = true → AllE as
  | .nil, _ => trivial
  | .cons (.o i) as, h => by
    unfold brOf at h
    rw [List.all_cons, Bool.and_eq_true] at h
    cases h.1
  | .cons (.e x) as, h => by
    unfold brOf at h
    rw [List.all_cons, Bool.and_eq_true] at h
    exact (allE_br h.2 : AllE as)
theorem br_len {c : CI} : ∀ {as : Ops} {es : List PySem.Expr}, allCk (chkFs c as) es = true → (brOf as).length = es.length
  | .nil, [], _ => rfl
  | .cons a as, x :: xs, h => by
    rw [chkFs, allCk, Bool.and_eq_true] at h
    cases a <;> (unfold brOf; rw [List.length_cons, List.length_cons, br_len h.2])
  | .nil, _ :: _, h => by
    rw [chkFs] at h
    cases h
  | .cons _ _, [], h => by
    rw [chkFs] at h
    cases h
theorem oos_len : ∀ {as : Ops} {vs : List V} {ds : List Dv}, OOks F HF σ as vs ds → vs.length = (brOf as).length
  | .nil, [], [], _ => rfl
  | .cons a as, v :: vs, d :: ds, h => by
    cases a <;> (unfold brOf; rw [List.length_cons, List.length_cons, oos_len h.2])
  | .nil, _ :: _, _, h => h.elim
  | .nil, [], _ :: _, h => h.elim
  | .cons _ _, [], _, h => h.elim
  | .cons _ _, _ :: _, [], h => h.elim
/-- keywords -/
theorem pk_ok {c : CI} {X : Cx} (C : CtxOk X c Γ F.W) : ∀ {ks : Ops} {kws : List Keyword}, AllO (SO F Γ) ks → allCk (chkFs c ks) (kws.map (·.value)) = true → PK X kws (tOs F Γ ks)
  | .nil, [], _, _ => ⟨fun pos pins s σ H Q I q => pk_nil.run pos pins s σ H Q I (tOs_nil q)⟩
  | .cons a as, ⟨nm, e, kp⟩ :: kws, hs, h => by
    rw [chkFs, List.map_cons, allCk, Bool.and_eq_true] at h
    have P := pk_cons (nm := nm) (kpos := kp) (hs.1 c X e h.1 C) (pk_ok C hs.2 h.2)
    exact ⟨fun pos pins s σ H Q I q => P.run pos pins s σ H Q I (tOs_cons q)⟩
  | .nil, _ :: _, _, h => by
    rw [chkFs] at h
    cases h
  | .cons _ _, [], _, h => by
    rw [chkFs] at h
    cases h
theorem kw_names {pos : Pos} {env : PySem.Env} : ∀ {kws : List Keyword} {names : List Str}, kws.map (·.arg) = names.map some → (backToKw pos (keywordEach kws env)).all (·.1.isSome) = true ∧ (backToKw pos (keywordEach kws env)).filterMap (·.1) = names ∧ (backToKw pos (keywordEach kws env)).any (·.1.isNone) = false
  | [], [], _ => ⟨rfl, rfl, rfl⟩
  | ⟨nm, e, kp⟩ :: kws, n :: names, h => by
    rw [List.map_cons, List.map_cons, List.cons.injEq] at h
    obtain ⟨h1, h2⟩ := h
    obtain ⟨q1, q2, q3⟩ := kw_names (pos := pos) (env := env) h2
    have h1' : nm = some n := h1
    subst h1'
    refine ⟨?_, ?_, ?_⟩
    · change (true && (backToKw pos (keywordEach kws env)).all (·.1.isSome)) = true
      rw [q1]
      rfl
    · change (((some n, _) :: backToKw pos (keywordEach kws env)).filterMap (·.1)) = n :: names
      rw [List.filterMap_cons_some (f := fun x : Option Str × Sem Value => x.1) (b := n) rfl, q2]
    · change (false || (backToKw pos (keywordEach kws env)).any (·.1.isNone)) = false
      rw [q3]
      rfl
  | [], _ :: _, h => by cases h
  | _ :: _, [], h => by cases h
theorem back_none2 : ∀ {as : Ops} {r : List (List Dv)}, AllE as → backOs as r η = some η' → r = [] ∧ η' = η
  | .nil, [], _, e => by
    cases e
    exact ⟨rfl, rfl⟩
  | .nil, _ :: _, _, e => by cases e
  | .cons (.e x) as, r, h, e => by
    unfold backOs at e
    exact back_none2 (as := as) h e
  | .cons (.o i) as, r, h, e => (show False from h).elim
theorem tE_callK {g m n : Nat} {as ks : Ops} {names : List Str} {Q : VK} {br : List Bool} (hbr : br = brOf as ++ brOf ks) (hal : br.all (!·) = true) (hm : (brOf as).length = m) (hn : (brOf ks).length = n) (h : tE F Γ (.callK g as ks names) σ H Q) :
    tCallK (spF F.W (Γ g) br) (gK m n) (fun _ _ _ => False) (tOs F Γ as) (tOs F Γ ks) σ H Q := by
  subst hbr
  obtain ⟨a1, a2⟩ := brOf_append (P := fun _ => True) hal
  have e1' := allE_br a1
  have e2' := allE_br a2
  obtain ⟨HF, η, d, η', S, e, k⟩ := h
  rw [evE] at e
  split at e
  · cases e
  rename_i ds η1 e1
  split at e
  · cases e
  rename_i es η2 e2
  split at e
  · rename_i ds' es' f1 f2
    split at e
    · cases e
    rename_i d' outs e3
    obtain ⟨η3, e4, e5⟩ := Option.map_eq_some_iff.mp e
    cases e5
    obtain ⟨rfl, rfl⟩ := back_none2 e1' e4
    have g1 := fin_allE e1' f1
    have g2 := fin_allE e2' f2
    subst g1 g2
    refine ⟨HF, η, _, η1, S, e1, fun vs H1 HF1 S1 s1 o1 => ⟨HF1, η1, _, _, S1, e2, fun zs H2 HF2 S2 s2 o2 => ?_⟩⟩
    have l1 := oos_len o1
    have l2 := oos_len o2
    have ev : gK m n vs zs = vs ++ zs := by
      unfold gK
      rw [if_pos ⟨by rw [l1, hm], by rw [l2, hn]⟩]
    show spF F.W (Γ g) (brOf as ++ brOf ks) (gK m n vs zs) H2 Q fun _ _ _ => False
    rw [ev]
    have rr : Reps F.W HF2 (vs ++ zs) (ds' ++ es') := ((OOks.mono s2.f o1).reps S2 e1' f1).append (o2.reps S2 e2' f2)
    have ln : lentA (brOf as ++ brOf ks) (vs ++ zs) = none := by
      have key : ∀ {br : List Bool} {vs : List V}, br.all (!·) = true → lentA br vs = none := by
        intro br
        induction br with
        | nil => intro vs _; rfl
        | cons b br ih =>
          intro vs h
          rw [List.all_cons, Bool.and_eq_true] at h
          cases b with
          | true => cases h.1
          | false => cases vs with
            | nil => rfl
            | cons v vs => exact ih h.2
      exact key hal
    refine ⟨HF2, _, _, [], S2.sub, args_e (as := as) hal (by rw [List.length_append, List.length_append, l1, l2]) rr, e3, fun v H3 HF3 sF sub keep new rv back => ?_⟩
    have kp : Same H2 H3 := fun a o z => keep a o z (by rw [ln]; exact fun z => nomatch z)
    have S3 := S2.ext sF kp sub new
    exact k v H3 HF3 S3 (s1.trans (s2.trans ⟨sF, fun a o z _ => kp a o z, fun a o z => (new a o z).imp id .inl, fun _ z => z, fun a o z => ⟨o, kp a o z⟩⟩)) rv
  · cases e
theorem se_callK {g : Nat} {as ks : Ops} {names : List Str} (hs : AllO (SO F Γ) as) (hk : AllO (SO F Γ) ks) : SE F Γ (.callK g as ks names) := by
  have pe : ∀ (c : CI) (X : Cx) (e : PySem.Expr), chkE c (.callK g as ks names) e = true → CtxOk X c Γ F.W → PE X e (tE F Γ (.callK g as ks names)) ∧ ∃ a b d f, e = .Call a b d f := fun c X e h C => by
    unfold chkE at h
    split at h
    · rename_i f pf xs kws pos
      simp only [Bool.and_eq_true, decide_eq_true_eq] at h
      obtain ⟨⟨⟨h1, h2⟩, h5⟩, h6⟩ := h
      unfold ckFnK at h1
      simp only [Bool.and_eq_true] at h1
      obtain ⟨⟨h1, h3⟩, h4⟩ := h1
      split at h1
      · rename_i n hn
        simp only [Bool.and_eq_true, decide_eq_true_eq] at h1
        obtain ⟨⟨⟨⟨e1, e2⟩, e3⟩, e4⟩, e5⟩ := h1
        obtain rfl := eqs_eq e1
        obtain ⟨⟨k, fa, fd, ps, m1, m2, hb, Fk, hr, hlen, kb⟩, one⟩ := C.fns g n hn
        rw [← e2, e4] at Fk
        obtain ⟨m, hml, KBx⟩ := kb names (by simpa using e5)
        obtain ⟨n1, n2, n3⟩ := kw_names (pos := pos) (env := X.env) h6
        have lx := br_len h2
        have lk := br_len h5
        rw [List.length_map] at lk
        have ln : kws.length = names.length := by
          have := congrArg List.length h6
          rw [List.length_map, List.length_map] at this
          exact this
        have hm : (brOf as).length = m := by
          have z := congrArg List.length e2
          rw [List.length_append, hlen, lk, ln, ← hml] at z
          omega
        have PKk := pk_ok (F := F) (Γ := Γ) C hk h5
        refine ⟨⟨fun pins s σ H Q I q => ?_⟩, _, _, _, _, rfl⟩
        have q' := tE_callK (br := brOf as ++ brOf ks) (m := m) (n := names.length) rfl e3 hm (by rw [lk, ln]) q
        cases xs with
        | nil =>
          have has : as = .nil := by
            cases as with
            | nil => rfl
            | cons a as =>
              rw [chkFs] at h2
              cases h2
          subst has
          refine (pe_callGK0 (E := fun _ _ _ => False) Fk hr (C.glb h3) m1 m2 KBx pass0 PKk n1 n2 (nmB_dbg h4).1 (by rw [n3]; rfl)).run pins s σ H Q I ?_
          exact tOs_nil q'
        | cons x xs =>
          have st := allCk_star h2
          have hpl : ((backTo pos (starEach (x :: xs) X.env)).any (·.1) || (backToKw pos (keywordEach kws X.env)).any (·.1.isNone)) = false := by
            rw [n3, any_back st]
            rfl
          exact (pe_callGK (E := fun _ _ _ => False) Fk hr (C.glb h3) m1 m2 KBx pass0 (pa_ok C hs h2) PKk n1 n2 (nmB_dbg h4).1 (st x List.mem_cons_self xs X.env) hpl).run pins s σ H Q I q'
      · cases h1
    · cases h
  refine ⟨fun c X e h C => (pe c X e h C).1, fun c X e h C => ?_, fun c X op es p h C => ?_, fun c X e h C hf => by cases hf⟩
  · obtain ⟨P, _, _, _, _, rfl⟩ := pe c X e h C
    exact CF.PT.weaken (pt_val P) fun _ _ _ => tT_tE
  · unfold chkE at h
    cases h
theorem pe_nm {c : CI} {X : Cx} (C : CtxOk X c Γ F.W) {i : Nat} {x : Str} {pos : Pos} (h1 : slotB c i x = true) (h2 : visB c x = true) (h3 : nmB x = true) : PE X (.Name x pos) (tVar i) := by
  obtain ⟨d1, d2, _⟩ := nmB_dbg h3
  exact pe_var (C.slot h1) (C.vis h2) d1 d2
/-! ### a dict of the def's own, read -/
theorem dicL_some {i : Nat} {kvs : List (Dv × Dv)} (h : dicL η i = some kvs) : η[i]? = some (.dic kvs) := by
  unfold dicL at h
  split at h
  · rename_i e
    cases h
    exact e
  · cases h
theorem tE_dget {i : Nat} {k : Ex} {Q : VK} (h : tE F Γ (.dget i k) σ H Q) : tOp (rDg F.W) (tVar i) (tE F Γ k) σ H Q := by
  obtain ⟨HF, η, d, η', S, e, kk⟩ := h
  rw [evE] at e
  split at e
  · cases e
  rename_i kvs0 e0
  split at e
  · cases e
  rename_i x η1 e1
  split at e
  · rename_i kx kvs t1 t2
    obtain ⟨d', f1, f2⟩ := Option.map_eq_some_iff.mp e
    cases f2
    obtain ⟨p, _, q, _⟩ := S.slotD (dicL_some e0)
    refine ⟨.ref p, q, HF, η, x, _, S, e1, fun y H1 HF1 S1 s1 r1 => ?_⟩
    obtain ⟨p', rs, q', hp, hr, _⟩ := S1.slotD (dicL_some t2)
    rw [q] at q'
    cases q'
    exact ⟨HF1, p, rs, kvs, x, kx, d, rfl, ⟨hp, hr, S1.sub, r1, t1⟩, f1, fun v rv => kk v H1 HF1 S1 s1 rv⟩
  · cases e
theorem tE_din {neg : Bool} {i : Nat} {k : Ex} {Q : VK} (h : tE F Γ (.din neg i k) σ H Q) : tOp (rDi F.W neg) (tE F Γ k) (tVar i) σ H Q := by
  obtain ⟨HF, η, d, η', S, e, kk⟩ := h
  rw [evE] at e
  split at e
  · cases e
  rename_i x η1 e1
  split at e
  · rename_i kx kvs t1 t2
    cases e
    refine ⟨HF, η, x, _, S, e1, fun y H1 HF1 S1 s1 r1 => ?_⟩
    obtain ⟨p, rs, q, hp, hr, _⟩ := S1.slotD (dicL_some t2)
    exact ⟨.ref p, q, HF1, p, rs, kvs, x, kx, rfl, ⟨hp, hr, S1.sub, r1, t1⟩, kk _ H1 HF1 S1 s1 (.bl _)⟩
  · cases e
theorem se_dget {i : Nat} {k : Ex} (hk : SE F Γ k) : SE F Γ (.dget i k) := by
  have pe : ∀ (c : CI) (X : Cx) (e : PySem.Expr), chkE c (.dget i k) e = true → CtxOk X c Γ F.W → PE X e (tE F Γ (.dget i k)) ∧ ∃ a b d, e = .Subscript a b d := fun c X e h C => by
    unfold chkE at h
    split at h
    · simp only [Bool.and_eq_true] at h
      obtain ⟨⟨⟨⟨h1, h2⟩, h3⟩, h4⟩, h5⟩ := h
      exact ⟨CF.PE.weaken (pe_ix (dg_ok C.hP C.hw C.K C.hu) (pe_nm C h1 h2 h3) (hk.pe c X _ h5 C) (plainIx_of h4)) fun σ H Q q => tE_dget q, _, _, _, rfl⟩
    · cases h
  refine ⟨fun c X e h C => (pe c X e h C).1, fun c X e h C => ?_, fun c X op es p h C => ?_, fun c X e h C hf => by cases hf⟩
  · obtain ⟨P, _, _, _, rfl⟩ := pe c X e h C
    exact CF.PT.weaken (pt_val P) fun _ _ _ => tT_tE
  · unfold chkE at h
    cases h
theorem se_din {neg : Bool} {i : Nat} {k : Ex} (hk : SE F Γ k) : SE F Γ (.din neg i k) := by
  have pe : ∀ (c : CI) (X : Cx) (e : PySem.Expr), chkE c (.din neg i k) e = true → CtxOk X c Γ F.W → PE X e (tE F Γ (.din neg i k)) ∧ PT X e (tT F Γ (.din neg i k)) := fun c X e h C => by
    unfold chkE at h
    split at h
    · rename_i x o y py pos
      simp only [Bool.and_eq_true, decide_eq_true_eq, Bool.not_eq_true'] at h
      obtain ⟨⟨⟨⟨⟨rfl, h1⟩, h2⟩, h3⟩, h4⟩, h5⟩ := h
      have pb := pe_nm C (pos := py) h2 h3 h4
      exact ⟨CF.PE.weaken (pe_cmpR (di_ok C.hP C.hw C.K C.hu neg) (hk.pe c X _ h5 C) pb h1) fun σ H Q q => tE_din q, CF.PT.weaken (pt_cmpR (di_ok C.hP C.hw C.K C.hu neg) (hk.pe c X _ h5 C) pb h1) fun σ H Q q => tE_din (tT_tE q)⟩
    · cases h
  refine ⟨fun c X e h C => (pe c X e h C).1, fun c X e h C => (pe c X e h C).2, fun c X op es p h C => ?_, fun c X e h C hf => by cases hf⟩
  unfold chkE at h
  cases h
mutual
theorem soundE : ∀ x : Ex, SE F Γ x
  | .var i => se_var i
  | .cst k => se_cst k
  | .glb x k => se_glb x k
  | .pr p as => se_pr (soundOs as)
  | .and a b => se_and (soundE a) (soundE b)
  | .or a b => se_or (soundE a) (soundE b)
  | .not a => se_not (soundE a)
  | .ite t a b => se_ite (soundE t) (soundE a) (soundE b)
  | .chain _ _ a b d => se_chain (soundO a) (soundO b) (soundO d)
  | .call _ as => se_call (soundOs as)
  | .callK _ as ks _ => se_callK (soundOs as) (soundOs ks)
  | .dget _ k => se_dget (soundE k)
  | .din _ _ k => se_din (soundE k)
  | .callF _ as => se_callF (soundOs as)
  | .callT _ x => se_callT (soundE x)
  | .comp elt _ it ifs _ => se_comp (soundE elt) (soundI it) (soundTs ifs)
theorem soundO : ∀ a : Op, SO F Γ a
  | .o i => so_o i
  | .e x => so_e (soundE x)
theorem soundOs : ∀ as : Ops, AllO (SO F Γ) as
  | .nil => trivial
  | .cons a as => ⟨soundO a, soundOs as⟩
theorem soundTs : ∀ ts : List Ex, AllX (SE F Γ) ts
  | [] => trivial
  | a :: as => ⟨soundE a, soundTs as⟩
theorem soundI : ∀ it : CF.It, SI F Γ it
  | .seq a => match a with
    | .e x => si_seq (soundE x)
    | .o i => fun c X tg e h nt C => by
      unfold chkI at h
      cases h
  | .rng1 a => si_rng1 (soundE a)
  | .rng2 a b => si_rng2 (soundE a) (soundE b)
  | .zip (.e a) (.e b) => si_zip (soundE a) (soundE b)
  | .zip (.o i) _ => fun c X tg e h nt C => by
    unfold chkI at h
    cases h
  | .zip (.e a) (.o i) => fun c X tg e h nt C => by
    unfold chkI at h
    cases h
  | .enum _ => fun c X tg e h nt C => by
    unfold chkI at h
    cases h
  | .ez (.e a) (.e b) => si_ez (soundE a) (soundE b)
  | .ez (.o i) _ => fun c X tg e h nt C => by
    unfold chkI at h
    cases h
  | .ez (.e a) (.o i) => fun c X tg e h nt C => by
    unfold chkI at h
    cases h
end
end
end CF

set_option Elab.async false
set_option linter.all false
set_option maxRecDepth 100000
namespace CF
open PySem PySem.Spec PyProof.Rows L2

/-! ## statements -/
/-- what is behind a statement's end -/
def EndK (F : Fx) (m : Bool) (D : Ends) (HF : Hp) (η' : CF.Env) (fl : Fl) : Prop := match fl with
  | .nx => ∀ σ' H' HF', SR F HF' σ' H' η' → Same HF HF' → D.nx σ' H'
  | .bk => ∀ σ' H' HF', SR F HF' σ' H' η' → Same HF HF' → D.bk σ' H'
  | .ct => ∀ σ' H' HF', SR F HF' σ' H' η' → Same HF HF' → D.ct σ' H'
  | .ret d => if m = true then ∃ xs, d = .lst xs ∧ ∀ q vs σ' H' HF', SR F HF' σ' H' η' → Same HF HF' → F.H0 q = none → H' q = some (.lst vs) → Reps F.W HF' vs xs → HF' q = none → D.rt (.ref q) H' else ∀ v σ' H' HF', SR F HF' σ' H' η' → Same HF HF' → Rep F.W HF' v d → D.rt v H'
def tS (F : Fx) (Γ : Tab) (fu : Nat) (m : Bool) (s : Sm) : TS := fun D σ H => ∃ HF η fl η', SR F HF σ H η ∧ evS Γ fu s η = some (fl, η') ∧ EndK F m D HF η' fl
def tSs (F : Fx) (Γ : Tab) (fu : Nat) (m : Bool) (s : Sms) : TS := fun D σ H => ∃ HF η fl η', SR F HF σ H η ∧ evSs Γ fu s η = some (fl, η') ∧ EndK F m D HF η' fl
def NoX (X : Cx) : Prop := X.xe = fun _ _ => False
def SS (F : Fx) (Γ : Tab) (fu : Nat) (s : Sm) : Prop := ∀ (c : CI) (X : Cx) (st : PySem.Stmt), chkS c s st = true → CtxOk X c Γ F.W → NoX X → PS X st (tS F Γ fu c.fr s)
def SSs (F : Fx) (Γ : Tab) (fu : Nat) (s : Sms) : Prop := ∀ (c : CI) (X : Cx) (sts : List PySem.Stmt), chkSs c s sts = true → CtxOk X c Γ F.W → NoX X → PSs X sts (tSs F Γ fu c.fr s)
section
variable {F : Fx} {Γ : Tab} {fu : Nat}
theorem EndK.mono {m : Bool} {D : Ends} {HF HF1 : Hp} {η' : CF.Env} {fl : Fl} (h : EndK F m D HF η' fl) (g : Same HF HF1) : EndK F m D HF1 η' fl := by
  cases fl with
  | nx => exact fun σ' H' HF' S s => h σ' H' HF' S (g.trans s)
  | bk => exact fun σ' H' HF' S s => h σ' H' HF' S (g.trans s)
  | ct => exact fun σ' H' HF' S s => h σ' H' HF' S (g.trans s)
  | ret d =>
    cases m with
    | true =>
      have h' : ∃ xs, d = .lst xs ∧ ∀ q vs σ' H' HF', SR F HF' σ' H' η' → Same HF HF' → F.H0 q = none → H' q = some (.lst vs) → Reps F.W HF' vs xs → HF' q = none → D.rt (.ref q) H' := h
      obtain ⟨xs, e, h'⟩ := h'
      exact (⟨xs, e, fun q vs σ' H' HF' S s => h' q vs σ' H' HF' S (g.trans s)⟩ : ∃ xs, d = .lst xs ∧ ∀ q vs σ' H' HF', SR F HF' σ' H' η' → Same HF1 HF' → F.H0 q = none → H' q = some (.lst vs) → Reps F.W HF' vs xs → HF' q = none → D.rt (.ref q) H')
    | false =>
      have h' : ∀ v σ' H' HF', SR F HF' σ' H' η' → Same HF HF' → Rep F.W HF' v d → D.rt v H' := h
      exact (fun v σ' H' HF' S s r => h' v σ' H' HF' S (g.trans s) r : ∀ v σ' H' HF', SR F HF' σ' H' η' → Same HF1 HF' → Rep F.W HF' v d → D.rt v H')

/-! ### a name, targets -/
theorem swaps_comp {a : PySem.Expr} {b : List Comprehension} {d : Scope} {f py : Pos} {y : Str} {l : Nat} {env : PySem.Env} : ∃ k : Bool, swapsWith (.ListComp a b d f) (some (.Name y py)) l env = pure k ∧ (k = true → env.kindOf y = some .local) := by
  refine ⟨_, rfl, fun h => ?_⟩
  simp only [Bool.and_eq_true] at h
  exact beq_iff_eq.mp h.1.1.2
theorem swaps_no {v : PySem.Expr} (h : noComp v = true) (t : Option PySem.Expr) (l : Nat) (env : PySem.Env) : swapsWith v t l env = pure false := by
  cases v <;> first | rfl | cases h
/-- a comprehension's own parts -/
theorem ps_nameC {elt : Ex} {tg : Tg} {it : CF.It} {ifs : List Ex} {ow : List Nat} {c : CI} {X : Cx} {v : PySem.Expr} {i : Nat} {y : Str} {py pos : Pos} (C : CtxOk X c Γ F.W) (h : chkE c (.comp elt tg it ifs ow) v = true) (hs : X.N[i]? = some y) (hl : Loc X.env.scope y) (hf : X.fn y = true ∨ X.env.scope.names.lookup y = some .local) :
    PS X (.Assign [.Name y py] v pos) (tAsg (tF F Γ (.comp elt tg it ifs ow)) (gName i)) := by
  have hN : X.N.Nodup := by rw [C.N]; exact C.nd
  have hP := (soundE (F := F) (Γ := Γ) (.comp elt tg it ifs ow)).pf c X v h C rfl
  unfold chkE at h
  split at h
  · rename_i e t iter fs scope p
    simp only [Bool.and_eq_true, decide_eq_true_eq, List.all_eq_true] at h
    obtain ⟨⟨⟨⟨⟨⟨⟨h1, h2⟩, ht⟩, h3⟩, h4⟩, h5⟩, h6⟩, h7⟩ := h
    have bk : BlkOk X.N X.env.scope scope (ownP c ow) := blkOk_by (by rw [C.N, C.sc]; exact h4)
    obtain ⟨pi, fo⟩ := soundI (F := F) (Γ := Γ) it c X t iter h3 ht C
    obtain ⟨k, hk, hloc⟩ := swaps_comp (a := e) (b := [⟨t, iter, fs, 0⟩]) (d := scope) (f := p) (py := py) (y := y) (l := pos.line) (env := X.env)
    cases k with
    | true =>
      have P := ps_setLc (py := py) (pos := p) (spos := pos) (tt := tTs F Γ ifs) C.calm hN hs (hloc rfl) hk pi bk (fun s H C' cl fp => (pg_ok (C.blk s H scope C' cl fp) tg t h5).1) (fun s H C' cl fp => pts_ok (C.blk s H scope C' cl fp) (soundTs ifs) h6 h1) (fun s H C' cl fp => (soundE elt).pe _ _ e h7 (C.blk s H scope C' cl fp)) fo
      rw [own_names] at P
      exact CF.PS.weaken P fun D σ H q => tLc_of (by rw [ckTs_len h6]; exact h1) (fun j hj => by simpa using h2 j hj) q
    | false => exact ps_set hN hs hl hP hk hf
  · cases h
theorem comp_lst {elt : Ex} {tg : Tg} {it : CF.It} {ifs : List Ex} {ow : List Nat} : ∀ η d η', evE Γ (.comp elt tg it ifs ow) η = some (d, η') → ∃ xs, d = .lst xs := fun η d η' e => by
  rw [evE] at e
  split at e
  · cases e
  split at e
  · split at e
    · cases e
    · cases e
      exact ⟨_, rfl⟩
  · cases e
/-- is it a comprehension? -/
def isCompX : Ex → Bool
  | .comp _ _ _ _ _ => true
  | _ => false
theorem chk_noComp {c : CI} {x : Ex} {v : PySem.Expr} (h : chkE c x v = true) (hx : isCompX x = false) : noComp v = true := by
  cases v with
  | ListComp a b d f =>
    exfalso
    cases x <;> first | cases hx; done | (unfold chkE at h; cases h)
  | SetComp a b d f =>
    exfalso
    cases x <;> (unfold chkE at h; cases h)
  | DictComp a b d f g =>
    exfalso
    cases x <;> (unfold chkE at h; cases h)
  | _ => rfl
theorem ps_nameE {x : Ex} {c : CI} {X : Cx} {v : PySem.Expr} {i : Nat} {y : Str} {py pos : Pos} (C : CtxOk X c Γ F.W) (h : chkE c x v = true) (hs : X.N[i]? = some y) (hl : Loc X.env.scope y) (hf : X.fn y = true ∨ X.env.scope.names.lookup y = some .local) :
    PS X (.Assign [.Name y py] v pos) (tAsg (tE F Γ x) (gName i)) ∧ (isFresh x = true → PS X (.Assign [.Name y py] v pos) (tAsg (tF F Γ x) (gName i))) := by
  have hN : X.N.Nodup := by rw [C.N]; exact C.nd
  cases hx : isCompX x with
  | true =>
    cases x with
    | comp elt tg it ifs ow =>
      have P := ps_nameC (py := py) (pos := pos) C h hs hl hf
      exact ⟨CF.PS.weaken P fun D σ H q => tF_of_tE comp_lst q, fun _ => P⟩
    | _ => cases hx
  | false =>
    have nc := swaps_no (chk_noComp h hx)
    exact ⟨ps_set hN hs hl ((soundE x).pe c X v h C) (nc _ _ _) hf, fun fr => ps_set hN hs hl ((soundE x).pf c X v h C fr) (nc _ _ _) hf⟩
theorem swap_fold {ts vs : List PySem.Expr} {k k2 : Nat} {tp p2 : Pos} {env : PySem.Env} (h : foldT (.Tuple vs k2 p2) = true) : swappedStores [.Tuple ts k tp] (.Tuple vs k2 p2) env = pure none := by
  have h' : vs.all (foldedForSure 8) = true := h
  unfold swappedStores
  dsimp only
  split
  · rfl
  split
  · rfl
  split
  · rfl
  · first
      | rfl
      | (rw [if_pos h']; done)
      | simp only [h', if_true]
theorem ss_set (tg : Tg) (e : Ex) : SS F Γ fu (.set tg e) := fun c X st h C nx => by
  unfold chkS at h
  split at h
  · rename_i t v pos
    simp only [Bool.and_eq_true] at h
    obtain ⟨⟨h1, h2⟩, h3⟩ := h
    have fin : ∀ {g : TG}, (∀ v σ H Q, gT F tg v σ H Q → g v σ H Q) → ∀ {m : Bool} (D : Ends) σ H, tS F Γ fu m (.set tg e) D σ H → tAsg (tE F Γ e) g D σ H := fun {g} hg {m} D σ H q => by
      obtain ⟨HF, η, fl, η', S, ev, k⟩ := q
      rw [evS] at ev
      split at ev
      · cases ev
      rename_i d η1 e1
      obtain ⟨η2, e2, e3⟩ := Option.map_eq_some_iff.mp ev
      cases e3
      exact ⟨HF, η, d, η1, S, e1, fun v H1 HF1 S1 s1 r => hg _ _ _ _ ⟨HF1, η1, d, _, S1, r, e2, fun σ' S2 _ _ _ => k σ' H1 HF1 S2 s1.f⟩⟩
    split at h3
    · rename_i y py
      cases tg with
      | n i =>
        unfold chkG at h2
        simp only [Bool.and_eq_true] at h2
        obtain ⟨l1, l2⟩ := C.sto h2.2
        refine CF.PS.weaken (ps_nameE C h1 (C.slot h2.1) l1 l2).1 (fin fun v σ H Q q => ?_)
        obtain ⟨HF, η, d, η', S, r, e, k⟩ := q
        unfold setTg at e
        obtain ⟨e1, rfl⟩ := if_some e
        have hi : i < σ.length := by
          rw [← S.len]
          exact free_lt e1
        refine k _ (S.setDat r hi) (fun j hj => ?_) (List.length_set ..) fun a ⟨j, z⟩ => ⟨j, own_unset rfl z⟩
        rw [List.getElem?_set_ne]
        intro z
        exact hj (by rw [← z]; exact List.mem_singleton.mpr rfl)
      | _ =>
        unfold chkG at h2
        cases h2
    · rename_i ts k tp
      have sw : swapsWithSole [.Tuple ts k tp] v pos.line X.env = pure false := by
        show swapsWith v (some (.Tuple ts k tp)) pos.line X.env = pure false
        cases v <;> rfl
      have st : swappedStores [.Tuple ts k tp] v X.env = pure none := by
        rw [Bool.or_eq_true] at h3
        rcases h3 with h3 | h3
        · cases v <;> first | rfl | cases h3
        · cases v <;> first | (cases h3; done) | exact swap_fold h3
      exact CF.PS.weaken (ps_asg ((soundE e).pe c X v h1 C) (pg_ok C tg _ h2).1 sw st rfl) (fin fun _ _ _ _ q => q)
    · cases h3
  · cases h
theorem ss_own (i : Nat) (e : Ex) : SS F Γ fu (.own i e) := fun c X st h C nx => by
  unfold chkS at h
  split at h
  · rename_i y py v pos
    simp only [Bool.and_eq_true] at h
    obtain ⟨⟨⟨h1, h2⟩, h3⟩, h4⟩ := h
    obtain ⟨l1, l2⟩ := C.sto h2
    refine CF.PS.weaken ((ps_nameE C h4 (C.slot h1) l1 l2).2 h3) fun D σ H q => ?_
    obtain ⟨HF, η, fl, η', S, ev, k⟩ := q
    rw [evS] at ev
    split at ev
    · rename_i xs η1 e1
      obtain ⟨e2, e3⟩ := if_some ev
      cases e3
      refine ⟨HF, η, xs, η1, S, e1, fun q vs H1 HF1 S1 s1 hn hq r hF h0 no => ?_⟩
      have hi : i < σ.length := by
        rw [← S1.len]
        exact free_lt e2
      exact k _ H1 HF1 (S1.setOwn hq r hF h0 (fun j z => no ⟨j, z⟩) hi) s1.f
    · cases ev
  · cases h
theorem aug_ok {W : Wd} (o : Operator) : PIp X o (fun x y H Q => ∃ HF a b d, Rep W HF x a ∧ Rep W HF y b ∧ augD o a b = some d ∧ ∀ v, Rep W HF v d → Q v H) := by
  intro pins s σ H x y v u Q I rx ry h
  obtain ⟨HF, a, b, d, ra, rb, e, o'⟩ := h
  unfold augD at e
  split at e
  · cases e
    cases ra
    cases rb
    exact iop_add pins s σ H _ _ v u Q I rx ry ⟨_, _, rfl, rfl, o' _ (.int _)⟩
  · obtain ⟨e1, rfl⟩ := if_some e
    cases ra
    cases rb
    exact iop_add_str pins s σ H _ _ v u Q I rx ry ⟨_, _, rfl, rfl, short_ok e1, o' _ (.str _)⟩
  · cases e
    cases ra
    cases rb
    exact iop_sub pins s σ H _ _ v u Q I rx ry ⟨_, _, rfl, rfl, o' _ (.int _)⟩
  · rename_i i j
    obtain ⟨e1, rfl⟩ := if_some e
    cases ra
    cases rb
    obtain ⟨t, rfl⟩ := rx
    obtain ⟨t', rfl⟩ := ry
    have hc : CMulW i j := (of_decide_eq_true (show decide (i.natAbs.log2 + j.natAbs.log2 < 1000000) = true from e1) : i.natAbs.log2 + j.natAbs.log2 < 1000000)
    exact imul_int ⟨.int _, H, I.tok _, ⟨_, rfl⟩, o' _ (.int _)⟩ hc.ok
  · cases e
theorem swap_par {c : CI} {X : Cx} (C : CtxOk X c Γ F.W) {x y : Str} {px py tp p2 : Pos} {a b : PySem.Expr} {k k2 : Nat} (h : parB c x y px py a b = true) : swappedStores [.Tuple [.Name x px, .Name y py] k tp] (.Tuple [a, b] k2 p2) X.env = pure (some [x, y]) ∧ x ≠ y ∧ X.env.scope.names.lookup x = some .local ∧ X.env.scope.names.lookup y = some .local := by
  unfold parB at h
  simp only [Bool.and_eq_true, decide_eq_true_eq, Bool.not_eq_true'] at h
  obtain ⟨⟨⟨⟨⟨⟨⟨⟨h1, h2⟩, h3⟩, h4⟩, h5⟩, h6⟩, h7⟩, h8⟩, h9⟩ := h
  have lx : X.env.scope.names.lookup x = some .local := by
    rw [C.sc]
    unfold locB at h3
    split at h3
    · assumption
    · cases h3
  have ly : X.env.scope.names.lookup y = some .local := by
    rw [C.sc]
    unfold locB at h4
    split at h4
    · assumption
    · cases h4
  have ne : x ≠ y := fun e => by
    unfold eqs at h2
    rw [decide_eq_false_iff_not] at h2
    exact h2 e
  refine ⟨?_, ne, lx, ly⟩
  have bk : X.env.blockKind = .function := by
    unfold Env.blockKind
    rw [C.sc, h1]
    rfl
  have kx : X.env.kindOf x = some .local := lx
  have ky : X.env.kindOf y = some .local := ly
  have na : ([a, b].any isStar) = false := by simp [h6, h7]
  have ed : [x, y].eraseDups = [x, y] := by
    have : (y == x) = false := beq_eq_false_iff_ne.mpr (Ne.symm ne)
    simp [List.eraseDups, List.eraseDupsBy, List.eraseDupsBy.loop, this]
  have nf : [a, b].all (foldedForSure 8) = false := by simpa using h8
  have nc : [a, b].all (constantsAlone 8) = false := by simpa using h9
  unfold swappedStores
  simp only [nf, nc, bk, List.length_cons, List.length_nil, List.head?_cons, Option.map_some, Option.getD_some, Expr.pos, List.filterMap_cons, List.filterMap_nil, kx, ky, h5, beq_self_eq_true, Bool.and_self, if_true, ed]
  rw [if_neg (by decide)]
  split
  · rename_i hh
    have hh' : ([a, b].any isStar) = true := hh
    rw [na] at hh'
    cases hh'
  · rw [if_neg (by decide), if_neg Bool.false_ne_true, if_neg Bool.false_ne_true]
theorem runL_two {f g : CF.Env → Option (Dv × CF.Env)} {η η' : CF.Env} {ds : List Dv} (e : runL [f, g] η = some (ds, η')) : ∃ x η1 y, f η = some (x, η1) ∧ g η1 = some (y, η') ∧ ds = [x, y] := by
  rw [runL] at e
  split at e
  · cases e
  rename_i x η1 e1
  split at e
  · cases e
  rename_i xs η2 e2
  cases e
  rw [runL] at e2
  split at e2
  · cases e2
  rename_i y η3 e3
  rw [runL] at e2
  cases e2
  exact ⟨x, η1, y, e1, e3, rfl⟩
theorem ss_par (ts : List (Nat × Bool)) (es : List Ex) : SS F Γ fu (.par ts es) := fun c X st h C nx => by
  unfold chkS at h
  split at h
  · rename_i i o1 j e1 e2 x px y py kt tp a b k2 p2 pos
    simp only [Bool.and_eq_true] at h
    obtain ⟨⟨⟨⟨⟨h1, h2⟩, h3⟩, h4⟩, h5⟩, h6⟩ := h
    obtain ⟨sw, ne, lx, ly⟩ := swap_par (F := F) (Γ := Γ) C (k := kt) (k2 := k2) (tp := tp) (p2 := p2) h3
    have hi := C.slot h1
    have hj := C.slot h2
    have hij : i ≠ j := fun z => by
      subst z
      rw [hi] at hj
      exact ne (Option.some.inj hj)
    have sa := chkE_star h4
    have sb := chkE_star h5
    have ss : swapsWithSole [.Tuple [.Name x px, .Name y py] kt tp] (.Tuple [a, b] k2 p2) pos.line X.env = pure false := rfl
    have P2 := pa_cons ((soundE (F := F) (Γ := Γ) e2).pe c X b h5 C) pa_nil (sb [] X.env)
    cases o1 with
    | false =>
      refine CF.PS.weaken (ps_par C.calm (by rw [C.N]; exact C.nd) hi hj hij lx ly (pa_cons ((soundE (F := F) (Γ := Γ) e1).pe c X a h4 C) P2 (sa [b] X.env)) sw ss) fun D σ H q => ?_
      obtain ⟨HF, η, fl, η', S, ev, kk⟩ := q
      rw [evS] at ev
      split at ev
      · cases ev
      rename_i ds η1 ed
      obtain ⟨x0, ηa, y0, f1, f2, rfl⟩ := runL_two (f := evE Γ e1) (g := evE Γ e2) ed
      obtain ⟨η2, g1, g2⟩ := Option.map_eq_some_iff.mp ev
      cases g2
      obtain ⟨c1, g1⟩ := if_opt2 (show (if free η1 i = true then setPar [(j, false)] [y0] (η1.set i (.dat x0)) else none) = some _ from g1)
      obtain ⟨c2, g1⟩ := if_opt2 (show (if free (η1.set i (.dat x0)) j = true then setPar [] [] ((η1.set i (.dat x0)).set j (.dat y0)) else none) = some _ from g1)
      cases g1
      refine ⟨HF, η, x0, ηa, S, f1, fun v H1 HF1 S1 s1 r1 => ⟨HF1, ηa, y0, _, S1, f2, fun w H2 HF2 S2 s2 r2 => ⟨v, w, rfl, ?_⟩⟩⟩
      have li : i < σ.length := by rw [← S2.len]; exact free_lt c1
      have lj : j < (σ.set i (some v)).length := by
        have := free_lt c2
        rw [List.length_set] at this
        rw [List.length_set, ← S2.len]
        exact this
      exact kk _ H2 HF2 ((S2.setDat (Rep.mono s2.f r1) li).setDat r2 lj) (s1.f.trans s2.f)
    | true =>
      have fr : isFresh e1 = true := by simpa using h6
      refine CF.PS.weaken (ps_par C.calm (by rw [C.N]; exact C.nd) hi hj hij lx ly (pa_cons ((soundE (F := F) (Γ := Γ) e1).pf c X a h4 C fr) P2 (sa [b] X.env)) sw ss) fun D σ H q => ?_
      obtain ⟨HF, η, fl, η', S, ev, kk⟩ := q
      rw [evS] at ev
      split at ev
      · cases ev
      rename_i ds η1 ed
      obtain ⟨x0, ηa, y0, f1, f2, rfl⟩ := runL_two (f := evE Γ e1) (g := evE Γ e2) ed
      obtain ⟨η2, g1, g2⟩ := Option.map_eq_some_iff.mp ev
      cases g2
      have hx : ∃ xs, x0 = .lst xs := by
        cases x0 <;> first | exact ⟨_, rfl⟩ | cases g1
      obtain ⟨xs, rfl⟩ := hx
      obtain ⟨c1, g1⟩ := if_opt2 (show (if free η1 i = true then setPar [(j, false)] [y0] (η1.set i (.lst false xs)) else none) = some _ from g1)
      obtain ⟨c2, g1⟩ := if_opt2 (show (if free (η1.set i (.lst false xs)) j = true then setPar [] [] ((η1.set i (.lst false xs)).set j (.dat y0)) else none) = some _ from g1)
      cases g1
      refine ⟨HF, η, xs, ηa, S, f1, fun q vs H1 HF1 S1 s1 hn hq r hF h0 no => ⟨HF1, ηa, y0, _, S1, f2, fun w H2 HF2 S2 s2 r2 => ⟨.ref q, w, rfl, ?_⟩⟩⟩
      have hq2 : H2 q = some (.lst vs) := s2.k q _ hq no
      have hF2 : HF2 q = none := by
        cases z : HF2 q with
        | none => rfl
        | some o =>
          rcases s2.n q o z with z | z | z
          · rw [hF] at z
            cases z
          · rw [hq] at z
            cases z
          · exact absurd z no
      have li : i < σ.length := by rw [← S2.len]; exact free_lt c1
      have lj : j < (σ.set i (some (.ref q))).length := by
        have := free_lt c2
        rw [List.length_set] at this
        rw [List.length_set, ← S2.len]
        exact this
      exact kk _ H2 HF2 ((S2.setOwn hq2 (r.mono s2.f) hF2 h0 (fun j z => no (s2.w q ⟨j, z⟩)) li).setDat r2 lj) (s1.f.trans s2.f)
  · cases h
theorem ss_dnew (i : Nat) : SS F Γ fu (.dnew i) := fun c X st h C nx => by
  unfold chkS at h
  split at h
  · rename_i y py pd pos
    simp only [Bool.and_eq_true] at h
    obtain ⟨l1, l2⟩ := C.sto h.2
    refine CF.PS.weaken (ps_set (by rw [C.N]; exact C.nd) (C.slot h.1) l1 (pe_dnewD (W := F.W)) rfl l2) fun D σ H q => ?_
    obtain ⟨HF, η, fl, η', S, ev, kk⟩ := q
    rw [evS] at ev
    obtain ⟨e1, e2⟩ := if_some ev
    cases e2
    intro p hp
    have S1 := S.allocOwn (o := DicO F.W p []) hp
    have li : i < σ.length := by rw [← S.len]; exact free_lt e1
    have no : ∀ j, ¬ OwnAt η σ j p := fun j z => own_tracked S hp ⟨j, z⟩
    exact kk _ _ HF (S1.setNew (sv := .dic []) ⟨p, [], rfl, upd_same, .nil, S.sub.free hp, S.dom hp⟩ no li) fun _ _ e => e
  · cases h
theorem ss_dput (i : Nat) (k e : Ex) : SS F Γ fu (.dput i k e) := fun c X st h C nx => by
  unfold chkS at h
  split at h
  · rename_i y py ix sp v pos
    simp only [Bool.and_eq_true] at h
    obtain ⟨⟨⟨⟨⟨⟨⟨h1, h2⟩, h3⟩, h4⟩, h5⟩, h6⟩, h7⟩, h8⟩ := h
    have P := pg_sub (pos := sp) (pe_nm C (pos := py) h1 h2 h3) ((soundE (F := F) (Γ := Γ) k).pe c X ix h7 C) (dp_ok C.hP C.hw C.K C.hu) (fun v => by cases ix <;> first | rfl | cases h4)
    have sw : swapsWithSole [.Subscript (.Name y py) ix sp] v pos.line X.env = pure false := by
      cases v <;> first | rfl | cases h6
    have sd : swappedStores [.Subscript (.Name y py) ix sp] v X.env = pure none := by
      cases v <;> rfl
    refine CF.PS.weaken (ps_asg ((soundE (F := F) (Γ := Γ) e).pe c X v h8 C) P sw sd rfl) fun D σ H q => ?_
    obtain ⟨HF, η, fl, η', S, ev, kk⟩ := q
    rw [evS] at ev
    split at ev
    · cases ev
    rename_i x η1 e1
    split at ev
    · cases ev
    rename_i kv0 d0
    split at ev
    · cases ev
    rename_i d η2 e2
    split at ev
    · rename_i kx kvs t1 t2
      obtain ⟨e3, e4⟩ := if_some ev
      cases e4
      rw [decide_eq_true_eq] at e3
      refine ⟨HF, η, x, η1, S, e1, fun w H1 HF1 S1 s1 rx => ?_⟩
      obtain ⟨p, _, q1, _⟩ := S1.slotD (dicL_some d0)
      refine ⟨.ref p, q1, HF1, η1, _, η2, S1, e2, fun w2 H2 HF2 S2 s2 rj => ?_⟩
      obtain ⟨p', rs, q2, hp, hr, _⟩ := S2.slotD (dicL_some t2)
      rw [q1] at q2
      cases q2
      exact ⟨HF2, p, rs, kvs, d, kx, x, rfl, ⟨hp, hr, S2.sub, rj, t1⟩, rx.mono s2.f, e3, fun rs' dr => kk _ _ HF2 (S2.updDic (dicL_some t2) q1 dr) (s1.f.trans s2.f)⟩
    · cases ev
  · cases h
theorem ss_aug (i : Nat) (o : Operator) (e : Ex) : SS F Γ fu (.aug i o e) := fun c X st h C nx => by
  unfold chkS at h
  split at h
  · rename_i y py o' v pos
    simp only [Bool.and_eq_true, decide_eq_true_eq] at h
    obtain ⟨⟨⟨⟨⟨h1, h2⟩, h3⟩, h4⟩, rfl⟩, h6⟩ := h
    obtain ⟨l1, l2⟩ := C.sto h2
    refine CF.PS.weaken (ps_aug (by rw [C.N]; exact C.nd) (C.slot h1) l1 ((soundE (F := F) (Γ := Γ) e).pe c X v h6 C) (aug_ok (W := F.W) o) l2) fun D σ H q => ?_
    obtain ⟨HF, η, fl, η', S, ev, k⟩ := q
    rw [evS] at ev
    split at ev
    · rename_i d hd
      split at ev
      · cases ev
      rename_i x η1 e1
      obtain ⟨r, e2, e3⟩ := Option.map_eq_some_iff.mp ev
      cases e3
      obtain ⟨w, q1, rw1⟩ := S.slotV hd
      have hi : i < σ.length := (List.getElem?_eq_some_iff.mp q1).1
      exact ⟨w, q1, HF, η, x, η1, S, e1, fun y H1 HF1 S1 s1 ry => ⟨HF1, d, x, r, rw1.mono s1.f, ry, e2, fun z rz => k _ H1 HF1 (S1.setDat rz hi) s1.f⟩⟩
    · cases ev
  · cases h
theorem ss_put (i : Nat) (k e : Ex) : SS F Γ fu (.put i k e) := fun c X st h C nx => by
  unfold chkS at h
  split at h
  · rename_i y py ix sp v pos
    simp only [Bool.and_eq_true] at h
    obtain ⟨⟨⟨⟨⟨⟨⟨h1, h2⟩, h3⟩, h4⟩, h5⟩, h6⟩, h7⟩, h8⟩ := h
    have P := pg_sub (pos := sp) (pe_nm C (pos := py) h1 h2 h3) ((soundE (F := F) (Γ := Γ) k).pe c X ix h7 C) set_list (fun v => by cases ix <;> first | rfl | cases h4)
    have sw : swapsWithSole [.Subscript (.Name y py) ix sp] v pos.line X.env = pure false := by
      cases v <;> first | rfl | cases h6
    have sd : swappedStores [.Subscript (.Name y py) ix sp] v X.env = pure none := by
      cases v <;> rfl
    refine CF.PS.weaken (ps_asg ((soundE (F := F) (Γ := Γ) e).pe c X v h8 C) P sw sd rfl) fun D σ H q => ?_
    obtain ⟨HF, η, fl, η', S, ev, kk⟩ := q
    rw [evS] at ev
    split at ev
    · cases ev
    rename_i x η1 e1
    split at ev
    · rename_i b0 x0 hl
      split at ev
      · rename_i j η2 e2
        split at ev
        · rename_i br xs hx
          obtain ⟨n, e3, e4⟩ := Option.map_eq_some_iff.mp ev
          cases e4
          refine ⟨HF, η, x, η1, S, e1, fun w H1 HF1 S1 s1 rx => ?_⟩
          obtain ⟨p, vs, q1, _⟩ := S1.slotL hl
          refine ⟨.ref p, q1, HF1, η1, _, η2, S1, e2, fun w2 H2 HF2 S2 s2 rj => ?_⟩
          cases rj
          obtain ⟨p', vs', q2, hp, rs, _⟩ := S2.slotL hx
          rw [q1] at q2
          cases q2
          exact ⟨p, vs', j, n, rfl, rfl, hp, by rw [rs.length]; exact e3, kk _ _ HF2 (S2.updOwn hx q1 (rs.set (rx.mono s2.f) n)) (s1.f.trans s2.f)⟩
        · cases ev
      · cases ev
    · cases ev
  · cases h
theorem ss_app (i : Nat) (e : Ex) : SS F Γ fu (.app i e) := fun c X st h C nx => by
  unfold chkS at h
  split at h
  · rename_i y py m ap v cp pos
    simp only [Bool.and_eq_true, decide_eq_true_eq] at h
    obtain ⟨⟨⟨⟨⟨h1, h2⟩, h3⟩, h4⟩, h5⟩, h6⟩ := h
    obtain rfl := eqs_eq h4
    have st := chkE_star h6
    have P := pe_bm (apos := ap) (cpos := cp) PySem.F.plainAttrs_list PySem.F.slot_list_append PySem.F.type_list_append mt_append (pe_nm C (pos := py) h1 h2 h3) (pa_cons ((soundE (F := F) (Γ := Γ) e).pe c X v h6 C) pa_nil (st _ _)) rfl
      (by rw [st [] X.env]; rfl) (by rw [h5]; exact beq_self_eq_true _) (st _ _) rfl
    refine CF.PS.weaken (ps_expr P rfl) fun D σ H q => ?_
    obtain ⟨HF, η, fl, η', S, ev, kk⟩ := q
    rw [evS] at ev
    split at ev
    · rename_i b0 x0 hl
      split at ev
      · cases ev
      rename_i x η1 e1
      split at ev
      · rename_i br xs hx
        obtain ⟨e2, e3⟩ := if_some ev
        cases e3
        rw [decide_eq_true_eq] at e2
        obtain ⟨p, vs, q1, hp0, _⟩ := S.slotL hl
        refine ⟨.ref p, q1, .inl ⟨rfl, _, SqL.of hp0⟩, HF, η, x, η1, S, e1, fun w H1 HF1 S1 s1 rx => ?_⟩
        obtain ⟨p', vs', q2, hp, rs, _⟩ := S1.slotL hx
        rw [q1] at q2
        cases q2
        exact ⟨p, vs', w, rfl, rfl, hp, by rw [rs.length, sizeLine_eq]; exact e2, kk _ _ HF1 (S1.updOwn hx q1 (rs.snoc rx)) s1.f⟩
      · cases ev
    · cases ev
  · cases h
theorem ss_ex (e : Ex) : SS F Γ fu (.ex e) := fun c X st h C nx => by
  unfold chkS at h
  split at h
  · rw [Bool.and_eq_true] at h
    refine CF.PS.weaken (ps_expr ((soundE (F := F) (Γ := Γ) e).pe c X _ h.2 C) (swaps_no h.1 _ _ _)) fun D σ H q => ?_
    obtain ⟨HF, η, fl, η', S, ev, kk⟩ := q
    rw [evS] at ev
    obtain ⟨r, e1, e2⟩ := Option.map_eq_some_iff.mp ev
    cases e2
    exact ⟨HF, η, r.1, r.2, S, e1, fun w H1 HF1 S1 s1 rx => kk _ H1 HF1 S1 s1.f⟩
  · cases h
theorem ss_ret (e : Ex) : SS F Γ fu (.ret e) := fun c X st h C nx => by
  unfold chkS at h
  split at h
  · rw [Bool.and_eq_true] at h
    cases hm : c.fr with
    | false =>
      refine CF.PS.weaken (ps_ret ((soundE (F := F) (Γ := Γ) e).pe c X _ h.2 C)) fun D σ H q => ?_
      obtain ⟨HF, η, fl, η', S, ev, kk⟩ := q
      rw [evS] at ev
      obtain ⟨r, e1, e2⟩ := Option.map_eq_some_iff.mp ev
      cases e2
      have kk' : ∀ v σ' H' HF', SR F HF' σ' H' r.2 → Same HF HF' → Rep F.W HF' v r.1 → D.rt v H' := kk
      exact ⟨HF, η, r.1, r.2, S, e1, fun w H1 HF1 S1 s1 rx => kk' w _ H1 HF1 S1 s1.f rx⟩
    | true =>
      have hf : isFresh e = true := by
        have z := h.1
        rw [hm] at z
        exact z
      refine CF.PS.weaken (ps_ret ((soundE (F := F) (Γ := Γ) e).pf c X _ h.2 C hf)) fun D σ H q => ?_
      obtain ⟨HF, η, fl, η', S, ev, kk⟩ := q
      rw [evS] at ev
      obtain ⟨r, e1, e2⟩ := Option.map_eq_some_iff.mp ev
      cases e2
      have kk' : ∃ xs, r.1 = .lst xs ∧ ∀ q vs σ' H' HF', SR F HF' σ' H' r.2 → Same HF HF' → F.H0 q = none → H' q = some (.lst vs) → Reps F.W HF' vs xs → HF' q = none → D.rt (.ref q) H' := kk
      obtain ⟨xs, hx, kk'⟩ := kk'
      exact ⟨HF, η, xs, r.2, S, by rw [e1, ← hx], fun q vs H1 HF1 S1 s1 hn hq rs hF h0 no => kk' q vs _ H1 HF1 S1 s1.f h0 hq rs hF⟩
  · cases h
theorem ss_retN : SS F Γ fu .retN := fun c X st h C nx => by
  unfold chkS at h
  split at h
  · have hm : c.fr = false := by simpa using h
    rw [hm]
    refine CF.PS.weaken ps_retN fun D σ H q => ?_
    obtain ⟨HF, η, fl, η', S, ev, kk⟩ := q
    rw [evS] at ev
    cases ev
    have kk' : ∀ v σ' H' HF', SR F HF' σ' H' _ → Same HF HF' → Rep F.W HF' v .non → D.rt v H' := kk
    exact kk' .non _ H HF S (fun _ _ e => e) .non
  · cases h
theorem ss_small {s : Sm} {fl : Fl} (he : ∀ η, evS Γ fu s η = some (fl, η)) {X : Cx} {st : PySem.Stmt} {t : TS} {m : Bool} (P : PS X st t) (k : ∀ D σ H HF η, SR F HF σ H η → EndK F m D HF η fl → t D σ H) : PS X st (tS F Γ fu m s) :=
  CF.PS.weaken P fun D σ H q => by
    obtain ⟨HF, η, fl', η', S, ev, kk⟩ := q
    rw [he] at ev
    cases ev
    exact k D σ H HF _ S kk
theorem ss_brk : SS F Γ fu .brk := fun c X st h C nx => by
  unfold chkS at h
  split at h
  · exact ss_small (fl := .bk) (fun η => by rw [evS]) ps_break fun D σ H HF η S k => k σ H HF S fun _ _ e => e
  · cases h
theorem ss_cont : SS F Γ fu .cont := fun c X st h C nx => by
  unfold chkS at h
  split at h
  · exact ss_small (fl := .ct) (fun η => by rw [evS]) ps_continue fun D σ H HF η S k => k σ H HF S fun _ _ e => e
  · cases h
theorem ss_pass : SS F Γ fu .pass := fun c X st h C nx => by
  unfold chkS at h
  split at h
  · exact ss_small (fl := .nx) (fun η => by rw [evS]) ps_pass fun D σ H HF η S k => k σ H HF S fun _ _ e => e
  · cases h
theorem ss_never : SS F Γ fu .never := fun c X st h C nx => CF.PS.weaken ps_never fun D σ H q => by
  obtain ⟨HF, η, fl', η', S, ev, kk⟩ := q
  rw [evS] at ev
  cases ev
theorem ss_ite {t : Ex} {a b : Sms} (ha : SSs F Γ fu a) (hb : SSs F Γ fu b) : SS F Γ fu (.ite t a b) := fun c X st h C nx => by
  unfold chkS at h
  split at h
  · simp only [Bool.and_eq_true] at h
    refine CF.PS.weaken (ps_if ((soundE (F := F) (Γ := Γ) t).pt c X _ h.1.1 C) (ha c X _ h.1.2 C nx) (hb c X _ h.2 C nx)) fun D σ H q => ?_
    obtain ⟨HF, η, fl, η', S, ev, kk⟩ := q
    rw [evS] at ev
    split at ev
    · rename_i η1 e1
      refine ⟨HF, η, _, η1, S, e1, fun H1 HF1 S1 s1 => ?_⟩
      show (if true = true then _ else _)
      rw [if_pos rfl]
      exact ⟨HF1, η1, fl, η', S1, ev, kk.mono s1.f⟩
    · rename_i η1 e1
      refine ⟨HF, η, _, η1, S, e1, fun H1 HF1 S1 s1 => ?_⟩
      show (if false = true then _ else _)
      rw [if_neg Bool.false_ne_true]
      exact ⟨HF1, η1, fl, η', S1, ev, kk.mono s1.f⟩
    · cases ev
  · cases h
theorem noX_pass {X : Cx} (nx : NoX X) : PassesOwn (model X.prog X.w) X.A X.env X.xe := by
  unfold NoX at nx
  rw [nx]
  exact PassesOwn.never
theorem ss_for {tg : Tg} {it : CF.It} {b : Sms} (hb : SSs F Γ fu b) : SS F Γ fu (.for_ tg it b) := fun c X st h C nx => by
  unfold chkS at h
  split at h
  · rename_i t i y pos
    simp only [Bool.and_eq_true] at h
    obtain ⟨⟨⟨ht, h1⟩, h2⟩, h3⟩ := h
    obtain ⟨pi, fo⟩ := soundI (F := F) (Γ := Γ) it c X t i h1 ht C
    refine CF.PS.weaken (ps_for (noX_pass nx) C.calm pi (pg_ok C tg t h2).1 (hb c X y h3 C nx) fo) fun D σ H q => ?_
    obtain ⟨HF, η, fl, η', S, ev, kk⟩ := q
    rw [evS] at ev
    split at ev
    · cases ev
    rename_i ds η1 e1
    refine ⟨HF, η, ds, η1, S, e1, fun J H1 HF1 S1 s1 jk => ?_⟩
    refine ⟨fun i m σ H => m = ds.length - i ∧ i ≤ ds.length ∧ ∃ HFi ηi, SR F HFi σ H ηi ∧ Same HF1 HFi ∧ forL tg (evSs Γ fu b) (ds.drop i) ηi = some (fl, η'), ⟨ds.length, by simp, Nat.zero_le _, HF1, η1, S1, (fun _ _ e => e), ev⟩, ?_⟩
    rintro i m σ' H' ⟨rfl, hi, HFi, ηi, Si, gi, ei⟩
    by_cases hlt : i < ds.length
    · have hd : ds[i]? = some ds[i] := List.getElem?_eq_getElem hlt
      rw [List.drop_eq_getElem_cons hlt] at ei
      generalize ds[i] = d at hd ei
      obtain ⟨hgo, hy⟩ := jk.go i d HFi σ' H' ηi hd gi Si
      rw [forL] at ei
      split at ei
      · cases ei
      rename_i ηt et
      refine .inr ⟨hgo, _, fun σ2 H2 p => ⟨ds.length - (i + 1), by omega, rfl, hlt, p⟩, fun x H2 y => ?_⟩
      obtain ⟨HF2, S2, s2, rx⟩ := hy x H2 y
      refine ⟨HF2, ηi, d, ηt, S2, rx, et, fun σ3 S3 _ _ _ => ?_⟩
      have g2 : Same HF1 HF2 := gi.trans s2.f
      have kk2 : EndK F c.fr D HF2 η' fl := kk.mono (s1.f.trans g2)
      split at ei
      · rename_i η2 e2
        exact ⟨HF2, ηt, _, η2, S3, e2, fun σ4 H4 HF4 S4 g4 => ⟨HF4, η2, S4, g2.trans g4, ei⟩⟩
      · rename_i η2 e2
        exact ⟨HF2, ηt, _, η2, S3, e2, fun σ4 H4 HF4 S4 g4 => ⟨HF4, η2, S4, g2.trans g4, ei⟩⟩
      · rename_i η2 e2
        cases ei
        exact ⟨HF2, ηt, _, _, S3, e2, fun σ4 H4 HF4 S4 g4 => kk2 σ4 H4 HF4 S4 g4⟩
      · rename_i r η2 e2
        cases ei
        exact ⟨HF2, ηt, _, _, S3, e2, kk2⟩
      · cases ei
    · have e : i = ds.length := by omega
      subst e
      rw [List.drop_length, forL] at ei
      cases ei
      exact .inl ⟨jk.stop _ HFi H' gi Si.sub (Nat.le_refl _), kk σ' H' HFi Si (s1.f.trans gi)⟩
  · cases h
theorem ss_while {t : Ex} {b : Sms} (hb : SSs F Γ fu b) : SS F Γ fu (.while_ t b) := fun c X st h C nx => by
  unfold chkS at h
  split at h
  · rename_i x y pos
    rw [Bool.and_eq_true] at h
    refine CF.PS.weaken (ps_while (noX_pass nx) ((soundE (F := F) (Γ := Γ) t).pt c X _ h.1 C) (hb c X y h.2 C nx)) fun D σ H q => ?_
    obtain ⟨HF, η, fl, η', S, ev, kk⟩ := q
    rw [evS] at ev
    refine ⟨fun m σ H => ∃ HFi ηi, SR F HFi σ H ηi ∧ Same HF HFi ∧ whileL (evE Γ t) (evSs Γ fu b) m ηi = some (fl, η'), ⟨fu, HF, η, S, (fun _ _ e => e), ev⟩, ?_⟩
    rintro m σ' H' ⟨HFi, ηi, Si, gi, ei⟩
    cases m with
    | zero =>
      rw [whileL] at ei
      cases ei
    | succ n =>
      rw [whileL] at ei
      split at ei
      · rename_i η1 e1
        refine ⟨HFi, ηi, _, η1, Si, e1, fun H1 HF1 S1 s1 => ?_⟩
        show (if true = true then _ else _)
        rw [if_pos rfl]
        refine ⟨_, fun σ2 H2 p => ⟨n, Nat.lt_succ_self n, p⟩, ?_⟩
        have g1 := gi.trans s1.f
        split at ei
        · rename_i η2 e2
          exact ⟨HF1, η1, _, η2, S1, e2, fun σ4 H4 HF4 S4 g4 => ⟨HF4, η2, S4, g1.trans g4, ei⟩⟩
        · rename_i η2 e2
          exact ⟨HF1, η1, _, η2, S1, e2, fun σ4 H4 HF4 S4 g4 => ⟨HF4, η2, S4, g1.trans g4, ei⟩⟩
        · rename_i η2 e2
          cases ei
          exact ⟨HF1, η1, _, _, S1, e2, fun σ4 H4 HF4 S4 g4 => kk σ4 H4 HF4 S4 (g1.trans g4)⟩
        · rename_i r η2 e2
          cases ei
          exact ⟨HF1, η1, _, _, S1, e2, kk.mono g1⟩
        · cases ei
      · rename_i η1 e1
        cases ei
        refine ⟨HFi, ηi, _, _, Si, e1, fun H1 HF1 S1 s1 => ?_⟩
        show (if false = true then _ else _)
        rw [if_neg Bool.false_ne_true]
        exact kk σ' H1 HF1 S1 (gi.trans s1.f)
      · cases ei
  · cases h
theorem sss_nil : SSs F Γ fu .nil := fun c X sts h C nx => by
  unfold chkSs at h
  split at h
  · refine CF.PSs.weaken pss_nil fun D σ H q => ?_
    obtain ⟨HF, η, fl, η', S, ev, kk⟩ := q
    rw [evSs] at ev
    cases ev
    exact kk σ H HF S fun _ _ e => e
  · cases h
theorem sss_cons {s : Sm} {ss : Sms} (h1 : SS F Γ fu s) (h2 : SSs F Γ fu ss) : SSs F Γ fu (.cons s ss) := fun c X sts h C nx => by
  unfold chkSs at h
  split at h
  · rename_i x xs
    rw [Bool.and_eq_true] at h
    refine CF.PSs.weaken (pss_cons (h1 c X x h.1 C nx) (h2 c X xs h.2 C nx)) fun D σ H q => ?_
    obtain ⟨HF, η, fl, η', S, ev, kk⟩ := q
    rw [evSs] at ev
    split at ev
    · rename_i η1 e1
      exact ⟨HF, η, _, η1, S, e1, fun σ1 H1 HF1 S1 g1 => ⟨HF1, η1, fl, η', S1, ev, kk.mono g1⟩⟩
    · rename_i r hr
      refine ⟨HF, η, fl, η', S, ev, ?_⟩
      cases fl with
      | nx => exact absurd ev (hr _)
      | bk => exact kk
      | ct => exact kk
      | ret d => exact kk
  · cases h
mutual
theorem soundS : ∀ s : Sm, SS F Γ fu s
  | .set tg e => ss_set tg e
  | .own i e => ss_own i e
  | .par ts es => ss_par ts es
  | .dnew i => ss_dnew i
  | .dput i k e => ss_dput i k e
  | .aug i o e => ss_aug i o e
  | .put i k e => ss_put i k e
  | .app i e => ss_app i e
  | .ext _ _ => fun c X st h C nx => by
    unfold chkS at h
    cases h
  | .ex e => ss_ex e
  | .ret e => ss_ret e
  | .retN => ss_retN
  | .ite _ a b => ss_ite (soundSs a) (soundSs b)
  | .for_ _ _ b => ss_for (soundSs b)
  | .while_ _ b => ss_while (soundSs b)
  | .brk => ss_brk
  | .cont => ss_cont
  | .pass => ss_pass
  | .never => ss_never
theorem soundSs : ∀ s : Sms, SSs F Γ fu s
  | .nil => sss_nil
  | .cons s ss => sss_cons (soundS s) (soundSs ss)
end
end
end CF

set_option Elab.async false
set_option linter.all false
set_option maxRecDepth 100000
namespace CF
open PySem PySem.Spec PyProof.Rows L2

/-! ## a def keeps what its text says -/
def lentAt : List Bool → List V → Nat → Option Addr
  | true :: _, .ref p :: _, 0 => some p
  | _ :: r, _ :: vs, i + 1 => lentAt r vs i
  | _, _, _ => none
section
variable {W : Wd} {HF H : Hp}
theorem lentAt_none : ∀ {br : List Bool} {vs : List V} {i : Nat}, br.all (!·) = true → lentAt br vs i = none
  | [], _, _, _ => rfl
  | true :: r, _, _, h => by
    rw [List.all_cons] at h
    cases h
  | false :: r, [], 0, _ => rfl
  | false :: r, [], i + 1, _ => rfl
  | false :: r, _ :: vs, 0, _ => rfl
  | false :: r, _ :: vs, i + 1, h => by
    rw [List.all_cons, Bool.and_eq_true] at h
    exact lentAt_none (br := r) h.2
theorem lentA_none : ∀ {br : List Bool} {vs : List V}, br.all (!·) = true → lentA br vs = none
  | [], _, _ => rfl
  | true :: r, _, h => by
    rw [List.all_cons] at h
    cases h
  | false :: r, [], _ => rfl
  | false :: r, _ :: vs, h => by
    rw [List.all_cons, Bool.and_eq_true] at h
    exact lentA_none (br := r) h.2
theorem lentAt_one : ∀ {br : List Bool} {vs : List V} {i : Nat} {p : Addr}, oneLent br = true → lentAt br vs i = some p → lentA br vs = some p
  | [], _, _, _, _, e => by cases e
  | true :: r, [], 0, _, _, e => by cases e
  | true :: r, [], i + 1, _, _, e => by cases e
  | true :: r, v :: vs, 0, p, _, e => by
    cases v <;> cases e
    rfl
  | true :: r, v :: vs, i + 1, p, h, e => by
    rw [oneLent] at h
    have e' : lentAt r vs i = some p := by
      cases v <;> exact e
    rw [lentAt_none h] at e'
    cases e'
  | false :: r, [], 0, _, _, e => by cases e
  | false :: r, [], i + 1, _, _, e => by cases e
  | false :: r, v :: vs, 0, p, _, e => by cases e
  | false :: r, v :: vs, i + 1, p, h, e => lentAt_one (br := r) (i := i) h e
theorem lentAt_uniq : ∀ {br : List Bool} {vs : List V} {i j : Nat} {p q : Addr}, oneLent br = true → lentAt br vs i = some p → lentAt br vs j = some q → i = j
  | [], _, _, _, _, _, _, e, _ => by cases e
  | b :: r, [], 0, _, _, _, _, e, _ => by cases b <;> cases e
  | b :: r, [], i + 1, _, _, _, _, e, _ => by cases b <;> cases e
  | b :: r, v :: vs, 0, 0, _, _, _, _, _ => rfl
  | true :: r, v :: vs, 0, j + 1, p, q, h, _, e => by
    rw [oneLent] at h
    have e' : lentAt r vs j = some q := by cases v <;> exact e
    rw [lentAt_none h] at e'
    cases e'
  | true :: r, v :: vs, i + 1, j, p, q, h, e, _ => by
    rw [oneLent] at h
    have e' : lentAt r vs i = some p := by cases v <;> exact e
    rw [lentAt_none h] at e'
    cases e'
  | false :: r, v :: vs, 0, j + 1, _, _, _, e, _ => by cases e
  | false :: r, v :: vs, i + 1, 0, _, _, _, _, e => by cases e
  | false :: r, v :: vs, i + 1, j + 1, p, q, h, e1, e2 => congrArg (· + 1) (lentAt_uniq (br := r) (vs := vs) h e1 e2)
theorem lentAt_at : ∀ {br : List Bool} {vs : List V} {ds : List Dv} {i : Nat} {p : Addr}, ArgOks W HF H br vs ds → lentAt br vs i = some p → (∃ us, H p = some (.lst us)) ∧ HF p = none
  | [], _, _, _, _, _, e => by cases e
  | true :: r, v :: vs, d :: ds, 0, p, h, e => by
    obtain ⟨⟨p', us, xs, rfl, rfl, h1, _, h2⟩, _⟩ := h
    cases e
    exact ⟨⟨us, h1⟩, h2⟩
  | true :: r, v :: vs, d :: ds, i + 1, p, h, e => by
    have e' : lentAt r vs i = some p := by cases v <;> exact e
    exact lentAt_at (br := r) h.2 e'
  | false :: r, v :: vs, d :: ds, 0, p, _, e => by cases e
  | false :: r, v :: vs, d :: ds, i + 1, p, h, e => lentAt_at (br := r) (vs := vs) (i := i) h.2 e
  | b :: r, [], _, _, _, h, _ => by cases b <;> exact h.elim
  | b :: r, _ :: _, [], _, _, h, _ => by cases b <;> exact h.elim
/-- what a slot holds at the entry -/
def InitOk (W : Wd) (HF H : Hp) (br : List Bool) (vs : List V) (i : Nat) : SV → Prop
  | .no => True
  | .dat d => ∃ v, vs[i]? = some v ∧ Rep W HF v d
  | .lst b xs => b = true ∧ ∃ p us, vs[i]? = some (.ref p) ∧ H p = some (.lst us) ∧ Reps W HF us xs ∧ HF p = none ∧ lentAt br vs i = some p
  | .dic _ => False
theorem initOk_succ {b : Bool} {r : List Bool} {v : V} {vs : List V} {i : Nat} {sv : SV} (h : InitOk W HF H r vs i sv) : InitOk W HF H (b :: r) (v :: vs) (i + 1) sv := by
  cases sv with
  | no => trivial
  | dat d =>
    obtain ⟨u, e, q⟩ := h
    exact ⟨u, by rw [List.getElem?_cons_succ]; exact e, q⟩
  | lst b2 xs =>
    obtain ⟨e0, p, us, e, q1, q2, q3, q4⟩ := h
    refine ⟨e0, p, us, by rw [List.getElem?_cons_succ]; exact e, q1, q2, q3, ?_⟩
    cases b with
    | true => cases v <;> exact q4
    | false => exact q4
  | dic kvs => exact (show False from h).elim
theorem init_ok : ∀ {br : List Bool} {vs : List V} {ds : List Dv} {η : CF.Env}, ArgOks W HF H br vs ds → initE br ds = some η → η.length = vs.length ∧ ∀ i sv, η[i]? = some sv → InitOk W HF H br vs i sv
  | [], [], [], η, _, e => by
    cases e
    exact ⟨rfl, fun i sv e => by simp at e⟩
  | true :: r, v :: vs, d :: ds, η, h, e => by
    obtain ⟨⟨p, us, xs, rfl, rfl, h1, h2, h3⟩, hr⟩ := h
    rw [initE] at e
    obtain ⟨η0, e1, rfl⟩ := Option.map_eq_some_iff.mp e
    obtain ⟨l, k⟩ := init_ok hr e1
    refine ⟨by rw [List.length_cons, List.length_cons, l], fun i sv q => ?_⟩
    cases i with
    | zero =>
      rw [List.getElem?_cons_zero] at q
      cases q
      exact ⟨rfl, p, us, rfl, h1, h2, h3, rfl⟩
    | succ i =>
      rw [List.getElem?_cons_succ] at q
      exact initOk_succ (k i sv q)
  | false :: r, v :: vs, d :: ds, η, h, e => by
    obtain ⟨h0, hr⟩ := h
    rw [initE] at e
    obtain ⟨η0, e1, rfl⟩ := Option.map_eq_some_iff.mp e
    obtain ⟨l, k⟩ := init_ok hr e1
    refine ⟨by rw [List.length_cons, List.length_cons, l], fun i sv q => ?_⟩
    cases i with
    | zero =>
      rw [List.getElem?_cons_zero] at q
      cases q
      exact ⟨v, rfl, h0⟩
    | succ i =>
      rw [List.getElem?_cons_succ] at q
      exact initOk_succ (k i sv q)
  | [], [], _ :: _, _, h, _ => h.elim
  | [], _ :: _, _, _, h, _ => h.elim
  | b :: r, [], _, _, h, _ => by cases b <;> exact h.elim
  | b :: r, _ :: _, [], _, h, _ => by cases b <;> exact h.elim
theorem outs_none : ∀ {br : List Bool} {η : CF.Env} {outs : List (List Dv)}, br.all (!·) = true → outsE br η = some outs → outs = []
  | [], _, _, _, e => by
    rw [outsE] at e
    cases e
    rfl
  | true :: r, _, _, h, _ => by
    rw [List.all_cons] at h
    cases h
  | false :: r, [], _, _, e => by cases e
  | false :: r, sv :: η, outs, h, e => by
    rw [List.all_cons, Bool.and_eq_true] at h
    have e' : outsE r η = some outs := by cases sv <;> exact e
    exact outs_none (br := r) h.2 e'
theorem outs_ok : ∀ {br : List Bool} {vs : List V} {ds : List Dv} {η : CF.Env} {outs : List (List Dv)}, ArgOks W HF H br vs ds → oneLent br = true → outsE br η = some outs →
    (lentA br vs = none ∧ outs = []) ∨ ∃ i p ys, lentA br vs = some p ∧ lentAt br vs i = some p ∧ η[i]? = some (.lst true ys) ∧ outs = [ys]
  | [], [], [], η, outs, _, _, e => by
    rw [outsE] at e
    cases e
    exact .inl ⟨rfl, rfl⟩
  | true :: r, v :: vs, d :: ds, η, outs, h, ho, e => by
    obtain ⟨⟨p, us, xs, rfl, rfl, h1, h2, h3⟩, hr⟩ := h
    rw [oneLent] at ho
    cases η with
    | nil => cases e
    | cons sv η =>
      cases sv with
      | lst b ys =>
        cases b with
        | true =>
          obtain ⟨o1, e1, rfl⟩ := Option.map_eq_some_iff.mp (show (outsE r η).map (ys :: ·) = some outs from e)
          obtain rfl := outs_none ho e1
          exact .inr ⟨0, p, ys, rfl, rfl, rfl, rfl⟩
        | false => cases e
      | no => cases e
      | dat d => cases e
      | dic kvs => cases e
  | false :: r, v :: vs, d :: ds, η, outs, h, ho, e => by
    cases η with
    | nil => cases e
    | cons sv η =>
      have e' : outsE r η = some outs := by cases sv <;> exact e
      rcases outs_ok (br := r) h.2 ho e' with ⟨q1, q2⟩ | ⟨i, p, ys, q1, q2, q3, q4⟩
      · exact .inl ⟨q1, q2⟩
      · exact .inr ⟨i + 1, p, ys, q1, q2, by rw [List.getElem?_cons_succ]; exact q3, q4⟩
  | [], [], _ :: _, _, _, h, _, _ => h.elim
  | [], _ :: _, _, _, _, h, _, _ => h.elim
  | b :: r, [], _, _, _, h, _, _ => by cases b <;> exact h.elim
  | b :: r, _ :: _, [], _, _, h, _, _ => by cases b <;> exact h.elim
theorem args_len : ∀ {br : List Bool} {vs : List V} {ds : List Dv}, ArgOks W HF H br vs ds → vs.length = br.length
  | [], [], [], _ => rfl
  | true :: r, v :: vs, d :: ds, h => congrArg (· + 1) (args_len (br := r) h.2)
  | false :: r, v :: vs, d :: ds, h => congrArg (· + 1) (args_len (br := r) h.2)
  | [], [], _ :: _, h => h.elim
  | [], _ :: _, _, h => h.elim
  | b :: r, [], _, h => by cases b <;> exact h.elim
  | b :: r, _ :: _, [], h => by cases b <;> exact h.elim
/-- the entry -/
theorem start_ok {N : List Str} {br : List Bool} {vs : List V} {ds : List Dv} {η : CF.Env} (sub : Same HF H) (ha : ArgOks W HF H br vs ds) (one : oneLent br = true) (e : initE br ds = some η) (hl : vs.length ≤ N.length) :
    SR ⟨W, HF, H, lentAt br vs⟩ HF (L2.start N vs) H (η ++ List.replicate (N.length - η.length) .no) := by
  obtain ⟨l, k⟩ := init_ok ha e
  have pick : ∀ i sv, (η ++ List.replicate (N.length - η.length) SV.no)[i]? = some sv → (sv = .no ∨ (InitOk W HF H br vs i sv ∧ (L2.start N vs)[i]? = (vs[i]?).map some)) := fun i sv q => by
    by_cases hi : i < η.length
    · rw [List.getElem?_append_left hi] at q
      refine .inr ⟨k i sv q, ?_⟩
      unfold L2.start
      rw [List.getElem?_append_left (by rw [List.length_map, ← l]; exact hi), List.getElem?_map]
    · rw [List.getElem?_append_right (by omega), List.getElem?_replicate] at q
      split at q
      · cases q
        exact .inl rfl
      · cases q
  refine ⟨sub, fun _ _ e => e, fun _ _ e _ => e, fun i p q => (lentAt_at ha q).1, fun i p q => (lentAt_at ha q).symm, fun _ _ e => .inl e, ?_, fun i sv q => ?_, fun i j a ⟨b1, e1, o1, q1⟩ ⟨b2, e2, o2, q2⟩ => ?_⟩
  · unfold L2.start
    rw [List.length_append, List.length_append, List.length_replicate, List.length_map, List.length_replicate, l]
  · rcases pick i sv q with rfl | ⟨h, hs⟩
    · trivial
    · cases sv with
      | no => trivial
      | dat d =>
        obtain ⟨v, e1, r⟩ := h
        exact ⟨v, by rw [hs, e1]; rfl, r⟩
      | lst b xs =>
        obtain ⟨rfl, p, us, e1, h1, h2, h3, h4⟩ := h
        exact ⟨p, us, by rw [hs, e1]; rfl, h1, h2, h3, by rw [if_pos rfl]; exact h4⟩
      | dic kvs => exact (show False from h).elim
  · have lent : ∀ {i : Nat} {b : SV}, (η ++ List.replicate (N.length - η.length) SV.no)[i]? = some b → b.own = true → ∃ p, lentAt br vs i = some p := fun {i b} e o => by
      rcases pick i _ e with rfl | ⟨h, _⟩
      · cases o
      · cases b with
        | no => cases o
        | dat d => cases o
        | lst b xs =>
          obtain ⟨_, p, us, _, _, _, _, h4⟩ := h
          exact ⟨p, h4⟩
        | dic kvs => exact (show False from h).elim
    obtain ⟨p, h4⟩ := lent e1 o1
    obtain ⟨p', h4'⟩ := lent e2 o2
    exact lentAt_uniq one h4 h4'
end
/-- a def that may be called -/
def CalP (P : Program) (w : World) (K : PySem.W.Frag) (mg : Str → Option Value) (base : Heap) (W : Wd) (k : Nat) (n : Str × List Bool × Bool × List (List Str)) (r : List Dv → Option (Dv × List (List Dv))) : Prop :=
  (∃ (j : Nat) (f : Addr) (fd : FuncData) (ps : List Str), mg n.1 = some (.ref f) ∧ PySem.W.keepIn K (.ref f) = true ∧ L2.Binds K fd ps [] ∧ FnG P w K mg base CX0 j f fd ps (spM n.2.2.1 W r n.2.1) ∧ j ≤ k ∧ n.2.1.length = ps.length ∧ ∀ ks ∈ n.2.2.2, KB K fd ps ks) ∧ oneLent n.2.1 = true
/-- the module around the defs -/
structure ModOk (P : Program) (w : World) (K : PySem.W.Frag) (mg : Str → Option Value) (base : Heap) (k : Nat) (c : CI) (Γ : Tab) (W : Wd) : Prop where
  hK : W.K = K
  hP : W.P = P
  hw : W.w = w
  x : XEnv P K mg W
  xs : ∀ k ∈ c.xs, (W.cl k).isSome = true
  bi : ∀ x ∈ bis, mg x = none
  gl : ∀ x k, c.gl.lookup x = some k → ∃ u, mg x = some u ∧ RelV (cstV k) u
  fns : ∀ g n, c.fn[g]? = some n → CalP P w K mg base W k n (Γ g)
theorem fn_ok {P : Program} {w : World} {K : PySem.W.Frag} {mg : Str → Option Value} {base : Heap} {k : Nat} {f : Addr} {x qual : Str} {st : Stmt} {fd : FuncData} {ps : List Str} {c : CI} {Γ : Tab} {W : Wd} {fu : Nat} {br : List Bool} {body : Sms}
    (Fu : Fun K x qual st f fd) (S : FnScope c.N ps (defScope st)) (hsc : c.sc = defScope st) (M : ModOk P w K mg base k c Γ W) (hb : br.length = ps.length) (one : oneLent br = true) (hc : chkSs c body (defBody st) = true) :
    FnG P w K mg base CX0 (k + 1) f fd ps (spM c.fr W (runFn Γ fu c.N.length br body) br) := by
  have hpl : ps.length ≤ c.N.length := by
    have := congrArg List.length S.pre
    rw [List.length_take] at this
    omega
  have C : ∀ (cdv : Value) (A : Around) (outer : List PySem.Env) (s : Shared) (H : Hp) (E : XK), RoomG k (A.deeper (envOfC qual (defScope st) s.heap.objs.size f cdv)) → CtxOk (cxOf CX0 P w K mg base c.N qual (defScope st) f cdv A outer s H E).nox c Γ W := fun cdv A outer s H E hr => {
    N := rfl
    nd := S.nd
    sc := hsc.symm
    K := M.hK
    hP := M.hP
    hw := M.hw
    calm := rfl
    hu := by
      have := hr.r.un
      show (A.deeper _).units + 200 < cLine
      omega
    hg := hr.g
    stn := fun _ _ => rfl
    dp := by
      have := hr.r.dp
      show (A.deeper _).depth + 1 < recursionLimit
      omega
    x := M.x
    xs := M.xs
    bi := M.bi
    gl := M.gl
    fns := fun g n e => by
      obtain ⟨⟨j, f, fd, ps, m1, m2, m3, m4, m5, m6, m7⟩, o⟩ := M.fns g n e
      exact ⟨⟨j, f, fd, ps, m1, m2, m3, m4, hr.mono m5, m6, m7⟩, o⟩ }
  have back : ∀ {HF H : Hp} {vs : List V} {ds : List Dv} {η' : CF.Env} {outs : List (List Dv)}, ArgOks W HF H br vs ds → outsE br η' = some outs → ∀ {σ' : L2.St} {H' HF' : Hp}, SR ⟨W, HF, H, lentAt br vs⟩ HF' σ' H' η' → BackOk W HF' H' (lentA br vs) outs := fun {HF H vs ds η' outs} ha ho {σ' H' HF'} S' => by
    rcases outs_ok ha one ho with ⟨q1, rfl⟩ | ⟨i, p, ys, q1, q2, q3, rfl⟩
    · rw [q1]
      trivial
    · rw [q1]
      obtain ⟨p', us, _, h1, h2, h3, h4⟩ := S'.slotL q3
      have h4' : lentAt br vs i = some p' := h4
      rw [q2] at h4'
      cases h4'
      exact ⟨us, h1, h2, h3⟩
  cases hm : c.fr with
  | false =>
    refine fnG_of Fu S (fun vs H Q E h => ?_) fun cdv A outer s H vs Q E hr hsp => ?_
    · obtain ⟨HF, ds, d, outs, _, ha, _⟩ := h
      rw [args_len ha, hb]
    obtain ⟨HF, ds, d, outs, sub, ha, hrun, kk⟩ := hsp
    unfold runFn at hrun
    split at hrun
    · cases hrun
    rename_i η0 e0
    let F : Fx := ⟨W, HF, H, lentAt br vs⟩
    have PB := (soundSs (F := F) (Γ := Γ) (fu := fu) body c _ (defBody st) hc (C cdv A outer s H E hr) rfl).nox
    rw [hm] at PB
    refine ⟨_, PB, HF, η0 ++ List.replicate (c.N.length - η0.length) .no, ?_⟩
    have S0 : SR F HF (L2.start c.N vs) H (η0 ++ List.replicate (c.N.length - η0.length) .no) := start_ok sub ha one e0 (by rw [args_len ha, hb]; exact hpl)
    have fin : ∀ {η' : CF.Env} {v : V} {d : Dv} {outs : List (List Dv)}, outsE br η' = some outs → (∀ v H' HF', Same HF HF' → Same HF' H' → (∀ a o, H a = some o → lentA br vs ≠ some a → H' a = some o) → (∀ a o, HF' a = some o → HF a = some o ∨ H a = none) → Rep W HF' v d → BackOk W HF' H' (lentA br vs) outs → Q v H') →
        ∀ {σ' : L2.St} {H' HF' : Hp}, SR F HF' σ' H' η' → Same HF HF' → Rep W HF' v d → Q v H' := fun {η' v d outs} ho kk {σ' H' HF'} S' g r =>
      kk v H' HF' g S'.sub (fun a o e n => S'.keep a o e fun i z => n (lentAt_one one z)) S'.newF r (back ha ho S')
    split at hrun
    · rename_i r η' er
      obtain ⟨outs', o1, o2⟩ := Option.map_eq_some_iff.mp hrun
      cases o2
      exact ⟨_, _, S0, er, (fun v σ' H' HF' S' g rv => fin o1 kk S' g rv : ∀ v σ' H' HF', SR F HF' σ' H' η' → Same HF HF' → Rep F.W HF' v _ → Q v H')⟩
    · rename_i η' er
      obtain ⟨outs', o1, o2⟩ := Option.map_eq_some_iff.mp hrun
      cases o2
      exact ⟨_, _, S0, er, fun σ' H' HF' S' g => fin o1 kk S' g .non⟩
    · cases hrun
  | true =>
    refine fnG_of Fu S (fun vs H Q E h => ?_) fun cdv A outer s H vs Q E hr hsp => ?_
    · obtain ⟨HF, ds, d, outs, _, ha, _⟩ := h
      rw [args_len ha, hb]
    obtain ⟨HF, ds, ys, outs, sub, ha, hrun, kk⟩ := hsp
    unfold runFn at hrun
    split at hrun
    · cases hrun
    rename_i η0 e0
    let F : Fx := ⟨W, HF, H, lentAt br vs⟩
    have PB := (soundSs (F := F) (Γ := Γ) (fu := fu) body c _ (defBody st) hc (C cdv A outer s H E hr) rfl).nox
    rw [hm] at PB
    refine ⟨_, PB, HF, η0 ++ List.replicate (c.N.length - η0.length) .no, ?_⟩
    have S0 : SR F HF (L2.start c.N vs) H (η0 ++ List.replicate (c.N.length - η0.length) .no) := start_ok sub ha one e0 (by rw [args_len ha, hb]; exact hpl)
    split at hrun
    · rename_i r η' er
      obtain ⟨outs', o1, o2⟩ := Option.map_eq_some_iff.mp hrun
      cases o2
      refine ⟨_, _, S0, er, (⟨ys, rfl, fun q us σ' H' HF' S' g h0 hq rs hF => ?_⟩ : ∃ xs, Dv.lst ys = .lst xs ∧ ∀ q vs σ' H' HF', SR F HF' σ' H' η' → Same HF HF' → F.H0 q = none → H' q = some (.lst vs) → Reps F.W HF' vs xs → HF' q = none → Q (.ref q) H')⟩
      exact kk q us H' HF' g S'.sub (fun a o e n => S'.keep a o e fun i z => n (lentAt_one one z)) S'.newF h0 hq rs hF (back ha o1 S')
    · rename_i η' er
      obtain ⟨outs', o1, o2⟩ := Option.map_eq_some_iff.mp hrun
      cases o2
    · cases hrun
end CF

set_option Elab.async false
set_option linter.all false
set_option maxRecDepth 100000
namespace CF
open PySem PySem.Spec PyProof.Rows L2

/-! ## the defs of a text together -/
abbrev Run := List Dv → Option (Dv × List (List Dv))
def tab (l : List Run) : Tab := fun g => (l[g]?).getD fun _ => none
structure DefIn (K : PySem.W.Frag) (mg : Str → Option Value) (x : Str) (st : Stmt) (ps : List Str) (kss : List (List Str)) (f : Addr) (fd : FuncData) : Prop where
  fn : Fun K x x st f fd
  mg : mg x = some (.ref f)
  kp : PySem.W.keepIn K (.ref f) = true
  bd : L2.Binds K fd ps []
  kb : ∀ ks ∈ kss, KB K fd ps ks
section
variable {P : Program} {w : World} {K : PySem.W.Frag} {mg : Str → Option Value} {base : Heap} {W : Wd}
def CalsP (P : Program) (w : World) (K : PySem.W.Frag) (mg : Str → Option Value) (base : Heap) (W : Wd) (k : Nat) : List (Str × List Bool × Bool × List (List Str)) → List Run → Prop
  | [], [] => True
  | n :: ns, r :: rs => CalP P w K mg base W k n r ∧ CalsP P w K mg base W k ns rs
  | _, _ => False
theorem CalP.mono {k k' : Nat} {n : Str × List Bool × Bool × List (List Str)} {r : Run} (h : CalP P w K mg base W k n r) (l : k ≤ k') : CalP P w K mg base W k' n r := by
  obtain ⟨⟨j, f, fd, ps, a, b, c, d, e, e2⟩, o⟩ := h
  exact ⟨⟨j, f, fd, ps, a, b, c, d, Nat.le_trans e l, e2⟩, o⟩
theorem fns_of {k : Nat} : ∀ {ns : List (Str × List Bool × Bool × List (List Str))} {rs : List Run}, CalsP P w K mg base W k ns rs → ∀ g n, ns[g]? = some n → CalP P w K mg base W k n (tab rs g)
  | [], [], _, g, n, e => by simp at e
  | n :: ns, r :: rs, h, 0, m, e => by
    rw [List.getElem?_cons_zero] at e
    cases e
    exact h.1
  | n :: ns, r :: rs, h, g + 1, m, e => by
    rw [List.getElem?_cons_succ] at e
    exact fns_of h.2 g m e
  | [], _ :: _, h, _, _, _ => h.elim
  | _ :: _, [], h, _, _, _ => h.elim
/-- what all defs need -/
structure TxtOk (P : Program) (w : World) (K : PySem.W.Frag) (mg : Str → Option Value) (W : Wd) (xs : List Str) (gl : List (Str × Const)) : Prop where
  hK : W.K = K
  hP : W.P = P
  hw : W.w = w
  x : XEnv P K mg W
  xs : ∀ k ∈ xs, (W.cl k).isSome = true
  bi : ∀ x ∈ bis, mg x = none
  gl : ∀ p ∈ gl, ∃ u, mg p.1 = some u ∧ RelV (cstV p.2) u
theorem lookup_mem {α β : Type} [BEq α] [LawfulBEq α] : ∀ {l : List (α × β)} {x : α} {y : β}, l.lookup x = some y → (x, y) ∈ l
  | [], _, _, h => by cases h
  | (a, b) :: l, x, y, h => by
    rw [List.lookup_cons] at h
    split at h
    · rename_i e
      cases h
      rw [eq_of_beq e]
      exact List.mem_cons_self
    · exact List.mem_cons_of_mem _ (lookup_mem h)
theorem cal_mk {x : Str} {st : Stmt} {ps : List Str} {kss : List (List Str)} {f : Addr} {fd : FuncData} {c : CI} {k : Nat} {br : List Bool} {body : Sms} {fu n : Nat} {rs : List Run} {xs : List Str} {gl : List (Str × Const)} (T : TxtOk P w K mg W xs gl) (D : DefIn K mg x st ps kss f fd)
    (S : FnScope c.N ps (defScope st)) (hc : chkSs c body (defBody st) = true) (hx : ∀ k ∈ c.xs, k ∈ xs) (hg : ∀ p ∈ c.gl, p ∈ gl) (hcal : CalsP P w K mg base W k c.fn rs) (hsc : c.sc = defScope st) (hb : br.length = ps.length) (one : oneLent br = true) (hn : c.N.length = n) :
    CalP P w K mg base W (k + 1) (x, br, c.fr, kss) (runFn (tab rs) fu n br body) := by
  subst hn
  exact ⟨⟨k + 1, f, fd, ps, D.mg, D.kp, D.bd, fn_ok D.fn S hsc ⟨T.hK, T.hP, T.hw, T.x, fun k h => T.xs k (hx k h), T.bi, fun x k h => T.gl _ (hg _ (lookup_mem h)), fns_of hcal⟩ hb one hc, Nat.le_refl _, hb, D.kb⟩, one⟩
/-- a def that calls itself, so many times at most -/
def recR (rs : Run → List Run) (fu n : Nat) (br : List Bool) (body : Sms) : Nat → Run
  | 0 => fun _ => none
  | m + 1 => runFn (tab (rs (recR rs fu n br body m))) fu n br body
theorem cal_rec {x : Str} {st : Stmt} {ps : List Str} {kss : List (List Str)} {f : Addr} {fd : FuncData} {c : CI} {k : Nat} {br : List Bool} {body : Sms} {fu n : Nat} {rs : Run → List Run} {xs : List Str} {gl : List (Str × Const)} (T : TxtOk P w K mg W xs gl) (D : DefIn K mg x st ps kss f fd)
    (S : FnScope c.N ps (defScope st)) (hc : chkSs c body (defBody st) = true) (hx : ∀ k ∈ c.xs, k ∈ xs) (hg : ∀ p ∈ c.gl, p ∈ gl) (hcal : ∀ (j : Nat) (r : Run), k ≤ j → CalP P w K mg base W j (x, br, c.fr, kss) r → CalsP P w K mg base W j c.fn (rs r)) (hsc : c.sc = defScope st) (hb : br.length = ps.length) (one : oneLent br = true) (hn : c.N.length = n) :
    ∀ m, CalP P w K mg base W (k + m) (x, br, c.fr, kss) (recR rs fu n br body m)
  | 0 => by
    refine ⟨⟨0, f, fd, ps, D.mg, D.kp, D.bd, ⟨fun vs H Q E h => ?_, fun A outer s H args us vs Q E hr e0 hb' r h => ?_⟩, Nat.zero_le _, hb, D.kb⟩, one⟩
    · exfalso
      cases hm : c.fr with
      | true =>
        rw [hm] at h
        obtain ⟨_, _, _, _, _, _, e, _⟩ := (h : spG W (fun _ => none) br vs H Q E)
        cases e
      | false =>
        rw [hm] at h
        obtain ⟨_, _, _, _, _, _, e, _⟩ := (h : spF W (fun _ => none) br vs H Q E)
        cases e
    · exfalso
      cases hm : c.fr with
      | true =>
        rw [hm] at h
        obtain ⟨_, _, _, _, _, _, e, _⟩ := (h : spG W (fun _ => none) br vs H Q E)
        cases e
      | false =>
        rw [hm] at h
        obtain ⟨_, _, _, _, _, _, e, _⟩ := (h : spF W (fun _ => none) br vs H Q E)
        cases e
  | m + 1 => cal_mk (fu := fu) T D S hc hx hg (hcal (k + m) _ (Nat.le_add_right _ _) (cal_rec T D S hc hx hg hcal hsc hb one hn m)) hsc hb one hn
theorem FnG.weaken {CX : CXT} {k : Nat} {f : Addr} {fd : FuncData} {ps : List Str} {sp sp' : Sp} (h : FnG P w K mg base CX k f fd ps sp) (le : ∀ vs H Q E, sp' vs H Q E → sp vs H Q E) : FnG P w K mg base CX k f fd ps sp' :=
  ⟨fun vs H Q E q => h.len vs H Q E (le _ _ _ _ q), fun A outer s H args us vs Q E hr e0 hb r q => h.run A outer s H args us vs Q E hr e0 hb r (le _ _ _ _ q)⟩
def spL (K : PySem.W.Frag) : Sp := fun vs H Q _ => ∃ (a : Addr) (ns : List Int), vs = [.ref a] ∧ SqL K H a (ns.map V.int) ∧ ns.length ≤ 63 ∧ ∀ H', Q (.bl true) H'
theorem spL_le {K : PySem.W.Frag} {W : Wd} {r : Run} (hK : W.K = K) (h : ∀ ns : List Int, ns.length ≤ 63 → r [.scr ns] = some (.bl true, [])) : ∀ vs H Q E, spL K vs H Q E → spM false W r [false] vs H Q E := fun vs H Q E ⟨a, ns, e, hS, hl, k⟩ => by
  subst e
  refine ⟨H, [.scr ns], .bl true, [], fun _ _ e => e, ⟨.scr (by rw [hK]; exact hS), trivial⟩, h ns hl, fun v H' HF' _ _ _ _ r _ => ?_⟩
  cases r
  exact k H'
end
theorem walk {l : PySem.W.OpenLaw} {k : Nat} {q : Program} {loose : List Str} {XP : (Str → Option Value) → Heap → Prop} {YP : World → Heap → Prop} {d : DefRec} {K : Params → PySem.W.Frag} (hn : l.most = some 63) (hdf : d.params.defaults = []) (hr : RoomG k callerA)
    (hY : ∀ (w : World) (h : Heap), YP w h → (K w.params).In h)
    (F : ∀ (w : World) (mg : Str → Option Value) (fa : Addr) (h : Heap), (K w.params).In h → h.Ns mainGlobals mg → mg d.name = some (.ref fa) →
      ∃ fd : FuncData, (∀ (s : Shared) (u : Value), BindsTo s fd ⟨[u], []⟩ [("script", u)]) ∧ ∀ base : Heap, (K w.params).In base → base.Ns mainGlobals mg → FnG l.prog w (K w.params) mg base CX0 k fa fd ["script"] (spL (K w.params))) :
    PySem.W.WalkO q loose XP YP l.row.toRowW d [] (fun f vs => PySem.call f vs) :=
  walkG (sp := fun w => spL (K w.params)) hn (by rw [sizeLine_eq]; decide) hdf hr hY F fun w H a ns hl _ hS => ⟨a, ns, rfl, hS, hl, fun _ => rfl⟩

/-! ## the error classes by one look -/
def oexB (K : PySem.W.Frag) (C : Addr) : Bool := (match K.lookup C with
  | some ⟨.type "type", _, .cls cd, sl⟩ => (match cd.mro, sl.toList with
    | .ref C' :: bm, [_, _, _, _, some (.builtin n), _] => C' == C && n == "ValueError.__new__" && !cd.hasDel && cd.hasDict && PySem.HandSPX.refsVE bm
    | _, _ => false)
  | _ => false) && decide (PySem.W.findIn K (.ref C) "__setattr__" = some (some (.builtin "object.__setattr__"))) && decide (PySem.W.subIn K (.ref C) (.type "BaseException") = some true) && decide (PySem.W.typeIn K (.ref C) = some (.type "type")) && PySem.W.keepIn K (.ref C)
theorem oexB_ok {K : PySem.W.Frag} {C : Addr} (h : oexB K C = true) : OexC K C := by
  unfold oexB at h
  simp only [Bool.and_eq_true, decide_eq_true_eq] at h
  obtain ⟨⟨⟨⟨h1, h2⟩, h3⟩, h4⟩, h5⟩ := h
  refine ⟨?_, h2, h3, h4, h5⟩
  split at h1
  · rename_i dd cd sl ho
    split at h1
    · rename_i C' bm k0 k1 k2 k3 n k5 hm hs
      simp only [Bool.and_eq_true, beq_iff_eq, Bool.not_eq_true'] at h1
      obtain ⟨⟨⟨⟨rfl, rfl⟩, hdel⟩, hdct⟩, hr⟩ := h1
      obtain ⟨nm, bs, mro, ns, qn, hd, sn, sub, ab, col, del⟩ := cd
      dsimp only at hm hdel hdct
      subst hm hdel hdct
      have hsl : sl = #[k0, k1, k2, k3, some (.builtin "ValueError.__new__"), k5] := by
        obtain ⟨l⟩ := sl
        simp only at hs
        rw [hs]
      subst hsl
      exact ⟨nm, qn, ns, bs, bm, sn, sub, ab, col, dd, k0, k1, k2, k3, k5, ho, hr⟩
    · cases h1
  · cases h1
def clsB (K : PySem.W.Frag) (fI D : Addr) (p : Str × Addr) : Bool := oexB K p.2 && decide (PySem.W.nsIn K mainGlobals p.1 = some (some (.ref p.2))) &&
  decide (PySem.W.findIn K (.ref p.2) "__init__" = some (some (.ref fI))) && decide (PySem.W.typeIn K (.ref fI) = some (.type "function")) && decide (PySem.W.ks_superIn K p.2 D "__init__" = some (some (.builtin "ValueError.__init__"))) &&
  decide (PySem.W.subIn K (.ref p.2) (.type "ValueError") = some true) && decide (PySem.W.mroIn K p.2 (.ref D) = some true) && decide (PySem.W.findIn K (.ref p.2) "value" = some none) && decide (PySem.W.nsIn K cStatics "thirdparty.any" = some none) &&
  (match PySem.W.clsIn K p.2 with | some cd => decide (Str.ofString ((cd.name.toString.cutAt '.').getLastD "") = p.1) | none => false) && PySem.W.hasDictIn K p.2 && decide (PySem.W.findIn K (.ref p.2) "__getattribute__" = some (some (.builtin "BaseException.__getattribute__"))) &&
  decide (PySem.W.findIn K (.ref p.2) "__getattr__" = some none) && decide (PySem.W.findIn K (.ref p.2) "__class__" = some (some (.builtin "object.__class__"))) &&
  decide (PySem.W.specialIn K (.builtin "object.__class__") "__get__" = some (some (.builtin "getset_descriptor.__get__"))) && decide (PySem.W.takesIn K (.builtin "object.__class__") = some true) && decide (PySem.W.mroIn K p.2 (.type "object") = some true) &&
  decide (PySem.W.findIn K (.ref p.2) "__repr__" = some (some (.builtin "BaseException.__repr__"))) && decide (PySem.W.kitOne K (.ref p.2) (.type "ValueError") = some true)
def xB (K : PySem.W.Frag) (fI D : Addr) (cs : List (Str × Addr)) : Bool := cs.all (clsB K fI D) && cs.all fun a => cs.all fun b => decide (PySem.W.kitOne K (.ref a.2) (.ref b.2) = some (decide (a.1 = b.1) || decide (b.1 = ("CreaseError" : Str))))
theorem xenv_of {P : Program} {K : PySem.W.Frag} {mg : Str → Option Value} {h : Heap} {fI D : Addr} {cs : List (Str × Addr)} {W : Wd} (X : K.In h) (G : h.Ns mainGlobals mg) (F : XDef P K fI D) (hb : xB K fI D cs = true) (hW : W.cl = fun c => cs.lookup c) : XEnv P K mg W := by
  unfold xB at hb
  rw [Bool.and_eq_true] at hb
  obtain ⟨hb1, hb2⟩ := hb
  have one : ∀ c C, W.cl c = some C → (c, C) ∈ cs ∧ clsB K fI D (c, C) = true := fun c C e => by
    rw [hW] at e
    have m := lookup_mem e
    exact ⟨m, List.all_eq_true.mp hb1 _ m⟩
  refine ⟨fun c C e => ?_, fun c C e => ?_, fun k Ck c Cc e1 e2 => ?_, fun k Ck e => ?_⟩
  · obtain ⟨_, q⟩ := one c C e
    unfold clsB at q
    simp only [Bool.and_eq_true, decide_eq_true_eq] at q
    obtain ⟨⟨⟨⟨⟨⟨⟨⟨⟨⟨⟨⟨⟨⟨⟨⟨⟨⟨q1, q2⟩, q3⟩, q4⟩, q5⟩, q6⟩, q7⟩, q8⟩, q9⟩, q10⟩, q11⟩, q12⟩, q13⟩, q14⟩, q15⟩, q16⟩, q17⟩, q18⟩, q19⟩ := q
    refine ⟨?_, q11, q12, q13, (oexB_ok q1).exC, q14, q15, q16, q17, q18, q8⟩
    split at q10
    · rename_i cd hcd
      exact ⟨cd, hcd, of_decide_eq_true q10⟩
    · cases q10
  · obtain ⟨_, q⟩ := one c C e
    unfold clsB at q
    simp only [Bool.and_eq_true, decide_eq_true_eq] at q
    obtain ⟨⟨⟨⟨⟨⟨⟨⟨⟨⟨⟨⟨⟨⟨⟨⟨⟨⟨q1, q2⟩, q3⟩, q4⟩, q5⟩, q6⟩, q7⟩, q8⟩, q9⟩, q10⟩, q11⟩, q12⟩, q13⟩, q14⟩, q15⟩, q16⟩, q17⟩, q18⟩, q19⟩ := q
    exact ⟨PySem.W.mg_of X G q2, (oexB_ok q1).kC, fI, D, F, ⟨oexB_ok q1, q3, q4, q5, q6, q7, q8, q9⟩⟩
  · exact of_decide_eq_true (List.all_eq_true.mp (List.all_eq_true.mp hb2 _ (one k Ck e1).1) _ (one c Cc e2).1)
  · obtain ⟨_, q⟩ := one k Ck e
    unfold clsB at q
    simp only [Bool.and_eq_true, decide_eq_true_eq] at q
    exact q.2
def biB (K : PySem.W.Frag) : Bool := bis.all fun x => decide (PySem.W.nsIn K mainGlobals x = some none)
theorem biB_ok {K : PySem.W.Frag} {mg : Str → Option Value} {h : Heap} (X : K.In h) (G : h.Ns mainGlobals mg) (hb : biB K = true) : ∀ x ∈ bis, mg x = none := fun x hx => PySem.W.mg_none_of X G (of_decide_eq_true (List.all_eq_true.mp hb x hx))
theorem lookup_some {β : Type} : ∀ {l : List (Str × β)} {x : Str}, x ∈ l.map (·.1) → (l.lookup x).isSome = true
  | (a, b) :: l, x, h => by
    rw [List.lookup_cons]
    split
    · rfl
    · rename_i e
      rcases List.mem_cons.mp h with z | z
      · rw [z] at e
        simp at e
      · exact lookup_some z
  | [], _, h => by cases h
end CF

set_option Elab.async false
set_option linter.all false
namespace K61
abbrev Pt := Int × Int
/-- left: true -/
def trn (l : Bool) (d : Pt) : Pt := if l = true then (-d.2, d.1) else (d.2, -d.1)
def add (p d : Pt) : Pt := (p.1 + d.1, p.2 + d.2)
def eds : Pt → Pt → List Bool → List (Pt × Pt)
  | p, d, [] => [(p, d)]
  | p, d, l :: r => (p, d) :: eds (add p d) (trn l d) r
/-- a halving more: new letters by turns between the old ones -/
def rfn : Bool → List Bool → List Bool
  | s, [] => [s]
  | s, o :: r => s :: o :: rfn (!s) r
def cm (s : Bool) (p : Pt) : Pt := if s = true then (p.1 - p.2, p.2 + p.1) else (p.1 + p.2, p.2 - p.1)
def hor (d : Pt) : Bool := d.2 == 0
def dd (s : Bool) (d : Pt) : Pt := if hor d = true then d else trn s d
def tt (s : Bool) (d : Pt) : Bool := if hor d = true then s else !s
def un (d : Pt) : Prop := d = (1, 0) ∨ d = (-1, 0) ∨ d = (0, 1) ∨ d = (0, -1)
def two (s : Bool) (e : Pt × Pt) : List (Pt × Pt) := [(cm s e.1, dd s e.2), (add (cm s e.1) (dd s e.2), trn (tt s e.2) (dd s e.2))]
theorem un_trn {d : Pt} (l : Bool) (h : un d) : un (trn l d) := by
  rcases h with rfl | rfl | rfl | rfl <;> cases l <;> simp [trn, un]
theorem step1 (s : Bool) {p d : Pt} (h : un d) : add (add (cm s p) (dd s d)) (trn (tt s d) (dd s d)) = cm s (add p d) := by
  obtain ⟨x, y⟩ := p
  rcases h with rfl | rfl | rfl | rfl <;> cases s <;> simp [add, cm, dd, tt, trn, hor] <;> omega
theorem step2 (s o : Bool) {d : Pt} (h : un d) : trn o (trn (tt s d) (dd s d)) = dd s (trn o d) ∧ (!(tt s d)) = tt s (trn o d) := by
  rcases h with rfl | rfl | rfl | rfl <;> cases s <;> cases o <;> decide
theorem eds_rfn (s : Bool) : ∀ (w : List Bool) (p d : Pt), un d → eds (cm s p) (dd s d) (rfn (tt s d) w) = (eds p d w).flatMap (two s)
  | [], p, d, h => rfl
  | o :: r, p, d, h => by
    obtain ⟨h1, h2⟩ := step2 s o h
    rw [rfn, eds, eds, step1 s h, h1, h2, eds_rfn s r _ _ (un_trn o h), eds, List.flatMap_cons]
    rfl
/-- horizontal edges begin at even points -/
def ok (e : Pt × Pt) : Prop := un e.2 ∧ (hor e.2 = true ↔ (e.1.1 + e.1.2) % 2 = 0)
theorem ok_next (l : Bool) {p d : Pt} (h : ok (p, d)) : ok (add p d, trn l d) := by
  obtain ⟨h1, h2⟩ := h
  refine ⟨un_trn l h1, ?_⟩
  obtain ⟨x, y⟩ := p
  rcases h1 with h | h | h | h <;> (simp only at h; subst h) <;> cases l <;> simp [add, trn, hor] at h2 ⊢ <;> omega
theorem ok_all : ∀ (w : List Bool) (p d : Pt), ok (p, d) → ∀ e ∈ eds p d w, ok e
  | [], p, d, h, e, he => by
    rw [eds, List.mem_singleton] at he
    rw [he]; exact h
  | l :: r, p, d, h, e, he => by
    rw [eds] at he
    rcases List.mem_cons.mp he with rfl | he
    · exact h
    · exact ok_all r _ _ (ok_next l h) e he
theorem two_apart (s : Bool) {e f g : Pt × Pt} (he : ok e) (hf : ok f) (h1 : g ∈ two s e) (h2 : g ∈ two s f) : e = f := by
  obtain ⟨⟨x, y⟩, d⟩ := e
  obtain ⟨⟨x', y'⟩, d'⟩ := f
  obtain ⟨u1, p1⟩ := he
  obtain ⟨u2, p2⟩ := hf
  simp only [two, List.mem_cons, List.not_mem_nil, or_false] at h1 h2
  rcases u1 with h | h | h | h <;> (simp only at h; subst h) <;> rcases u2 with h | h | h | h <;> (simp only at h; subst h) <;> cases s <;>
    simp [cm, dd, add, trn, tt, hor] at h1 h2 p1 p2 ⊢ <;> rcases h1 with rfl | rfl <;> simp at h2 <;> omega
theorem two_nodup (s : Bool) {e : Pt × Pt} (he : ok e) : (two s e).Nodup := by
  obtain ⟨⟨x, y⟩, d⟩ := e
  obtain ⟨u1, _⟩ := he
  rcases u1 with h | h | h | h <;> (simp only at h; subst h) <;> cases s <;> simp [two, cm, dd, add, trn, tt, hor]
theorem flat_nodup (s : Bool) : ∀ {l : List (Pt × Pt)}, (∀ e ∈ l, ok e) → l.Nodup → (l.flatMap (two s)).Nodup
  | [], _, _ => List.nodup_nil
  | e :: l, h, n => by
    rw [List.flatMap_cons, List.nodup_append]
    obtain ⟨n1, n2⟩ := List.nodup_cons.mp n
    refine ⟨two_nodup s (h e List.mem_cons_self), flat_nodup s (fun x hx => h x (List.mem_cons_of_mem _ hx)) n2, fun a ha b hb hab => ?_⟩
    subst hab
    obtain ⟨f, hf, hb⟩ := List.mem_flatMap.mp hb
    exact n1 ((two_apart s (h e List.mem_cons_self) (h f (List.mem_cons_of_mem _ hf)) ha hb) ▸ hf)
/-- the word of halvings, and its path -/
def hw (ts : List Bool) : List Bool := ts.foldl (fun w t => rfn t w) []
def e0 (w : List Bool) : List (Pt × Pt) := eds (0, 0) (1, 0) w
theorem ok0 : ok ((0, 0), (1, 0)) := by simp [ok, un, hor]
theorem e0_rfn (s : Bool) (w : List Bool) : e0 (rfn s w) = (e0 w).flatMap (two s) := by
  have h := eds_rfn s w (0, 0) (1, 0) (.inl rfl)
  have e1 : cm s (0, 0) = (0, 0) := by cases s <;> rfl
  rw [e1] at h
  exact h
theorem nodup_fold : ∀ (ts w : List Bool), (e0 w).Nodup → (e0 (ts.foldl (fun w t => rfn t w) w)).Nodup
  | [], _, h => h
  | t :: ts, w, h => nodup_fold ts (rfn t w) (by rw [e0_rfn]; exact flat_nodup t (ok_all w _ _ ok0) h)
theorem nodup_hw (ts : List Bool) : (e0 (hw ts)).Nodup := nodup_fold ts [] (by simp [e0, eds])
/-- where an edge leads -/
def to (e : Pt × Pt) : Pt := add e.1 e.2
def last (l : List (Pt × Pt)) : Pt := match l.getLast? with | some e => to e | none => (0, 0)
theorem last_cons {e : Pt × Pt} {l : List (Pt × Pt)} (h : l ≠ []) : last (e :: l) = last l := by
  unfold last
  cases l with
  | nil => exact absurd rfl h
  | cons a r => rw [List.getLast?_cons_cons]
theorem eds_ne (p d : Pt) (w : List Bool) : eds p d w ≠ [] := by cases w <;> simp [eds]
theorem last_flat (s : Bool) : ∀ (l : List (Pt × Pt)), l ≠ [] → (∀ e ∈ l, ok e) → last (l.flatMap (two s)) = cm s (last l)
  | [], h, _ => absurd rfl h
  | [e], _, hk => by
    have u := (hk e List.mem_cons_self).1
    simp only [List.flatMap_cons, List.flatMap_nil, List.append_nil, two, last, List.getLast?_cons_cons, List.getLast?_singleton, to]
    exact step1 s u
  | e :: f :: r, _, hk => by
    have h := last_flat s (f :: r) (by simp) (fun x hx => hk x (List.mem_cons_of_mem _ hx))
    have n : (f :: r).flatMap (two s) ≠ [] := by simp [List.flatMap_cons, two]
    rw [List.flatMap_cons, last_cons (by simp), ← h]
    show last ((cm s e.1, dd s e.2) :: (add (cm s e.1) (dd s e.2), trn (tt s e.2) (dd s e.2)) :: (f :: r).flatMap (two s)) = _
    rw [last_cons (by simp), last_cons n]
def prod (ts : List Bool) (p : Pt) : Pt := ts.foldl (fun p t => cm t p) p
theorem last_fold : ∀ (ts w : List Bool), last (e0 (ts.foldl (fun w t => rfn t w) w)) = prod ts (last (e0 w))
  | [], _ => rfl
  | t :: ts, w => by
    have h := last_fold ts (rfn t w)
    have g := last_flat t (e0 w) (eds_ne _ _ _) (ok_all w _ _ ok0)
    rw [e0_rfn, g] at h
    exact h
theorem last_hw (ts : List Bool) : last (e0 (hw ts)) = prod ts (1, 0) := last_fold ts []
/-- the points of a path -/
def pts (l : List (Pt × Pt)) : List Pt := (0, 0) :: l.map to
/-- a piece between two points, told alike from both -/
def lex (a b : Pt) : Bool := decide (a.1 < b.1) || (decide (a.1 = b.1) && decide (a.2 < b.2))
def sd (a b : Pt) : Pt × Pt := if lex b a = true then (b, a) else (a, b)
def side (e : Pt × Pt) : Pt × Pt := sd e.1 (to e)
theorem side_inj {e f : Pt × Pt} (he : ok e) (hf : ok f) (h : side e = side f) : e = f := by
  obtain ⟨⟨x, y⟩, d⟩ := e
  obtain ⟨⟨x', y'⟩, d'⟩ := f
  obtain ⟨u1, p1⟩ := he
  obtain ⟨u2, p2⟩ := hf
  rcases u1 with k | k | k | k <;> (simp only at k; subst k) <;> rcases u2 with k | k | k | k <;> (simp only at k; subst k) <;>
    simp [side, sd, to, add, lex, hor] at h p1 p2 ⊢ <;> (repeat' split at h) <;> simp at h ⊢ <;> omega
theorem nodup_map_on {α β : Type} {f : α → β} {p : α → Prop} (hf : ∀ a b, p a → p b → f a = f b → a = b) : ∀ {l : List α}, (∀ a ∈ l, p a) → l.Nodup → (l.map f).Nodup
  | [], _, _ => List.nodup_nil
  | a :: l, h, n => by
    obtain ⟨n1, n2⟩ := List.nodup_cons.mp n
    rw [List.map_cons]
    refine List.nodup_cons.mpr ⟨fun hm => ?_, nodup_map_on hf (fun x hx => h x (List.mem_cons_of_mem _ hx)) n2⟩
    obtain ⟨b, hb, e⟩ := List.mem_map.mp hm
    exact n1 (hf b a (h b (List.mem_cons_of_mem _ hb)) (h a List.mem_cons_self) e ▸ hb)
/-- the sides of a word's path -/
def sds (w : List Bool) : List (Pt × Pt) := (e0 w).map side
theorem sds_hw (ts : List Bool) : (sds (hw ts)).Nodup := nodup_map_on (fun _ _ h1 h2 => side_inj h1 h2) (ok_all _ _ _ ok0) (nodup_hw ts)
end K61

set_option Elab.async false
set_option linter.all false
set_option maxRecDepth 100000
namespace CF
open PySem L2
def top (i : Nat) : PySem.Stmt := PySem.Challenge.pw_creasedflat_k61_whole_paths_of_words.main.body.getD i (.Pass ⟨0, 0, 0, 0⟩)
/-! is_int -/
abbrev s_is_int : PySem.Stmt := top 5
def b_is_int : Sms := (.cons (.ret (.and (.pr (.isi .int) (.cons (.e (.var 0)) .nil)) (.and (.not (.pr (.isi .bool) (.cons (.e (.var 0)) .nil))) (.chain .LtE .LtE (.e (.var 1)) (.e (.var 0)) (.e (.var 2)))))) .nil)
def c_is_int : CI := { N := ["value", "low", "high"], sc := defScope s_is_int, st := (defScope s_is_int).names, fn := [], gl := [], xs := [], fr := false }
theorem k_is_int : chkSs c_is_int b_is_int (defBody s_is_int) = true := by decide +kernel
theorem n_is_int : FnScope c_is_int.N ["value", "low", "high"] (defScope s_is_int) := ⟨rfl, rfl, rfl, by decide +kernel, rfl, by decide +kernel, by decide +kernel⟩
def r_is_int : Run := runFn (tab []) 0 3 [false, false, false] b_is_int
/-! is_told -/
abbrev s_is_told : PySem.Stmt := top 6
def b_is_told : Sms := (.cons (.ret (.and (.pr (.isi .tuple) (.cons (.e (.var 0)) .nil)) (.and (.pr (.cmp .In) (.cons (.e (.pr .len (.cons (.e (.var 0)) .nil))) (.cons (.e (.var 1)) .nil))) (.pr (.isi .str) (.cons (.e (.pr .ix (.cons (.e (.var 0)) (.cons (.e (.cst (.int 0))) .nil)))) .nil))))) .nil)
def c_is_told : CI := { N := ["value", "sizes"], sc := defScope s_is_told, st := (defScope s_is_told).names, fn := [], gl := [], xs := [], fr := false }
theorem k_is_told : chkSs c_is_told b_is_told (defBody s_is_told) = true := by decide +kernel
theorem n_is_told : FnScope c_is_told.N ["value", "sizes"] (defScope s_is_told) := ⟨rfl, rfl, rfl, by decide +kernel, rfl, by decide +kernel, by decide +kernel⟩
def r_is_told : Run := runFn (tab []) 0 2 [false, false] b_is_told
/-! is_word -/
abbrev s_is_word : PySem.Stmt := top 10
def b_is_word : Sms := (.cons (.ret (.and (.pr (.isi .str) (.cons (.e (.var 0)) .nil)) (.and (.pr (.cmp .Eq) (.cons (.e (.pr .len (.cons (.e (.var 0)) .nil))) (.cons (.e (.var 1)) .nil))) (.pr .all (.cons (.e (.comp (.pr (.cmp .In) (.cons (.e (.var 2)) (.cons (.e (.pr .tup (.cons (.e (.glb "MOUNTAIN" (.str "m"))) (.cons (.e (.glb "VALLEY" (.str "v"))) .nil)))) .nil))) (.n 2) (.seq (.e (.var 0))) [] [2])) .nil))))) .nil)
def c_is_word : CI := { N := ["value", "many", "letter"], sc := defScope s_is_word, st := (defScope s_is_word).names, fn := [], gl := [("MOUNTAIN", (.str "m")), ("VALLEY", (.str "v"))], xs := [], fr := false }
theorem k_is_word : chkSs c_is_word b_is_word (defBody s_is_word) = true := by decide +kernel
theorem n_is_word : FnScope c_is_word.N ["value", "many"] (defScope s_is_word) := ⟨rfl, rfl, rfl, by decide +kernel, rfl, by decide +kernel, by decide +kernel⟩
def r_is_word : Run := runFn (tab []) 0 3 [false, false] b_is_word
/-! other_letter -/
abbrev s_other_letter : PySem.Stmt := top 11
def b_other_letter : Sms := (.cons (.ret (.ite (.pr (.cmp .Eq) (.cons (.e (.var 0)) (.cons (.e (.glb "MOUNTAIN" (.str "m"))) .nil))) (.glb "VALLEY" (.str "v")) (.glb "MOUNTAIN" (.str "m")))) .nil)
def c_other_letter : CI := { N := ["letter"], sc := defScope s_other_letter, st := (defScope s_other_letter).names, fn := [], gl := [("MOUNTAIN", (.str "m")), ("VALLEY", (.str "v"))], xs := [], fr := false }
theorem k_other_letter : chkSs c_other_letter b_other_letter (defBody s_other_letter) = true := by decide +kernel
theorem n_other_letter : FnScope c_other_letter.N ["letter"] (defScope s_other_letter) := ⟨rfl, rfl, rfl, by decide +kernel, rfl, by decide +kernel, by decide +kernel⟩
def r_other_letter : Run := runFn (tab []) 0 1 [false] b_other_letter
/-! look_at_turns -/
abbrev s_look_at_turns : PySem.Stmt := top 20
def b_look_at_turns : Sms := (.cons (.ite (.or (.not (.pr (.isi .str) (.cons (.e (.var 0)) .nil))) (.or (.pr (.cmp .Gt) (.cons (.e (.pr .len (.cons (.e (.var 0)) .nil))) (.cons (.e (.glb "MOST_TURNS" (.int 10))) .nil))) (.not (.pr .all (.cons (.e (.comp (.pr (.cmp .In) (.cons (.e (.var 1)) (.cons (.e (.pr .tup (.cons (.e (.glb "OVER" (.str "o"))) (.cons (.e (.glb "UNDER" (.str "u"))) .nil)))) .nil))) (.n 1) (.seq (.e (.var 0))) [] [1])) .nil))))) (.cons (.never) .nil) .nil) .nil)
def c_look_at_turns : CI := { N := ["turns", "turn"], sc := defScope s_look_at_turns, st := (defScope s_look_at_turns).names, fn := [], gl := [("OVER", (.str "o")), ("UNDER", (.str "u")), ("MOST_TURNS", (.int 10))], xs := [], fr := false }
theorem k_look_at_turns : chkSs c_look_at_turns b_look_at_turns (defBody s_look_at_turns) = true := by decide +kernel
theorem n_look_at_turns : FnScope c_look_at_turns.N ["turns"] (defScope s_look_at_turns) := ⟨rfl, rfl, rfl, by decide +kernel, rfl, by decide +kernel, by decide +kernel⟩
def r_look_at_turns : Run := runFn (tab []) 0 2 [false] b_look_at_turns
/-! look_at_long_word -/
abbrev s_look_at_long_word : PySem.Stmt := top 21
def b_look_at_long_word : Sms := (.cons (.ite (.or (.not (.pr (.isi .str) (.cons (.e (.var 0)) .nil))) (.or (.not (.call 0 (.cons (.e (.var 0)) (.cons (.e (.pr .len (.cons (.e (.var 0)) .nil))) .nil)))) (.pr (.cmp .Gt) (.cons (.e (.pr .len (.cons (.e (.var 0)) .nil))) (.cons (.e (.glb "MOST_LETTERS" (.int 1023))) .nil))))) (.cons (.never) .nil) .nil) .nil)
def c_look_at_long_word : CI := { N := ["word"], sc := defScope s_look_at_long_word, st := (defScope s_look_at_long_word).names, fn := [("is_word", [false, false], false, [])], gl := [("MOST_LETTERS", (.int 1023))], xs := [], fr := false }
theorem k_look_at_long_word : chkSs c_look_at_long_word b_look_at_long_word (defBody s_look_at_long_word) = true := by decide +kernel
theorem n_look_at_long_word : FnScope c_look_at_long_word.N ["word"] (defScope s_look_at_long_word) := ⟨rfl, rfl, rfl, by decide +kernel, rfl, by decide +kernel, by decide +kernel⟩
def r_look_at_long_word : Run := runFn (tab [r_is_word]) 0 1 [false] b_look_at_long_word
/-! letter_of -/
abbrev s_letter_of : PySem.Stmt := top 22
def b_letter_of : Sms := (.cons (.ret (.ite (.pr (.cmp .Eq) (.cons (.e (.var 0)) (.cons (.e (.glb "OVER" (.str "o"))) .nil))) (.glb "VALLEY" (.str "v")) (.glb "MOUNTAIN" (.str "m")))) .nil)
def c_letter_of : CI := { N := ["turn"], sc := defScope s_letter_of, st := (defScope s_letter_of).names, fn := [], gl := [("OVER", (.str "o")), ("VALLEY", (.str "v")), ("MOUNTAIN", (.str "m"))], xs := [], fr := false }
theorem k_letter_of : chkSs c_letter_of b_letter_of (defBody s_letter_of) = true := by decide +kernel
theorem n_letter_of : FnScope c_letter_of.N ["turn"] (defScope s_letter_of) := ⟨rfl, rfl, rfl, by decide +kernel, rfl, by decide +kernel, by decide +kernel⟩
def r_letter_of : Run := runFn (tab []) 0 1 [false] b_letter_of
/-! told_halved -/
abbrev s_told_halved : PySem.Stmt := top 23
def b_told_halved : Sms := (.cons (.set (.n 1) (.cst (.str ""))) (.cons (.for_ (.n 2) (.seq (.e (.var 0))) (.cons (.par [(4, false), (5, false)] [(.cst (.str "")), (.call 1 (.cons (.e (.var 2)) .nil))]) (.cons (.for_ (.n 3) (.seq (.e (.pr (.lstS [true, false]) (.cons (.e (.var 1)) (.cons (.e (.cst (.str ""))) .nil))))) (.cons (.aug 4 .Add (.pr (.bin .Add) (.cons (.e (.var 5)) (.cons (.e (.var 3)) .nil)))) (.cons (.set (.n 5) (.call 0 (.cons (.e (.var 5)) .nil))) .nil))) (.cons (.set (.n 1) (.var 4)) .nil)))) (.cons (.ret (.var 1)) .nil)))
def c_told_halved : CI := { N := ["turns", "word", "turn", "old", "made", "letter"], sc := defScope s_told_halved, st := (defScope s_told_halved).names, fn := [("other_letter", [false], false, []), ("letter_of", [false], false, [])], gl := [], xs := [], fr := false }
theorem k_told_halved : chkSs c_told_halved b_told_halved (defBody s_told_halved) = true := by decide +kernel
theorem n_told_halved : FnScope c_told_halved.N ["turns"] (defScope s_told_halved) := ⟨rfl, rfl, rfl, by decide +kernel, rfl, by decide +kernel, by decide +kernel⟩
def r_told_halved : Run := runFn (tab [r_other_letter, r_letter_of]) 0 6 [false] b_told_halved
/-! halved_word -/
abbrev s_halved_word : PySem.Stmt := top 24
def b_halved_word : Sms := (.cons (.ex (.call 1 (.cons (.e (.var 0)) .nil))) (.cons (.ret (.call 0 (.cons (.e (.var 0)) .nil))) .nil))
def c_halved_word : CI := { N := ["turns"], sc := defScope s_halved_word, st := (defScope s_halved_word).names, fn := [("told_halved", [false], false, []), ("look_at_turns", [false], false, [])], gl := [], xs := [], fr := false }
theorem k_halved_word : chkSs c_halved_word b_halved_word (defBody s_halved_word) = true := by decide +kernel
theorem n_halved_word : FnScope c_halved_word.N ["turns"] (defScope s_halved_word) := ⟨rfl, rfl, rfl, by decide +kernel, rfl, by decide +kernel, by decide +kernel⟩
def r_halved_word : Run := runFn (tab [r_told_halved, r_look_at_turns]) 0 1 [false] b_halved_word
/-! told_path -/
abbrev s_told_path : PySem.Stmt := top 25
def b_told_path : Sms := (.cons (.par [(2, true), (3, false)] [(.pr .lst (.cons (.e (.pr .tup (.cons (.e (.cst (.int 0))) (.cons (.e (.cst (.int 0))) .nil)))) (.cons (.e (.pr .tup (.cons (.e (.cst (.int 1))) (.cons (.e (.cst (.int 0))) .nil)))) .nil))), (.pr .tup (.cons (.e (.cst (.int 1))) (.cons (.e (.cst (.int 0))) .nil)))]) (.cons (.for_ (.n 1) (.seq (.e (.var 0))) (.cons (.set (.n 3) (.ite (.pr (.cmp .Eq) (.cons (.e (.var 1)) (.cons (.e (.glb "VALLEY" (.str "v"))) .nil))) (.pr .tup (.cons (.e (.pr .neg (.cons (.e (.pr .ix (.cons (.e (.var 3)) (.cons (.e (.cst (.int 1))) .nil)))) .nil))) (.cons (.e (.pr .ix (.cons (.e (.var 3)) (.cons (.e (.cst (.int 0))) .nil)))) .nil))) (.pr .tup (.cons (.e (.pr .ix (.cons (.e (.var 3)) (.cons (.e (.cst (.int 1))) .nil)))) (.cons (.e (.pr .neg (.cons (.e (.pr .ix (.cons (.e (.var 3)) (.cons (.e (.cst (.int 0))) .nil)))) .nil))) .nil))))) (.cons (.app 2 (.pr .tup (.cons (.e (.pr (.bin .Add) (.cons (.e (.pr .ix (.cons (.e (.pr .ix (.cons (.o 2) (.cons (.e (.pr .neg (.cons (.e (.cst (.int 1))) .nil))) .nil)))) (.cons (.e (.cst (.int 0))) .nil)))) (.cons (.e (.pr .ix (.cons (.e (.var 3)) (.cons (.e (.cst (.int 0))) .nil)))) .nil)))) (.cons (.e (.pr (.bin .Add) (.cons (.e (.pr .ix (.cons (.e (.pr .ix (.cons (.o 2) (.cons (.e (.pr .neg (.cons (.e (.cst (.int 1))) .nil))) .nil)))) (.cons (.e (.cst (.int 1))) .nil)))) (.cons (.e (.pr .ix (.cons (.e (.var 3)) (.cons (.e (.cst (.int 1))) .nil)))) .nil)))) .nil)))) .nil))) (.cons (.ret (.var 2)) .nil)))
def c_told_path : CI := { N := ["word", "letter", "points", "ahead"], sc := defScope s_told_path, st := (defScope s_told_path).names, fn := [], gl := [("VALLEY", (.str "v"))], xs := [], fr := false }
theorem k_told_path : chkSs c_told_path b_told_path (defBody s_told_path) = true := by decide +kernel
theorem n_told_path : FnScope c_told_path.N ["word"] (defScope s_told_path) := ⟨rfl, rfl, rfl, by decide +kernel, rfl, by decide +kernel, by decide +kernel⟩
def r_told_path : Run := runFn (tab []) 0 4 [false] b_told_path
/-! path_of -/
abbrev s_path_of : PySem.Stmt := top 26
def b_path_of : Sms := (.cons (.ex (.call 1 (.cons (.e (.var 0)) .nil))) (.cons (.ret (.pr .tuple (.cons (.e (.call 0 (.cons (.e (.var 0)) .nil))) .nil))) .nil))
def c_path_of : CI := { N := ["word"], sc := defScope s_path_of, st := (defScope s_path_of).names, fn := [("told_path", [false], false, []), ("look_at_long_word", [false], false, [])], gl := [], xs := [], fr := false }
theorem k_path_of : chkSs c_path_of b_path_of (defBody s_path_of) = true := by decide +kernel
theorem n_path_of : FnScope c_path_of.N ["word"] (defScope s_path_of) := ⟨rfl, rfl, rfl, by decide +kernel, rfl, by decide +kernel, by decide +kernel⟩
def r_path_of : Run := runFn (tab [r_told_path, r_look_at_long_word]) 0 1 [false] b_path_of
/-! end_of -/
abbrev s_end_of : PySem.Stmt := top 27
def b_end_of : Sms := (.cons (.ex (.call 0 (.cons (.e (.var 0)) .nil))) (.cons (.set (.two (.n 2) (.n 3)) (.pr .tup (.cons (.e (.cst (.int 1))) (.cons (.e (.cst (.int 0))) .nil)))) (.cons (.for_ (.n 1) (.seq (.e (.var 0))) (.cons (.set (.two (.n 2) (.n 3)) (.ite (.pr (.cmp .Eq) (.cons (.e (.var 1)) (.cons (.e (.glb "OVER" (.str "o"))) .nil))) (.pr .tup (.cons (.e (.pr (.bin .Sub) (.cons (.e (.var 2)) (.cons (.e (.var 3)) .nil)))) (.cons (.e (.pr (.bin .Add) (.cons (.e (.var 2)) (.cons (.e (.var 3)) .nil)))) .nil))) (.pr .tup (.cons (.e (.pr (.bin .Add) (.cons (.e (.var 2)) (.cons (.e (.var 3)) .nil)))) (.cons (.e (.pr (.bin .Sub) (.cons (.e (.var 3)) (.cons (.e (.var 2)) .nil)))) .nil))))) .nil)) (.cons (.ret (.pr .tup (.cons (.e (.var 2)) (.cons (.e (.var 3)) .nil)))) .nil))))
def c_end_of : CI := { N := ["turns", "turn", "x", "y"], sc := defScope s_end_of, st := (defScope s_end_of).names, fn := [("look_at_turns", [false], false, [])], gl := [("OVER", (.str "o"))], xs := [], fr := false }
theorem k_end_of : chkSs c_end_of b_end_of (defBody s_end_of) = true := by decide +kernel
theorem n_end_of : FnScope c_end_of.N ["turns"] (defScope s_end_of) := ⟨rfl, rfl, rfl, by decide +kernel, rfl, by decide +kernel, by decide +kernel⟩
def r_end_of : Run := runFn (tab [r_look_at_turns]) 0 4 [false] b_end_of
/-! first_twice -/
abbrev s_first_twice : PySem.Stmt := top 28
def b_first_twice : Sms := (.cons (.dnew 1) (.cons (.for_ (.two (.n 2) (.two (.n 4) (.n 5))) (.ez (.e (.var 0)) (.e (.pr (.sl true false) (.cons (.e (.var 0)) (.cons (.e (.cst (.int 1))) .nil))))) (.cons (.set (.n 3) (.pr .tup (.cons (.e (.pr .min2 (.cons (.e (.var 4)) (.cons (.e (.var 5)) .nil)))) (.cons (.e (.pr .max2 (.cons (.e (.var 4)) (.cons (.e (.var 5)) .nil)))) .nil)))) (.cons (.ite (.din false 1 (.var 3)) (.cons (.ret (.pr .tup (.cons (.e (.dget 1 (.var 3))) (.cons (.e (.var 2)) .nil)))) .nil) .nil) (.cons (.dput 1 (.var 3) (.var 2)) .nil)))) (.cons (.ret (.cst .none)) .nil)))
def c_first_twice : CI := { N := ["points", "seen", "at", "side", "one", "other"], sc := defScope s_first_twice, st := (defScope s_first_twice).names, fn := [], gl := [], xs := [], fr := false }
theorem k_first_twice : chkSs c_first_twice b_first_twice (defBody s_first_twice) = true := by decide +kernel
theorem n_first_twice : FnScope c_first_twice.N ["points"] (defScope s_first_twice) := ⟨rfl, rfl, rfl, by decide +kernel, rfl, by decide +kernel, by decide +kernel⟩
def r_first_twice : Run := runFn (tab []) 0 6 [false] b_first_twice
/-! gone_once -/
abbrev s_gone_once : PySem.Stmt := top 29
def b_gone_once : Sms := (.cons (.ex (.call 2 (.cons (.e (.var 0)) .nil))) (.cons (.set (.n 1) (.call 0 (.cons (.e (.call 1 (.cons (.e (.var 0)) .nil))) .nil))) (.cons (.ret (.ite (.pr (.isN false) (.cons (.e (.var 1)) .nil)) (.pr .tup (.cons (.e (.glb "ONCE" (.str "once"))) .nil)) (.pr (.tupS [false, true]) (.cons (.e (.glb "TWICE" (.str "twice"))) (.cons (.e (.var 1)) .nil))))) .nil)))
def c_gone_once : CI := { N := ["word", "pair"], sc := defScope s_gone_once, st := (defScope s_gone_once).names, fn := [("first_twice", [false], false, []), ("told_path", [false], false, []), ("look_at_long_word", [false], false, [])], gl := [("ONCE", (.str "once")), ("TWICE", (.str "twice"))], xs := [], fr := false }
theorem k_gone_once : chkSs c_gone_once b_gone_once (defBody s_gone_once) = true := by decide +kernel
theorem n_gone_once : FnScope c_gone_once.N ["word"] (defScope s_gone_once) := ⟨rfl, rfl, rfl, by decide +kernel, rfl, by decide +kernel, by decide +kernel⟩
def r_gone_once : Run := runFn (tab [r_first_twice, r_told_path, r_look_at_long_word]) 0 2 [false] b_gone_once
/-! shows_gone_once -/
abbrev s_shows_gone_once : PySem.Stmt := top 30
def b_shows_gone_once : Sms := (.cons (.ex (.call 4 (.cons (.e (.var 0)) .nil))) (.cons (.ite (.not (.call 3 (.cons (.e (.var 1)) (.cons (.e (.pr .tup (.cons (.e (.cst (.int 1))) (.cons (.e (.glb "THREE" (.int 3))) .nil)))) .nil)))) (.cons (.ret (.cst (.bool false))) .nil) .nil) (.cons (.set (.n 2) (.call 2 (.cons (.e (.var 0)) .nil))) (.cons (.ite (.pr (.cmp .Eq) (.cons (.e (.pr .len (.cons (.e (.var 1)) .nil))) (.cons (.e (.cst (.int 1))) .nil))) (.cons (.ret (.and (.pr (.cmp .Eq) (.cons (.e (.pr .ix (.cons (.e (.var 1)) (.cons (.e (.cst (.int 0))) .nil)))) (.cons (.e (.glb "ONCE" (.str "once"))) .nil))) (.pr (.isN false) (.cons (.e (.call 1 (.cons (.e (.var 2)) .nil))) .nil)))) .nil) .nil) (.cons (.ite (.or (.pr (.cmp .NotEq) (.cons (.e (.pr .ix (.cons (.e (.var 1)) (.cons (.e (.cst (.int 0))) .nil)))) (.cons (.e (.glb "TWICE" (.str "twice"))) .nil))) (.or (.not (.pr .all (.cons (.e (.comp (.call 0 (.cons (.e (.var 3)) (.cons (.e (.cst (.int 0))) (.cons (.e (.pr .len (.cons (.e (.var 0)) .nil))) .nil)))) (.n 3) (.seq (.e (.pr (.sl true false) (.cons (.e (.var 1)) (.cons (.e (.cst (.int 1))) .nil))))) [] [3])) .nil))) (.pr (.cmp .GtE) (.cons (.e (.pr .ix (.cons (.e (.var 1)) (.cons (.e (.cst (.int 1))) .nil)))) (.cons (.e (.pr .ix (.cons (.e (.var 1)) (.cons (.e (.cst (.int 2))) .nil)))) .nil))))) (.cons (.ret (.cst (.bool false))) .nil) .nil) (.cons (.ret (.pr (.cmp .Eq) (.cons (.e (.pr .sorted (.cons (.e (.pr (.sl true true) (.cons (.e (.var 2)) (.cons (.e (.pr .ix (.cons (.e (.var 1)) (.cons (.e (.cst (.int 1))) .nil)))) (.cons (.e (.pr (.bin .Add) (.cons (.e (.pr .ix (.cons (.e (.var 1)) (.cons (.e (.cst (.int 1))) .nil)))) (.cons (.e (.cst (.int 2))) .nil)))) .nil))))) .nil))) (.cons (.e (.pr .sorted (.cons (.e (.pr (.sl true true) (.cons (.e (.var 2)) (.cons (.e (.pr .ix (.cons (.e (.var 1)) (.cons (.e (.cst (.int 2))) .nil)))) (.cons (.e (.pr (.bin .Add) (.cons (.e (.pr .ix (.cons (.e (.var 1)) (.cons (.e (.cst (.int 2))) .nil)))) (.cons (.e (.cst (.int 2))) .nil)))) .nil))))) .nil))) .nil)))) .nil))))))
def c_shows_gone_once : CI := { N := ["word", "value", "points", "one"], sc := defScope s_shows_gone_once, st := (defScope s_shows_gone_once).names, fn := [("is_int", [false, false, false], false, []), ("first_twice", [false], false, []), ("told_path", [false], false, []), ("is_told", [false, false], false, []), ("look_at_long_word", [false], false, [])], gl := [("TWICE", (.str "twice")), ("ONCE", (.str "once")), ("THREE", (.int 3))], xs := [], fr := false }
theorem k_shows_gone_once : chkSs c_shows_gone_once b_shows_gone_once (defBody s_shows_gone_once) = true := by decide +kernel
theorem n_shows_gone_once : FnScope c_shows_gone_once.N ["word", "value"] (defScope s_shows_gone_once) := ⟨rfl, rfl, rfl, by decide +kernel, rfl, by decide +kernel, by decide +kernel⟩
def r_shows_gone_once : Run := runFn (tab [r_is_int, r_first_twice, r_told_path, r_is_told, r_look_at_long_word]) 0 4 [false, false] b_shows_gone_once
/-! _law_pot -/
abbrev s__law_pot : PySem.Stmt := top 32
def b__law_pot : Sms := (.cons (.set (.n 2) (.ite (.pr (.cmp .Lt) (.cons (.e (.var 1)) (.cons (.e (.pr .len (.cons (.e (.var 0)) .nil))) .nil))) (.pr .ix (.cons (.e (.var 0)) (.cons (.e (.var 1)) .nil))) (.pr (.bin .Add) (.cons (.e (.pr (.bin .Add) (.cons (.e (.pr (.bin .Mod) (.cons (.e (.pr .int (.cons (.e (.pr .sum (.cons (.e (.pr (.sl false true) (.cons (.e (.var 0)) (.cons (.e (.cst (.int 1))) .nil)))) .nil))) .nil))) (.cons (.e (.cst (.int 1000199))) .nil)))) (.cons (.e (.pr (.bin .Mult) (.cons (.e (.cst (.int 5987))) (.cons (.e (.var 1)) .nil)))) .nil)))) (.cons (.e (.cst (.int 3433))) .nil))))) (.cons (.set (.n 3) (.pr (.bin .Mult) (.cons (.e (.pr (.bin .Mod) (.cons (.e (.pr .int (.cons (.e (.pr .abs (.cons (.e (.var 2)) .nil))) .nil))) (.cons (.e (.pr (.bin .Pow) (.cons (.e (.pr (.bin .Pow) (.cons (.e (.cst (.int 10))) (.cons (.e (.cst (.int 60))) .nil)))) (.cons (.e (.cst (.int 5))) .nil)))) .nil)))) (.cons (.e (.pr .int (.cons (.e (.pr (.cmp .GtE) (.cons (.e (.pr .abs (.cons (.e (.var 2)) .nil))) (.cons (.e (.pr (.bin .Pow) (.cons (.e (.cst (.int 10))) (.cons (.e (.cst (.int 18))) .nil)))) .nil)))) .nil))) .nil)))) (.cons (.set (.n 4) (.pr (.bin .Mod) (.cons (.e (.pr .int (.cons (.e (.var 2)) .nil))) (.cons (.e (.cst (.int 2305843009213693951))) .nil)))) (.cons (.ret (.pr .lst (.cons (.e (.var 3)) (.cons (.e (.pr (.bin .Mod) (.cons (.e (.pr .int (.cons (.e (.pr (.bin .Add) (.cons (.e (.pr (.bin .Add) (.cons (.e (.pr (.bin .Mult) (.cons (.e (.var 4)) (.cons (.e (.cst (.int 88001))) .nil)))) (.cons (.e (.pr (.bin .Mult) (.cons (.e (.pr (.bin .Mult) (.cons (.e (.cst (.int 11863))) (.cons (.e (.var 1)) .nil)))) (.cons (.e (.var 1)) .nil)))) .nil)))) (.cons (.e (.cst (.int 2969))) .nil)))) .nil))) (.cons (.e (.cst (.int 2305843009213693921))) .nil)))) (.cons (.e (.cst (.int 0))) .nil))))) .nil))))
def c__law_pot : CI := { N := ["script", "place", "cell", "own", "small"], sc := defScope s__law_pot, st := (defScope s__law_pot).names, fn := [], gl := [], xs := [], fr := true }
theorem k__law_pot : chkSs c__law_pot b__law_pot (defBody s__law_pot) = true := by decide +kernel
theorem n__law_pot : FnScope c__law_pot.N ["script", "place"] (defScope s__law_pot) := ⟨rfl, rfl, rfl, by decide +kernel, rfl, by decide +kernel, by decide +kernel⟩
def r__law_pot : Run := runFn (tab []) 0 5 [false, false] b__law_pot
/-! _law_take -/
abbrev s__law_take : PySem.Stmt := top 33
def b__law_take : Sms := (.cons (.ite (.pr (.cmp .Gt) (.cons (.e (.pr .ix (.cons (.o 0) (.cons (.e (.cst (.int 0))) .nil)))) (.cons (.e (.cst (.int 0))) .nil))) (.cons (.set (.n 4) (.pr (.bin .Mod) (.cons (.e (.pr .int (.cons (.e (.pr .ix (.cons (.o 0) (.cons (.e (.cst (.int 0))) .nil)))) .nil))) (.cons (.e (.var 1)) .nil)))) (.cons (.put 0 (.cst (.int 0)) (.pr (.bin .FloorDiv) (.cons (.e (.pr .ix (.cons (.o 0) (.cons (.e (.cst (.int 0))) .nil)))) (.cons (.e (.var 1)) .nil)))) (.cons (.ret (.var 4)) .nil))) .nil) (.cons (.put 0 (.cst (.int 2)) (.pr (.bin .Add) (.cons (.e (.pr .ix (.cons (.o 0) (.cons (.e (.cst (.int 2))) .nil)))) (.cons (.e (.cst (.int 1))) .nil)))) (.cons (.set (.n 2) (.pr .ix (.cons (.e (.pr .lst (.cons (.e (.cst (.int 2147483647))) (.cons (.e (.cst (.int 2147483629))) (.cons (.e (.cst (.int 2147483587))) (.cons (.e (.cst (.int 2147483579))) (.cons (.e (.cst (.int 2147483563))) .nil))))))) (.cons (.e (.pr (.bin .Mod) (.cons (.e (.pr .int (.cons (.e (.pr .ix (.cons (.o 0) (.cons (.e (.cst (.int 2))) .nil)))) .nil))) (.cons (.e (.cst (.int 5))) .nil)))) .nil)))) (.cons (.set (.n 3) (.pr (.bin .Mod) (.cons (.e (.pr .int (.cons (.e (.pr (.bin .Pow) (.cons (.e (.pr .int (.cons (.e (.pr (.bin .Add) (.cons (.e (.pr (.bin .Add) (.cons (.e (.pr .ix (.cons (.o 0) (.cons (.e (.cst (.int 1))) .nil)))) (.cons (.e (.pr (.bin .Mult) (.cons (.e (.pr (.bin .Mult) (.cons (.e (.cst (.int 98689))) (.cons (.e (.pr .ix (.cons (.o 0) (.cons (.e (.cst (.int 2))) .nil)))) .nil)))) (.cons (.e (.pr .ix (.cons (.o 0) (.cons (.e (.cst (.int 2))) .nil)))) .nil)))) .nil)))) (.cons (.e (.cst (.int 3433))) .nil)))) .nil))) (.cons (.e (.cst (.int 3))) .nil)))) .nil))) (.cons (.e (.var 2)) .nil)))) (.cons (.set (.n 3) (.pr (.bin .Mod) (.cons (.e (.pr .int (.cons (.e (.pr (.bin .Mult) (.cons (.e (.var 3)) (.cons (.e (.pr (.bin .Add) (.cons (.e (.pr (.bin .Mod) (.cons (.e (.pr .int (.cons (.e (.var 3)) .nil))) (.cons (.e (.cst (.int 12941))) .nil)))) (.cons (.e (.pr (.bin .Mult) (.cons (.e (.cst (.int 389))) (.cons (.e (.pr .ix (.cons (.o 0) (.cons (.e (.cst (.int 2))) .nil)))) .nil)))) .nil)))) .nil)))) .nil))) (.cons (.e (.cst (.int 2305843009213693907))) .nil)))) (.cons (.ret (.pr (.bin .Mod) (.cons (.e (.pr .int (.cons (.e (.pr (.bin .FloorDiv) (.cons (.e (.var 3)) (.cons (.e (.cst (.int 239))) .nil)))) .nil))) (.cons (.e (.var 1)) .nil)))) .nil))))))
def c__law_take : CI := { N := ["pot", "upto", "prime", "blend", "digit"], sc := defScope s__law_take, st := (defScope s__law_take).names, fn := [], gl := [], xs := [], fr := false }
theorem k__law_take : chkSs c__law_take b__law_take (defBody s__law_take) = true := by decide +kernel
theorem n__law_take : FnScope c__law_take.N ["pot", "upto"] (defScope s__law_take) := ⟨rfl, rfl, rfl, by decide +kernel, rfl, by decide +kernel, by decide +kernel⟩
def r__law_take : Run := runFn (tab []) 0 5 [true, false] b__law_take
/-! _law_of -/
abbrev s__law_of : PySem.Stmt := top 34
def b__law_of : Sms := (.cons (.ret (.pr .ix (.cons (.e (.var 1)) (.cons (.e (.call 0 (.cons (.o 0) (.cons (.e (.pr .len (.cons (.e (.var 1)) .nil))) .nil)))) .nil)))) .nil)
def c__law_of : CI := { N := ["pot", "some"], sc := defScope s__law_of, st := (defScope s__law_of).names, fn := [("_law_take", [true, false], false, [])], gl := [], xs := [], fr := false }
theorem k__law_of : chkSs c__law_of b__law_of (defBody s__law_of) = true := by decide +kernel
theorem n__law_of : FnScope c__law_of.N ["pot", "some"] (defScope s__law_of) := ⟨rfl, rfl, rfl, by decide +kernel, rfl, by decide +kernel, by decide +kernel⟩
def r__law_of : Run := runFn (tab [r__law_take]) 0 2 [true, false] b__law_of
/-! _law_cells -/
abbrev s__law_cells : PySem.Stmt := top 35
def b__law_cells : Sms := (.cons (.ret (.pr .rngL1 (.cons (.e (.pr .max2 (.cons (.e (.cst (.int 1))) (.cons (.e (.pr .min2 (.cons (.e (.var 1)) (.cons (.e (.pr .len (.cons (.e (.var 0)) .nil))) .nil)))) .nil)))) .nil))) .nil)
def c__law_cells : CI := { N := ["script", "most"], sc := defScope s__law_cells, st := (defScope s__law_cells).names, fn := [], gl := [], xs := [], fr := false }
theorem k__law_cells : chkSs c__law_cells b__law_cells (defBody s__law_cells) = true := by decide +kernel
theorem n__law_cells : FnScope c__law_cells.N ["script", "most"] (defScope s__law_cells) := ⟨rfl, rfl, rfl, by decide +kernel, rfl, by decide +kernel, by decide +kernel⟩
def r__law_cells : Run := runFn (tab []) 0 2 [false, false] b__law_cells
/-! _law_odd -/
abbrev s__law_odd : PySem.Stmt := top 36
def b__law_odd : Sms := (.cons (.own 1 (.pr .lst (.cons (.e (.cst .none)) (.cons (.e (.cst (.bool true))) (.cons (.e (.cst (.bool false))) (.cons (.e (.cst (.int 0))) (.cons (.e (.cst (.int 1))) (.cons (.e (.pr .neg (.cons (.e (.cst (.int 1))) .nil))) (.cons (.e (.cst (.int 33))) (.cons (.e (.pr (.bin .Pow) (.cons (.e (.cst (.int 10))) (.cons (.e (.cst (.int 20))) .nil)))) (.cons (.e (.cst (.str ""))) (.cons (.e (.cst (.str "a"))) (.cons (.e (.cst (.str "vm"))) (.cons (.e (.cst (.str "turns"))) (.cons (.e (.pr .tup .nil)) (.cons (.e (.pr .lst .nil)) (.cons (.e (.pr .dct0 .nil)) (.cons (.e (.pr .tup (.cons (.e (.cst (.int 0))) .nil))) (.cons (.e (.pr .tup (.cons (.e (.pr .tup .nil)) .nil))) (.cons (.e (.pr .lst (.cons (.e (.cst (.int 0))) .nil))) (.cons (.e (.pr .tup (.cons (.e (.cst (.int 0))) (.cons (.e (.cst (.int 1))) .nil)))) .nil))))))))))))))))))))) (.cons (.own 1 (.pr (.bin .Add) (.cons (.o 1) (.cons (.e (.pr .lst (.cons (.e (.pr .tup (.cons (.e (.cst (.int 1))) (.cons (.e (.cst (.int 0))) .nil)))) (.cons (.e (.pr .tup (.cons (.e (.cst .none)) .nil))) (.cons (.e (.pr (.dct1 "a") (.cons (.e (.cst (.int 1))) .nil))) (.cons (.e (.pr .tup (.cons (.e (.pr .tup (.cons (.e (.cst (.int 1))) .nil))) (.cons (.e (.cst (.str ""))) .nil)))) (.cons (.e (.pr .tup (.cons (.e (.cst (.str "lots"))) (.cons (.e (.pr .tup .nil)) .nil)))) (.cons (.e (.pr .tup (.cons (.e (.pr .tup (.cons (.e (.cst (.int 2))) (.cons (.e (.cst (.int 1))) .nil)))) (.cons (.e (.cst (.str "v"))) .nil)))) .nil)))))))) .nil)))) (.cons (.app 1 (.pr .tup (.cons (.e (.cst (.int 3))) (.cons (.e (.cst (.int 1))) .nil)))) (.cons (.ret (.call 0 (.cons (.o 0) (.cons (.e (.var 1)) .nil)))) .nil))))
def c__law_odd : CI := { N := ["pot", "some"], sc := defScope s__law_odd, st := (defScope s__law_odd).names, fn := [("_law_of", [true, false], false, [])], gl := [], xs := [], fr := false }
theorem k__law_odd : chkSs c__law_odd b__law_odd (defBody s__law_odd) = true := by decide +kernel
theorem n__law_odd : FnScope c__law_odd.N ["pot"] (defScope s__law_odd) := ⟨rfl, rfl, rfl, by decide +kernel, rfl, by decide +kernel, by decide +kernel⟩
def r__law_odd : Run := runFn (tab [r__law_of]) 0 2 [true] b__law_odd
/-! _law_is_int -/
abbrev s__law_is_int : PySem.Stmt := top 37
def b__law_is_int : Sms := (.cons (.ret (.and (.pr (.isi .int) (.cons (.e (.var 0)) .nil)) (.and (.not (.pr (.isi .bool) (.cons (.e (.var 0)) .nil))) (.chain .LtE .LtE (.e (.var 1)) (.e (.var 0)) (.e (.var 2)))))) .nil)
def c__law_is_int : CI := { N := ["value", "low", "high"], sc := defScope s__law_is_int, st := (defScope s__law_is_int).names, fn := [], gl := [], xs := [], fr := false }
theorem k__law_is_int : chkSs c__law_is_int b__law_is_int (defBody s__law_is_int) = true := by decide +kernel
theorem n__law_is_int : FnScope c__law_is_int.N ["value", "low", "high"] (defScope s__law_is_int) := ⟨rfl, rfl, rfl, by decide +kernel, rfl, by decide +kernel, by decide +kernel⟩
def r__law_is_int : Run := runFn (tab []) 0 3 [false, false, false] b__law_is_int
/-! _law_bent -/
abbrev s__law_bent : PySem.Stmt := top 38
def b__law_bent : Sms := (.cons (.ite (.and (.pr (.isi .tuple) (.cons (.e (.var 1)) .nil)) (.and (.pr (.cmp .NotEq) (.cons (.e (.var 1)) (.cons (.e (.pr .tup .nil)) .nil))) (.pr (.cmp .Gt) (.cons (.e (.call 2 (.cons (.o 0) (.cons (.e (.cst (.int 5))) .nil)))) (.cons (.e (.cst (.int 0))) .nil))))) (.cons (.set (.n 2) (.call 2 (.cons (.o 0) (.cons (.e (.pr .len (.cons (.e (.var 1)) .nil))) .nil)))) (.cons (.ret (.pr (.bin .Add) (.cons (.e (.pr (.bin .Add) (.cons (.e (.pr (.sl false true) (.cons (.e (.var 1)) (.cons (.e (.var 2)) .nil)))) (.cons (.e (.pr .tup (.cons (.e (.call 3 (.cons (.o 0) (.cons (.e (.pr .ix (.cons (.e (.var 1)) (.cons (.e (.var 2)) .nil)))) .nil)))) .nil))) .nil)))) (.cons (.e (.pr (.sl true false) (.cons (.e (.var 1)) (.cons (.e (.pr (.bin .Add) (.cons (.e (.var 2)) (.cons (.e (.cst (.int 1))) .nil)))) .nil)))) .nil)))) .nil)) .nil) (.cons (.ite (.pr (.isi .tuple) (.cons (.e (.var 1)) .nil)) (.cons (.ret (.call 1 (.cons (.o 0) (.cons (.e (.pr .lst (.cons (.e (.pr .list (.cons (.e (.var 1)) .nil))) (.cons (.e (.pr (.sl true false) (.cons (.e (.var 1)) (.cons (.e (.cst (.int 1))) .nil)))) (.cons (.e (.pr (.sl false true) (.cons (.e (.var 1)) (.cons (.e (.pr .neg (.cons (.e (.cst (.int 1))) .nil))) .nil)))) (.cons (.e (.pr (.bin .Add) (.cons (.e (.var 1)) (.cons (.e (.pr (.sl true false) (.cons (.e (.var 1)) (.cons (.e (.pr .neg (.cons (.e (.cst (.int 1))) .nil))) .nil)))) .nil)))) (.cons (.e (.pr .rev (.cons (.e (.var 1)) .nil))) (.cons (.e (.pr .tup .nil)) (.cons (.e (.cst .none)) .nil))))))))) .nil)))) .nil) .nil) (.cons (.ite (.pr (.isi .bool) (.cons (.e (.var 1)) .nil)) (.cons (.ret (.call 1 (.cons (.o 0) (.cons (.e (.pr .lst (.cons (.e (.not (.var 1))) (.cons (.e (.pr .int (.cons (.e (.var 1)) .nil))) (.cons (.e (.cst .none)) .nil))))) .nil)))) .nil) .nil) (.cons (.ite (.pr (.isi .int) (.cons (.e (.var 1)) .nil)) (.cons (.ret (.call 1 (.cons (.o 0) (.cons (.e (.pr .lst (.cons (.e (.pr (.bin .Add) (.cons (.e (.var 1)) (.cons (.e (.cst (.int 1))) .nil)))) (.cons (.e (.pr (.bin .Sub) (.cons (.e (.var 1)) (.cons (.e (.cst (.int 1))) .nil)))) (.cons (.e (.pr (.bin .Sub) (.cons (.e (.pr .neg (.cons (.e (.var 1)) .nil))) (.cons (.e (.cst (.int 1))) .nil)))) (.cons (.e (.pr .str (.cons (.e (.var 1)) .nil))) (.cons (.e (.pr (.cmp .Eq) (.cons (.e (.var 1)) (.cons (.e (.cst (.int 1))) .nil)))) (.cons (.e (.cst .none)) (.cons (.e (.pr .tup (.cons (.e (.var 1)) .nil))) (.cons (.e (.pr (.bin .Pow) (.cons (.e (.cst (.int 10))) (.cons (.e (.cst (.int 9))) .nil)))) .nil)))))))))) .nil)))) .nil) .nil) (.cons (.ite (.pr (.isi .str) (.cons (.e (.var 1)) .nil)) (.cons (.ret (.call 1 (.cons (.o 0) (.cons (.e (.pr .lst (.cons (.e (.pr (.bin .Add) (.cons (.e (.var 1)) (.cons (.e (.cst (.str "a"))) .nil)))) (.cons (.e (.pr (.sl true false) (.cons (.e (.var 1)) (.cons (.e (.cst (.int 1))) .nil)))) (.cons (.e (.pr .upper (.cons (.e (.var 1)) .nil))) (.cons (.e (.cst (.str ""))) (.cons (.e (.cst .none)) (.cons (.e (.cst (.int 0))) .nil)))))))) .nil)))) .nil) .nil) (.cons (.ret (.call 0 (.cons (.o 0) .nil))) .nil))))))
def c__law_bent : CI := { N := ["pot", "value", "at"], sc := defScope s__law_bent, st := (defScope s__law_bent).names, fn := [("_law_odd", [true], false, []), ("_law_of", [true, false], false, []), ("_law_take", [true, false], false, []), ("_law_bent", [true, false], false, [])], gl := [], xs := [], fr := false }
theorem k__law_bent : chkSs c__law_bent b__law_bent (defBody s__law_bent) = true := by decide +kernel
theorem n__law_bent : FnScope c__law_bent.N ["pot", "value"] (defScope s__law_bent) := ⟨rfl, rfl, rfl, by decide +kernel, rfl, by decide +kernel, by decide +kernel⟩
def r__law_bent : Run := recR (fun me => [r__law_odd, r__law_of, r__law_take, me]) 0 3 [true, false] b__law_bent 3
/-! _law_is_bool -/
abbrev s__law_is_bool : PySem.Stmt := top 39
def b__law_is_bool : Sms := (.cons (.ret (.and (.pr (.isi .bool) (.cons (.e (.var 0)) .nil)) (.pr (.cmp .Eq) (.cons (.e (.var 0)) (.cons (.e (.var 1)) .nil))))) .nil)
def c__law_is_bool : CI := { N := ["told", "due"], sc := defScope s__law_is_bool, st := (defScope s__law_is_bool).names, fn := [], gl := [], xs := [], fr := false }
theorem k__law_is_bool : chkSs c__law_is_bool b__law_is_bool (defBody s__law_is_bool) = true := by decide +kernel
theorem n__law_is_bool : FnScope c__law_is_bool.N ["told", "due"] (defScope s__law_is_bool) := ⟨rfl, rfl, rfl, by decide +kernel, rfl, by decide +kernel, by decide +kernel⟩
def r__law_is_bool : Run := runFn (tab []) 0 2 [false, false] b__law_is_bool
/-! _law_path -/
abbrev s__law_path : PySem.Stmt := top 40
def b__law_path : Sms := (.cons (.par [(2, true), (3, false)] [(.pr .lst (.cons (.e (.pr .tup (.cons (.e (.cst (.int 0))) (.cons (.e (.cst (.int 0))) .nil)))) (.cons (.e (.pr .tup (.cons (.e (.cst (.int 1))) (.cons (.e (.cst (.int 0))) .nil)))) .nil))), (.cst (.int 0))]) (.cons (.for_ (.n 1) (.seq (.e (.var 0))) (.cons (.set (.n 3) (.pr (.bin .Mod) (.cons (.e (.pr (.bin .Add) (.cons (.e (.var 3)) (.cons (.e (.ite (.pr (.cmp .Eq) (.cons (.e (.var 1)) (.cons (.e (.cst (.str "v"))) .nil))) (.cst (.int 1)) (.cst (.int 3)))) .nil)))) (.cons (.e (.cst (.int 4))) .nil)))) (.cons (.set (.two (.n 4) (.n 5)) (.pr .ix (.cons (.o 2) (.cons (.e (.pr .neg (.cons (.e (.cst (.int 1))) .nil))) .nil)))) (.cons (.app 2 (.pr .ix (.cons (.e (.pr .lst (.cons (.e (.pr .tup (.cons (.e (.pr (.bin .Add) (.cons (.e (.var 4)) (.cons (.e (.cst (.int 1))) .nil)))) (.cons (.e (.var 5)) .nil)))) (.cons (.e (.pr .tup (.cons (.e (.var 4)) (.cons (.e (.pr (.bin .Add) (.cons (.e (.var 5)) (.cons (.e (.cst (.int 1))) .nil)))) .nil)))) (.cons (.e (.pr .tup (.cons (.e (.pr (.bin .Sub) (.cons (.e (.var 4)) (.cons (.e (.cst (.int 1))) .nil)))) (.cons (.e (.var 5)) .nil)))) (.cons (.e (.pr .tup (.cons (.e (.var 4)) (.cons (.e (.pr (.bin .Sub) (.cons (.e (.var 5)) (.cons (.e (.cst (.int 1))) .nil)))) .nil)))) .nil)))))) (.cons (.e (.var 3)) .nil)))) .nil)))) (.cons (.ret (.var 2)) .nil)))
def c__law_path : CI := { N := ["word", "letter", "found", "way", "x", "y"], sc := defScope s__law_path, st := (defScope s__law_path).names, fn := [], gl := [], xs := [], fr := false }
theorem k__law_path : chkSs c__law_path b__law_path (defBody s__law_path) = true := by decide +kernel
theorem n__law_path : FnScope c__law_path.N ["word"] (defScope s__law_path) := ⟨rfl, rfl, rfl, by decide +kernel, rfl, by decide +kernel, by decide +kernel⟩
def r__law_path : Run := runFn (tab []) 0 6 [false] b__law_path
/-! _law_sides -/
abbrev s__law_sides : PySem.Stmt := top 41
def b__law_sides : Sms := (.cons (.ret (.comp (.pr .tuple (.cons (.e (.pr .sorted (.cons (.e (.var 1)) .nil))) .nil)) (.n 1) (.zip (.e (.var 0)) (.e (.pr (.sl true false) (.cons (.e (.var 0)) (.cons (.e (.cst (.int 1))) .nil))))) [] [1])) .nil)
def c__law_sides : CI := { N := ["points", "pair"], sc := defScope s__law_sides, st := (defScope s__law_sides).names, fn := [], gl := [], xs := [], fr := false }
theorem k__law_sides : chkSs c__law_sides b__law_sides (defBody s__law_sides) = true := by decide +kernel
theorem n__law_sides : FnScope c__law_sides.N ["points"] (defScope s__law_sides) := ⟨rfl, rfl, rfl, by decide +kernel, rfl, by decide +kernel, by decide +kernel⟩
def r__law_sides : Run := runFn (tab []) 0 2 [false] b__law_sides
/-! _law_is_due -/
abbrev s__law_is_due : PySem.Stmt := top 42
def b__law_is_due : Sms := (.cons (.ite (.or (.not (.pr (.isi .tuple) (.cons (.e (.var 1)) .nil))) (.or (.pr (.cmp .NotIn) (.cons (.e (.pr .len (.cons (.e (.var 1)) .nil))) (.cons (.e (.pr .tup (.cons (.e (.cst (.int 1))) (.cons (.e (.cst (.int 3))) .nil)))) .nil))) (.not (.pr (.isi .str) (.cons (.e (.pr .ix (.cons (.e (.var 1)) (.cons (.e (.cst (.int 0))) .nil)))) .nil))))) (.cons (.ret (.cst (.bool false))) .nil) .nil) (.cons (.set (.n 2) (.call 1 (.cons (.e (.call 2 (.cons (.e (.var 0)) .nil))) .nil))) (.cons (.ite (.pr (.cmp .Eq) (.cons (.e (.pr .len (.cons (.e (.var 1)) .nil))) (.cons (.e (.cst (.int 1))) .nil))) (.cons (.ret (.and (.pr (.cmp .Eq) (.cons (.e (.pr .ix (.cons (.e (.var 1)) (.cons (.e (.cst (.int 0))) .nil)))) (.cons (.e (.cst (.str "once"))) .nil))) (.pr (.cmp .Eq) (.cons (.e (.pr .lenset (.cons (.e (.var 2)) .nil))) (.cons (.e (.pr .len (.cons (.e (.var 2)) .nil))) .nil))))) .nil) .nil) (.cons (.ite (.or (.pr (.cmp .NotEq) (.cons (.e (.pr .ix (.cons (.e (.var 1)) (.cons (.e (.cst (.int 0))) .nil)))) (.cons (.e (.cst (.str "twice"))) .nil))) (.not (.pr .all (.cons (.e (.comp (.call 0 (.cons (.e (.var 3)) (.cons (.e (.cst (.int 0))) (.cons (.e (.pr .len (.cons (.e (.var 0)) .nil))) .nil)))) (.n 3) (.seq (.e (.pr (.sl true false) (.cons (.e (.var 1)) (.cons (.e (.cst (.int 1))) .nil))))) [] [3])) .nil)))) (.cons (.ret (.cst (.bool false))) .nil) .nil) (.cons (.ret (.and (.pr (.cmp .Lt) (.cons (.e (.pr .ix (.cons (.e (.var 1)) (.cons (.e (.cst (.int 1))) .nil)))) (.cons (.e (.pr .ix (.cons (.e (.var 1)) (.cons (.e (.cst (.int 2))) .nil)))) .nil))) (.pr (.cmp .Eq) (.cons (.e (.pr .ix (.cons (.e (.var 2)) (.cons (.e (.pr .ix (.cons (.e (.var 1)) (.cons (.e (.cst (.int 1))) .nil)))) .nil)))) (.cons (.e (.pr .ix (.cons (.e (.var 2)) (.cons (.e (.pr .ix (.cons (.e (.var 1)) (.cons (.e (.cst (.int 2))) .nil)))) .nil)))) .nil))))) .nil)))))
def c__law_is_due : CI := { N := ["word", "value", "sides", "one"], sc := defScope s__law_is_due, st := (defScope s__law_is_due).names, fn := [("_law_is_int", [false, false, false], false, []), ("_law_sides", [false], false, []), ("_law_path", [false], false, [])], gl := [], xs := [], fr := false }
theorem k__law_is_due : chkSs c__law_is_due b__law_is_due (defBody s__law_is_due) = true := by decide +kernel
theorem n__law_is_due : FnScope c__law_is_due.N ["word", "value"] (defScope s__law_is_due) := ⟨rfl, rfl, rfl, by decide +kernel, rfl, by decide +kernel, by decide +kernel⟩
def r__law_is_due : Run := runFn (tab [r__law_is_int, r__law_sides, r__law_path]) 0 4 [false, false] b__law_is_due
/-! _law_product -/
abbrev s__law_product : PySem.Stmt := top 43
def b__law_product : Sms := (.cons (.set (.two (.n 2) (.n 3)) (.pr .tup (.cons (.e (.cst (.int 1))) (.cons (.e (.cst (.int 0))) .nil)))) (.cons (.for_ (.n 1) (.seq (.e (.var 0))) (.cons (.set (.n 4) (.ite (.pr (.cmp .Eq) (.cons (.e (.var 1)) (.cons (.e (.cst (.str "o"))) .nil))) (.cst (.int 1)) (.pr .neg (.cons (.e (.cst (.int 1))) .nil)))) (.cons (.par [(2, false), (3, false)] [(.pr (.bin .Sub) (.cons (.e (.var 2)) (.cons (.e (.pr (.bin .Mult) (.cons (.e (.var 4)) (.cons (.e (.var 3)) .nil)))) .nil))), (.pr (.bin .Add) (.cons (.e (.var 3)) (.cons (.e (.pr (.bin .Mult) (.cons (.e (.var 4)) (.cons (.e (.var 2)) .nil)))) .nil)))]) .nil))) (.cons (.ret (.pr .tup (.cons (.e (.var 2)) (.cons (.e (.var 3)) .nil)))) .nil)))
def c__law_product : CI := { N := ["turns", "turn", "x", "y", "part"], sc := defScope s__law_product, st := (defScope s__law_product).names, fn := [], gl := [], xs := [], fr := false }
theorem k__law_product : chkSs c__law_product b__law_product (defBody s__law_product) = true := by decide +kernel
theorem n__law_product : FnScope c__law_product.N ["turns"] (defScope s__law_product) := ⟨rfl, rfl, rfl, by decide +kernel, rfl, by decide +kernel, by decide +kernel⟩
def r__law_product : Run := runFn (tab []) 0 5 [false] b__law_product
/-! _law_right -/
abbrev s__law_right : PySem.Stmt := top 44
def b__law_right : Sms := (.cons (.for_ (.n 1) (.rng1 (.cst (.int 5))) (.cons (.set (.n 2) (.pr .join (.cons (.e (.cst (.str ""))) (.cons (.e (.comp (.call 5 (.cons (.o 0) (.cons (.e (.pr .lst (.cons (.e (.cst (.str "m"))) (.cons (.e (.cst (.str "v"))) .nil)))) .nil))) (.n 9) (.rng1 (.call 6 (.cons (.o 0) (.cons (.e (.call 5 (.cons (.o 0) (.cons (.e (.pr .lst (.cons (.e (.cst (.int 6))) (.cons (.e (.cst (.int 41))) .nil)))) .nil)))) .nil)))) [] [9])) .nil)))) (.cons (.ite (.pr (.cmp .NotEq) (.cons (.e (.pr .repr (.cons (.e (.callK 0 .nil (.cons (.e (.var 2)) .nil) ["word"])) .nil))) (.cons (.e (.pr .repr (.cons (.e (.pr .tuple (.cons (.e (.call 13 (.cons (.e (.var 2)) .nil))) .nil))) .nil))) .nil))) (.cons (.ret (.cst (.bool false))) .nil) .nil) (.cons (.set (.n 3) (.callK 3 .nil (.cons (.e (.var 2)) .nil) ["word"])) (.cons (.set (.n 4) (.call 12 (.cons (.e (.call 13 (.cons (.e (.var 2)) .nil))) .nil))) (.cons (.ite (.or (.not (.call 11 (.cons (.e (.var 2)) (.cons (.e (.var 3)) .nil)))) (.pr (.cmp .NotEq) (.cons (.e (.pr (.cmp .Eq) (.cons (.e (.var 3)) (.cons (.e (.pr .tup (.cons (.e (.cst (.str "once"))) .nil))) .nil)))) (.cons (.e (.pr (.cmp .Eq) (.cons (.e (.pr .lenset (.cons (.e (.var 4)) .nil))) (.cons (.e (.pr .len (.cons (.e (.var 4)) .nil))) .nil)))) .nil)))) (.cons (.ret (.cst (.bool false))) .nil) .nil) (.cons (.set (.n 5) (.pr .lst (.cons (.e (.var 3)) (.cons (.e (.pr .tup (.cons (.e (.cst (.str "once"))) .nil))) (.cons (.e (.pr .tup (.cons (.e (.cst (.str "twice"))) (.cons (.e (.cst (.int 0))) (.cons (.e (.cst (.int 4))) .nil))))) (.cons (.e (.pr .tup (.cons (.e (.cst (.str "twice"))) (.cons (.e (.cst (.int 4))) (.cons (.e (.cst (.int 0))) .nil))))) (.cons (.e (.pr .tup (.cons (.e (.cst (.str "twice"))) (.cons (.e (.cst (.int 0))) (.cons (.e (.cst (.int 0))) .nil))))) (.cons (.e (.pr .tup (.cons (.e (.cst (.str "twice"))) .nil))) (.cons (.e (.cst .none)) (.cons (.e (.pr .list (.cons (.e (.var 3)) .nil))) .nil)))))))))) (.cons (.for_ (.n 6) (.seq (.e (.pr (.bin .Add) (.cons (.e (.pr (.bin .Add) (.cons (.e (.var 5)) (.cons (.e (.pr .lst (.cons (.e (.call 7 (.cons (.o 0) .nil))) .nil))) .nil)))) (.cons (.e (.comp (.call 8 (.cons (.o 0) (.cons (.e (.var 3)) .nil))) (.n 10) (.rng1 (.cst (.int 6))) [] [10])) .nil))))) (.cons (.ite (.not (.call 9 (.cons (.e (.callK 10 (.cons (.e (.var 2)) .nil) (.cons (.e (.var 6)) .nil) ["value"])) (.cons (.e (.call 11 (.cons (.e (.var 2)) (.cons (.e (.var 6)) .nil)))) .nil)))) (.cons (.ret (.cst (.bool false))) .nil) .nil) .nil)) (.cons (.set (.n 7) (.pr .join (.cons (.e (.cst (.str ""))) (.cons (.e (.comp (.call 5 (.cons (.o 0) (.cons (.e (.pr .lst (.cons (.e (.cst (.str "o"))) (.cons (.e (.cst (.str "u"))) .nil)))) .nil))) (.n 10) (.rng1 (.call 6 (.cons (.o 0) (.cons (.e (.cst (.int 10))) .nil)))) [] [10])) .nil)))) (.cons (.set (.n 8) (.call 4 (.cons (.e (.var 7)) .nil))) (.cons (.ite (.or (.pr (.cmp .NotEq) (.cons (.e (.call 3 (.cons (.e (.var 8)) .nil))) (.cons (.e (.pr .tup (.cons (.e (.cst (.str "once"))) .nil))) .nil))) (.pr (.cmp .NotEq) (.cons (.e (.pr .repr (.cons (.e (.callK 1 .nil (.cons (.e (.var 7)) .nil) ["turns"])) .nil))) (.cons (.e (.pr .repr (.cons (.e (.call 2 (.cons (.e (.var 7)) .nil))) .nil))) .nil)))) (.cons (.ret (.cst (.bool false))) .nil) .nil) (.cons (.ite (.pr (.cmp .NotEq) (.cons (.e (.pr .ix (.cons (.e (.call 0 (.cons (.e (.var 8)) .nil))) (.cons (.e (.pr .neg (.cons (.e (.cst (.int 1))) .nil))) .nil)))) (.cons (.e (.call 1 (.cons (.e (.var 7)) .nil))) .nil))) (.cons (.ret (.cst (.bool false))) .nil) .nil) .nil)))))))))))) (.cons (.ret (.cst (.bool true))) .nil))
def c__law_right : CI := { N := ["pot", "lap", "word", "told", "sides", "some", "value", "turns", "halved", "letter", "turn"], sc := defScope s__law_right, st := (defScope s__law_right).names, fn := [("path_of", [false], false, [["word"]]), ("end_of", [false], false, [["turns"]]), ("_law_product", [false], false, []), ("gone_once", [false], false, [["word"]]), ("halved_word", [false], false, []), ("_law_of", [true, false], false, []), ("_law_take", [true, false], false, []), ("_law_odd", [true], false, []), ("_law_bent", [true, false], false, []), ("_law_is_bool", [false, false], false, []), ("shows_gone_once", [false, false], false, [["value"]]), ("_law_is_due", [false, false], false, []), ("_law_sides", [false], false, []), ("_law_path", [false], false, [])], gl := [], xs := [], fr := false }
theorem k__law_right : chkSs c__law_right b__law_right (defBody s__law_right) = true := by decide +kernel
theorem n__law_right : FnScope c__law_right.N ["pot"] (defScope s__law_right) := ⟨rfl, rfl, rfl, by decide +kernel, rfl, by decide +kernel, by decide +kernel⟩
def r__law_right : Run := runFn (tab [r_path_of, r_end_of, r__law_product, r_gone_once, r_halved_word, r__law_of, r__law_take, r__law_odd, r__law_bent, r__law_is_bool, r_shows_gone_once, r__law_is_due, r__law_sides, r__law_path]) 0 11 [true] b__law_right
/-! law -/
abbrev s_law : PySem.Stmt := top 45
def b_law : Sms := (.cons (.ret (.pr .all (.cons (.e (.comp (.callT 0 (.callF 1 (.cons (.e (.var 0)) (.cons (.e (.var 1)) .nil)))) (.n 1) (.seq (.e (.call 2 (.cons (.e (.var 0)) (.cons (.e (.cst (.int 3))) .nil))))) [] [1])) .nil))) .nil)
def c_law : CI := { N := ["script", "at"], sc := defScope s_law, st := (defScope s_law).names, fn := [("_law_right", [true], false, []), ("_law_pot", [false, false], true, []), ("_law_cells", [false, false], false, [])], gl := [], xs := [], fr := false }
theorem k_law : chkSs c_law b_law (defBody s_law) = true := by decide +kernel
theorem n_law : FnScope c_law.N ["script"] (defScope s_law) := ⟨rfl, rfl, rfl, by decide +kernel, rfl, by decide +kernel, by decide +kernel⟩
def r_law : Run := runFn (tab [r__law_right, r__law_pot, r__law_cells]) 0 2 [false] b_law
end CF

set_option Elab.async false
set_option linter.all false
set_option maxRecDepth 100000
namespace CF
open PySem L2

theorem mulOk_of {i j : Int} (a b : Nat) (ha : i.natAbs < 2 ^ a) (hb : j.natAbs < 2 ^ b) (h0 : 0 < a) (h1 : 0 < b) (h : a + b ≤ 1000000) : mulOk i j = true := by
  have := wide_mul ha hb h0 h1 h
  exact decide_eq_true this
theorem take_own {own p1 p2 n : Int} (h : 0 < own) (hn : 0 < n) (hl : n.natAbs.log2 < 9000) : r__law_take [.lst [.int own, .int p1, .int p2], .int n] = some (.int (own % n), [[.int (own / n), .int p1, .int p2]]) := by
  simp [r__law_take, runFn, b__law_take, initE, evSs, evS, evE, evO, evOs, finOs, finO, ownL, rdVar, cstD, prD, prS, pr1, pr2, binD, cmpD, orD, ixD, L2.atI, L2.ixN, intD, setTg, free, outsE, h, hn, hl]

theorem mulOk_le {i j : Int} (x y : Nat) (hi : i.natAbs ≤ x) (hj : j.natAbs ≤ y) (hx : x.log2 < 400000) (hy : y.log2 < 400000) : mulOk i j = true := by
  have l : ∀ {u v : Nat}, u ≤ v → u.log2 ≤ v.log2 := fun {u v} h => by
    by_cases hu : u = 0
    · subst hu
      rw [Nat.log2_zero]
      exact Nat.zero_le _
    · have hv : v ≠ 0 := by omega
      exact (Nat.le_log2 hv).mpr (Nat.le_trans ((Nat.le_log2 hu).mp (Nat.le_refl _)) h)
  have h1 := l hi
  have h2 := l hj
  exact decide_eq_true (by omega)
theorem take_cnt {own p1 p2 n : Int} (h : ¬ 0 < own) (hn : 0 < n) (h1 : 0 ≤ p1) (h1' : p1 < 2305843009213693951) (h2 : 0 ≤ p2) (h2' : p2 < 1000000000) : ∃ d, r__law_take [.lst [.int own, .int p1, .int p2], .int n] = some (.int d, [[.int own, .int p1, .int (p2 + 1)]]) ∧ 0 ≤ d ∧ d < n := by
  have m1 : mulOk 98689 (p2 + 1) = true := mulOk_le 98689 1000000001 (by omega) (by omega) (by decide +kernel) (by decide +kernel)
  have q0 : 0 ≤ 98689 * (p2 + 1) := by omega
  have q1 : 98689 * (p2 + 1) ≤ 98689 * 1000000000 := by omega
  have m2 : mulOk (98689 * (p2 + 1)) (p2 + 1) = true := mulOk_le (98689 * 1000000000) 1000000001 (by omega) (by omega) (by decide +kernel) (by decide +kernel)
  have m3 : mulOk 389 (p2 + 1) = true := mulOk_le 389 1000000001 (by omega) (by omega) (by decide +kernel) (by decide +kernel)
  have r0 : 0 ≤ 98689 * (p2 + 1) * (p2 + 1) := Int.mul_nonneg q0 (by omega)
  have r1 : 98689 * (p2 + 1) * (p2 + 1) ≤ 98689 * 1000000000 * 1000000000 := Int.mul_le_mul q1 (by omega) (by omega) (by decide)
  have pw : ((p1 + 98689 * (p2 + 1) * (p2 + 1) + 3433).natAbs.log2 + 1) * 3 ≤ 134217728 := by
    have hb : (p1 + 98689 * (p2 + 1) * (p2 + 1) + 3433).natAbs < 2 ^ 100 := by
      have : (98689 * 1000000000 * 1000000000 : Int) = 98689000000000000000000 := by decide
      rw [this] at r1
      omega
    by_cases hz : (p1 + 98689 * (p2 + 1) * (p2 + 1) + 3433).natAbs = 0
    · rw [hz, Nat.log2_zero]
      decide
    · have := (Nat.log2_lt hz).mpr hb
      omega
  have hm : ∀ b : Int, 0 ≤ b → b < 2147483648 → mulOk b (b % 12941 + 389 * (p2 + 1)) = true := fun b b0 b1 => mulOk_le 2147483648 1000000000000 (by omega) (by omega) (by decide +kernel) (by decide +kernel)
  have l239 : Nat.log2 239 < 9000 := by decide +kernel
  have hr : (p2 + 1) % 5 = 0 ∨ (p2 + 1) % 5 = 1 ∨ (p2 + 1) % 5 = 2 ∨ (p2 + 1) % 5 = 3 ∨ (p2 + 1) % 5 = 4 := by omega
  have key : ∀ x : Int, 0 ≤ x % n ∧ x % n < n := fun x => ⟨Int.emod_nonneg _ (by omega), Int.emod_lt_of_pos _ hn⟩
  have kb : ∀ (x p : Int), 0 < p → p < 2147483648 → mulOk (x % p) (x % p % 12941 + 389 * (p2 + 1)) = true := fun x p p0 p1 => hm _ (Int.emod_nonneg _ (by omega)) (Int.lt_trans (Int.emod_lt_of_pos _ p0) p1)
  rcases hr with hr | hr | hr | hr | hr
  all_goals
    generalize hy : r__law_take [.lst [.int own, .int p1, .int p2], .int n] = y
    simp [r__law_take, runFn, b__law_take, initE, evSs, evS, evE, evO, evOs, finOs, finO, ownL, rdVar, cstD, prD, prS, pr1, pr2, binD, cmpD, orD, ixD, L2.atI, L2.ixN, intD, setTg, free, outsE, h, hn, hr, m1, m2, m3, pw, kb, short, l239] at hy
    subst hy
    exact ⟨_, rfl, key _⟩
end CF

set_option Elab.async false
set_option linter.all false
set_option maxRecDepth 100000
namespace CF
open PySem L2

def odds : List Dv := [.non, .bl true, .bl false, .int 0, .int 1, .int (-1), .int 33, .int 100000000000000000000, .str "", .str "a", .str "vm", .str "turns", .tup [], .lst [], .dct [] [], .tup [.int 0], .tup [.tup []], .lst [.int 0], .tup [.int 0, .int 1], .tup [.int 1, .int 0], .tup [.non], .dct [.str "a"] [.int 1], .tup [.tup [.int 1], .str ""], .tup [.str "lots", .tup []], .tup [.tup [.int 2, .int 1], .str "v"], .tup [.int 3, .int 1]]
theorem of_eq {pot p2 : List Dv} {xs : List Dv} {d : Int} {x : Dv} (h : r__law_take [.lst pot, .int xs.length] = some (.int d, [p2])) (hx : L2.atI xs d = some x) : r__law_of [.lst pot, .lst xs] = some (x, [p2]) := by
  simp [r__law_of, runFn, b__law_of, initE, evSs, evS, evE, evO, evOs, finOs, finO, ownL, rdVar, cstD, prD, prS, pr1, pr2, lenD, ixD, intD, setTg, free, outsE, tab, backOs, h, hx]
theorem odd_eq {pot p2 : List Dv} {x : Dv} (h : r__law_of [.lst pot, .lst odds] = some (x, [p2])) : r__law_odd [.lst pot] = some (x, [p2]) := by
  unfold odds at h
  have l10 : (Nat.log2 10 + 1) * 20 ≤ 134217728 := by decide +kernel
  simp [r__law_odd, runFn, b__law_odd, initE, evSs, evS, evE, evO, evOs, finOs, finO, ownL, rdVar, cstD, prD, prS, pr1, pr2, negD, binD, lenD, ixD, intD, setTg, free, outsE, tab, backOs, short, h, l10]
end CF

set_option Elab.async false
set_option linter.all false
set_option maxRecDepth 100000
namespace CF
open PySem L2

def potRest : Sms := match b__law_pot with
  | .cons _ ss => ss
  | .nil => .nil
def potCell : Ex := match b__law_pot with
  | .cons (.set _ e) _ => e
  | _ => .cst .none
theorem pot_rest {s : Dv} {place cell : Int} (h0 : 0 ≤ place) (h1 : place < 100) : ∃ own p1 η, evSs (tab []) 0 potRest [.dat s, .dat (.int place), .dat (.int cell), .no, .no] = some (.ret (.lst [.int own, .int p1, .int 0]), η) ∧ outsE [false, false] η = some [] ∧ 0 ≤ p1 ∧ p1 < 2305843009213693951 := by
  have l1 : (Nat.log2 10 + 1) * 60 ≤ 134217728 := by decide +kernel
  have l2 : (Nat.log2 (10 ^ 60) + 1) * 5 ≤ 134217728 := by decide +kernel
  have l2' : (Nat.log2 1000000000000000000000000000000000000000000000000000000000000 + 1) * 5 ≤ 134217728 := by decide +kernel
  have l3 : (Nat.log2 10 + 1) * 18 ≤ 134217728 := by decide +kernel
  have m0 : ∀ x : Int, mulOk (x % 1000000000000000000000000000000000000000000000000000000000000000000000000000000000000000000000000000000000000000000000000000000000000000000000000000000000000000000000000000000000000000000000000000000000000000000000000000000000000000000000000000000000000000000000000000000000000000000000000000000000000) 0 = true := fun x => mulOk_le 1000000000000000000000000000000000000000000000000000000000000000000000000000000000000000000000000000000000000000000000000000000000000000000000000000000000000000000000000000000000000000000000000000000000000000000000000000000000000000000000000000000000000000000000000000000000000000000000000000000000000 1 (by omega) (by decide) (by decide +kernel) (by decide +kernel)
  have m1 : ∀ x : Int, mulOk (x % 1000000000000000000000000000000000000000000000000000000000000000000000000000000000000000000000000000000000000000000000000000000000000000000000000000000000000000000000000000000000000000000000000000000000000000000000000000000000000000000000000000000000000000000000000000000000000000000000000000000000000) 1 = true := fun x => mulOk_le 1000000000000000000000000000000000000000000000000000000000000000000000000000000000000000000000000000000000000000000000000000000000000000000000000000000000000000000000000000000000000000000000000000000000000000000000000000000000000000000000000000000000000000000000000000000000000000000000000000000000000 1 (by omega) (by decide) (by decide +kernel) (by decide +kernel)
  have m2 : ∀ x : Int, mulOk (x % 2305843009213693951) 88001 = true := fun x => mulOk_le 2305843009213693951 88001 (by omega) (by decide) (by decide +kernel) (by decide +kernel)
  have m3 : mulOk 11863 place = true := mulOk_le 11863 100 (by decide) (by omega) (by decide +kernel) (by decide +kernel)
  have m4 : mulOk (11863 * place) place = true := mulOk_le 1186300 100 (by omega) (by omega) (by decide +kernel) (by decide +kernel)
  have e5 : (10 : Int) ^ 60 = 1000000000000000000000000000000000000000000000000000000000000 := by decide +kernel
  have e18 : (10 : Int) ^ 18 = 1000000000000000000 := by decide +kernel
  by_cases hb : (10 : Int) ^ 18 ≤ cell.natAbs
  all_goals
    generalize hy : evSs (tab []) 0 potRest [.dat s, .dat (.int place), .dat (.int cell), .no, .no] = y
    rw [e18] at hb
    simp [potRest, b__law_pot, evSs, evS, evE, evO, evOs, finOs, finO, ownL, rdVar, cstD, prD, prS, pr1, pr2, absD, intD, binD, cmpD, orD, setTg, free, short, l1, l2, l2', l3, m0, m1, m2, m3, m4, hb] at hy
    subst hy
    exact ⟨_, _, _, rfl, rfl, Int.emod_nonneg _ (by decide), Int.lt_trans (Int.emod_lt_of_pos _ (by decide)) (by decide)⟩

theorem intsOf_map : ∀ ns : List Int, intsOf (ns.map Dv.int) = some ns
  | [] => rfl
  | n :: ns => by
    show (intsOf (ns.map Dv.int)).map (n :: ·) = _
    rw [intsOf_map ns]
    rfl
theorem atI_in {α : Type} {xs : List α} {i : Int} (h0 : 0 ≤ i) (h1 : i < xs.length) : ∃ x, L2.atI xs i = some x := by
  obtain ⟨k, rfl⟩ := Int.eq_ofNat_of_zero_le h0
  have hk : k < xs.length := by omega
  exact ⟨xs[k], L2.atI_nat (List.getElem?_eq_getElem hk)⟩
theorem pot_cell {ns : List Int} {place : Int} (h0 : 0 ≤ place) (h1 : place < 100) : ∃ cell, evE (tab []) potCell [.dat (.scr ns), .dat (.int place), .no, .no, .no] = some (.int cell, [.dat (.scr ns), .dat (.int place), .no, .no, .no]) := by
  have m5 : mulOk 5987 place = true := mulOk_le 5987 100 (by decide) (by omega) (by decide +kernel) (by decide +kernel)
  by_cases hp : place < ns.length
  · obtain ⟨x, hx⟩ := atI_in h0 hp
    exact ⟨x, by simp [potCell, b__law_pot, evE, evO, evOs, finOs, finO, ownL, rdVar, cstD, prD, prS, pr1, pr2, lenD, ixD, cmpD, orD, hp, hx]⟩
  · exact ⟨_, by simp [potCell, b__law_pot, evE, evO, evOs, finOs, finO, ownL, rdVar, cstD, prD, prS, pr1, pr2, lenD, ixD, cmpD, orD, hp, slD, asInt, sumD, lstOf, intsOf_map, intD, binD, m5]; rfl⟩
theorem pot_eq {ns : List Int} {place : Int} (h0 : 0 ≤ place) (h1 : place < 100) : ∃ own p1, r__law_pot [.scr ns, .int place] = some (.lst [.int own, .int p1, .int 0], []) ∧ 0 ≤ p1 ∧ p1 < 2305843009213693951 := by
  obtain ⟨cell, hc⟩ := pot_cell (ns := ns) h0 h1
  obtain ⟨own, p1, η, hr, ho, b0, b1⟩ := pot_rest (s := .scr ns) (cell := cell) h0 h1
  refine ⟨own, p1, ?_, b0, b1⟩
  have e1 : evSs (tab []) 0 b__law_pot [.dat (.scr ns), .dat (.int place), .no, .no, .no] = evSs (tab []) 0 potRest [.dat (.scr ns), .dat (.int place), .dat (.int cell), .no, .no] := by
    show (match evS (tab []) 0 (.set (.n 2) potCell) [.dat (.scr ns), .dat (.int place), .no, .no, .no] with
      | some (.nx, η1) => evSs (tab []) 0 potRest η1
      | r => r) = _
    simp [evS, hc, setTg, free]
  simp [r__law_pot, runFn, initE, e1, hr, ho]
theorem cells_eq {ns : List Int} (hl : ns.length ≤ 63) : ∃ n : Nat, n ≤ 3 ∧ r__law_cells [.scr ns, .int 3] = some (.lst ((List.range n).map fun (k : Nat) => Dv.int (k : Int)), []) := by
  have key : ∀ m : Int, 1 ≤ m → m ≤ 3 → ∃ n : Nat, n ≤ 3 ∧ rngL 0 m = some (.lst ((List.range n).map fun (k : Nat) => Dv.int (k : Int))) := fun m a b => by
    have : m = 1 ∨ m = 2 ∨ m = 3 := by omega
    rcases this with rfl | rfl | rfl
    · exact ⟨1, by decide, rfl⟩
    · exact ⟨2, by decide, rfl⟩
    · exact ⟨3, by decide, rfl⟩
  obtain ⟨n, h1, h2⟩ := key (max 1 (min 3 (ns.length : Int))) (by omega) (by omega)
  refine ⟨n, h1, ?_⟩
  simp [r__law_cells, runFn, b__law_cells, initE, evSs, evS, evE, evO, evOs, finOs, finO, ownL, rdVar, cstD, prD, prS, pr1, pr2, lenD, maxD, minD, rng1D, h2, outsE]
theorem take_ok {own p1 p2 n : Int} (hn : 0 < n) (hl : n.natAbs.log2 < 9000) (h1 : 0 ≤ p1) (h1' : p1 < 2305843009213693951) (h2 : 0 ≤ p2) (h2' : p2 < 1000000000) : ∃ d own' p2', r__law_take [.lst [.int own, .int p1, .int p2], .int n] = some (.int d, [[.int own', .int p1, .int p2']]) ∧ 0 ≤ d ∧ d < n ∧ (p2' = p2 ∨ p2' = p2 + 1) := by
  by_cases h : 0 < own
  · exact ⟨_, _, _, take_own h hn hl, Int.emod_nonneg _ (by omega), Int.emod_lt_of_pos _ hn, .inl rfl⟩
  · obtain ⟨d, e, a, b⟩ := take_cnt h hn h1 h1' h2 h2'
    exact ⟨d, _, _, e, a, b, .inr rfl⟩
end CF

set_option Elab.async false
set_option linter.all false
set_option maxRecDepth 100000
namespace CF
open PySem L2
/-! the language runs, but comprehensions and loops stay as they are -/
section
variable {Γ : Tab} {fu : Nat} {η : CF.Env}
@[simp] theorem evE_var {i : Nat} : evE Γ (.var i) η = rdVar η i := by rw [evE]
@[simp] theorem evE_cst {c : Const} : evE Γ (.cst c) η = (cstD c).map (·, η) := by rw [evE]
@[simp] theorem evE_glb {x : Str} {c : Const} : evE Γ (.glb x c) η = (cstD c).map (·, η) := by rw [evE]
@[simp] theorem evE_pr {p : Pr} {as : Ops} : evE Γ (.pr p as) η = match evOs Γ as η with
    | none => none
    | some (ds, η1) => match finOs as ds η1 with
      | none => none
      | some ds' => (prD p ds').map (·, η1) := by
  (rw [evE]) <;> rfl
@[simp] theorem evE_and {a b : Ex} : evE Γ (.and a b) η = match evE Γ a η with
    | some (.bl true, η1) => evE Γ b η1
    | some (.bl false, η1) => some (.bl false, η1)
    | _ => none := by
  (rw [evE]) <;> rfl
@[simp] theorem evE_or {a b : Ex} : evE Γ (.or a b) η = match evE Γ a η with
    | some (.bl true, η1) => some (.bl true, η1)
    | some (.bl false, η1) => evE Γ b η1
    | _ => none := by
  (rw [evE]) <;> rfl
@[simp] theorem evE_not {a : Ex} : evE Γ (.not a) η = match evE Γ a η with
    | some (.bl b, η1) => some (.bl (!b), η1)
    | _ => none := by
  (rw [evE]) <;> rfl
@[simp] theorem evE_ite {c a b : Ex} : evE Γ (.ite c a b) η = match evE Γ c η with
    | some (.bl true, η1) => evE Γ a η1
    | some (.bl false, η1) => evE Γ b η1
    | _ => none := by
  (rw [evE]) <;> rfl
@[simp] theorem evE_chain {o1 o2 : CmpOp} {a b c : Op} : evE Γ (.chain o1 o2 a b c) η = match evO Γ a η with
    | none => none
    | some (x, η1) => match evO Γ b η1 with
      | none => none
      | some (y, η2) => match finO a x η2, finO b y η2 with
        | some x', some y' => match cmpD o1 x' y' with
          | some false => some (.bl false, η2)
          | some true => match evO Γ c η2 with
            | none => none
            | some (z, η3) => match finO b y η3, finO c z η3 with
              | some y2, some z2 => (cmpD o2 y2 z2).map fun r => (.bl r, η3)
              | _, _ => none
          | none => none
        | _, _ => none := by
  (rw [evE]) <;> rfl
@[simp] theorem evE_call {g : Nat} {as : Ops} : evE Γ (.call g as) η = match evOs Γ as η with
    | none => none
    | some (ds, η1) => match finOs as ds η1 with
      | none => none
      | some ds' => match Γ g ds' with
        | none => none
        | some (d, outs) => (backOs as outs η1).map (d, ·) := by
  (rw [evE]) <;> rfl
@[simp] theorem evE_callK {g : Nat} {as ks : Ops} {ns : List Str} : evE Γ (.callK g as ks ns) η = match evOs Γ as η with
    | none => none
    | some (ds, η1) => match evOs Γ ks η1 with
      | none => none
      | some (es, η2) => match finOs as ds η2, finOs ks es η2 with
        | some ds', some es' => match Γ g (ds' ++ es') with
          | none => none
          | some (d, outs) => (backOs as outs η2).map (d, ·)
        | _, _ => none := by
  (rw [evE]) <;> rfl
@[simp] theorem evE_dget {i : Nat} {k : Ex} : evE Γ (.dget i k) η = match dicL η i with
    | none => none
    | some _ => match evE Γ k η with
      | none => none
      | some (d, η1) => match tkey d, dicL η1 i with
        | some kk, some kvs => (dfind kk kvs).map (·, η1)
        | _, _ => none := by
  (rw [evE]) <;> rfl
@[simp] theorem evE_din {neg : Bool} {i : Nat} {k : Ex} : evE Γ (.din neg i k) η = match evE Γ k η with
    | none => none
    | some (d, η1) => match tkey d, dicL η1 i with
      | some kk, some kvs => some (.bl (xor neg (dfind kk kvs).isSome), η1)
      | _, _ => none := by
  (rw [evE]) <;> rfl
@[simp] theorem evO_o {i : Nat} : evO Γ (.o i) η = (ownL η i).map fun xs => (.lst xs, η) := by rw [evO]
@[simp] theorem evO_e {x : Ex} : evO Γ (.e x) η = evE Γ x η := by rw [evO]
@[simp] theorem evOs_nil : evOs Γ .nil η = some ([], η) := by rw [evOs]
@[simp] theorem evOs_cons {a : Op} {as : Ops} : evOs Γ (.cons a as) η = match evO Γ a η with
    | none => none
    | some (x, η1) => match evOs Γ as η1 with
      | none => none
      | some (xs, η2) => some (x :: xs, η2) := by
  (rw [evOs]) <;> rfl
@[simp] theorem finO_o {i : Nat} {d : Dv} : finO (.o i) d η = (ownL η i).map .lst := rfl
@[simp] theorem finO_e {x : Ex} {d : Dv} : finO (.e x) d η = some d := rfl
@[simp] theorem finOs_nil : finOs .nil [] η = some [] := rfl
@[simp] theorem finOs_cons {a : Op} {as : Ops} {d : Dv} {ds : List Dv} : finOs (.cons a as) (d :: ds) η = match finO a d η, finOs as ds η with
    | some x, some xs => some (x :: xs)
    | _, _ => none := rfl
@[simp] theorem evS_set {tg : Tg} {e : Ex} : evS Γ fu (.set tg e) η = match evE Γ e η with
    | none => none
    | some (d, η1) => (setTg tg d η1).map (.nx, ·) := by
  (rw [evS]) <;> rfl
@[simp] theorem evS_own {i : Nat} {e : Ex} : evS Γ fu (.own i e) η = match evE Γ e η with
    | some (.lst xs, η1) => if free η1 i then some (.nx, η1.set i (.lst false xs)) else none
    | _ => none := by
  (rw [evS]) <;> rfl
@[simp] theorem evS_par {ts : List (Nat × Bool)} {es : List Ex} : evS Γ fu (.par ts es) η = match runL (evTs Γ es) η with
    | none => none
    | some (ds, η1) => (setPar ts ds η1).map (.nx, ·) := by
  (rw [evS]) <;> rfl
@[simp] theorem evS_aug {i : Nat} {o : Operator} {e : Ex} : evS Γ fu (.aug i o e) η = match η[i]? with
    | some (.dat d) => match evE Γ e η with
      | none => none
      | some (x, η1) => (augD o d x).map fun r => (.nx, η1.set i (.dat r))
    | _ => none := by
  (rw [evS]) <;> rfl
@[simp] theorem evS_app {i : Nat} {e : Ex} : evS Γ fu (.app i e) η = match η[i]? with
    | some (.lst _ _) => match evE Γ e η with
      | none => none
      | some (x, η1) => match η1[i]? with
        | some (.lst br xs) => if decide (xs.length < 16777216) then some (.nx, η1.set i (.lst br (xs ++ [x]))) else none
        | _ => none
    | _ => none := by
  (rw [evS]) <;> rfl
@[simp] theorem evS_dnew {i : Nat} : evS Γ fu (.dnew i) η = if free η i then some (.nx, η.set i (.dic [])) else none := by rw [evS]
@[simp] theorem evS_dput {i : Nat} {k e : Ex} : evS Γ fu (.dput i k e) η = match evE Γ e η with
    | none => none
    | some (x, η1) => match dicL η1 i with
      | none => none
      | some _ => match evE Γ k η1 with
        | none => none
        | some (d, η2) => match tkey d, dicL η2 i with
          | some kk, some kvs => if decide (kvs.length < 16777216) then some (.nx, η2.set i (.dic (dstore kk d x kvs))) else none
          | _, _ => none := by
  (rw [evS]) <;> rfl
@[simp] theorem evS_ex {e : Ex} : evS Γ fu (.ex e) η = (evE Γ e η).map fun r => (.nx, r.2) := by rw [evS]
@[simp] theorem evS_ret {e : Ex} : evS Γ fu (.ret e) η = (evE Γ e η).map fun r => (.ret r.1, r.2) := by rw [evS]
@[simp] theorem evS_retN : evS Γ fu .retN η = some (.ret .non, η) := by rw [evS]
@[simp] theorem evS_ite {c : Ex} {a b : Sms} : evS Γ fu (.ite c a b) η = match evE Γ c η with
    | some (.bl true, η1) => evSs Γ fu a η1
    | some (.bl false, η1) => evSs Γ fu b η1
    | _ => none := by
  (rw [evS]) <;> rfl
@[simp] theorem evS_brk : evS Γ fu .brk η = some (.bk, η) := by rw [evS]
@[simp] theorem evS_cont : evS Γ fu .cont η = some (.ct, η) := by rw [evS]
@[simp] theorem evS_pass : evS Γ fu .pass η = some (.nx, η) := by rw [evS]
@[simp] theorem evSs_nil : evSs Γ fu .nil η = some (.nx, η) := by rw [evSs]
@[simp] theorem evSs_cons {s : Sm} {ss : Sms} : evSs Γ fu (.cons s ss) η = match evS Γ fu s η with
    | some (.nx, η1) => evSs Γ fu ss η1
    | r => r := by
  (rw [evSs]) <;> rfl
theorem comp_eq {elt : Ex} {tg : Tg} {it : It} {own : List Nat} {ds xs : List Dv} {η1 η2 η3 : CF.Env} (h1 : evI Γ it η = some (ds, η1)) (h2 : noOwn η1 own = true) (h3 : compL (testL []) (evE Γ elt) tg own ds [] (wipeE η1 own) = some (xs, η2)) (h4 : unwipe η1 η2 own = η3) : evE Γ (.comp elt tg it [] own) η = some (.lst xs, η3) := by
  rw [evE, h1]
  simp only [h2, evTs, h3, h4, if_true]
theorem for_eq {tg : Tg} {it : It} {b : Sms} {ds : List Dv} {η1 : CF.Env} {r : Option (Fl × CF.Env)} (h1 : evI Γ it η = some (ds, η1)) (h2 : forL tg (evSs Γ fu b) ds η1 = r) : evS Γ fu (.for_ tg it b) η = r := by
  rw [evS, h1]
  exact h2
theorem seq_eq {x : Ex} {d : Dv} {ds : List Dv} {η1 : CF.Env} (h1 : evE Γ x η = some (d, η1)) (h2 : itOf d = some ds) : evI Γ (.seq (.e x)) η = some (ds, η1) := by
  rw [evI, evO, h1]
  simp only [h2, Option.map_some]
theorem run_ret {n : Nat} {br : List Bool} {b : Sms} {args : List Dv} {η1 : CF.Env} {d : Dv} {outs : List (List Dv)} (h0 : initE br args = some η) (h1 : evSs Γ fu b (η ++ List.replicate (n - η.length) .no) = some (.ret d, η1)) (h2 : outsE br η1 = some outs) : runFn Γ fu n br b args = some (d, outs) := by
  simp only [runFn, h0, h1, h2, Option.map_some]
theorem run_nx {n : Nat} {br : List Bool} {b : Sms} {args : List Dv} {η1 : CF.Env} {outs : List (List Dv)} (h0 : initE br args = some η) (h1 : evSs Γ fu b (η ++ List.replicate (n - η.length) .no) = some (.nx, η1)) (h2 : outsE br η1 = some outs) : runFn Γ fu n br b args = some (.non, outs) := by
  simp only [runFn, h0, h1, h2, Option.map_some]
end
theorem kbs_nil {K : PySem.W.Frag} {x qual : Str} {st : Stmt} {f : Addr} {fd : FuncData} {ps : List Str} (_ : Fun K x qual st f fd) : ∀ ks ∈ ([] : List (List Str)), KB K fd ps ks := fun _ h => (List.not_mem_nil h).elim
theorem kbs_cons {K : PySem.W.Frag} {fd : FuncData} {ps ks : List Str} {kss : List (List Str)} (h : KB K fd ps ks) (t : ∀ k ∈ kss, KB K fd ps k) : ∀ k ∈ ks :: kss, KB K fd ps k := fun k hk => (List.mem_cons.mp hk).elim (fun e => e ▸ h) (t k)
theorem lit_m : Str.ofString "m" = ⟨#[109]⟩ := by decide +kernel
theorem lit_v : Str.ofString "v" = ⟨#[118]⟩ := by decide +kernel
theorem lit_o : Str.ofString "o" = ⟨#[111]⟩ := by decide +kernel
theorem lit_u : Str.ofString "u" = ⟨#[117]⟩ := by decide +kernel
theorem lit_e : Str.ofString "" = ⟨#[]⟩ := by decide +kernel
@[simp] theorem atI_0 {α : Type} (a : α) (l : List α) : L2.atI (a :: l) 0 = some a := L2.atI_nat (j := 0) rfl
@[simp] theorem atI_1 {α : Type} (a b : α) (l : List α) : L2.atI (a :: b :: l) 1 = some b := L2.atI_nat (j := 1) rfl
@[simp] theorem atI_2 {α : Type} (a b c : α) (l : List α) : L2.atI (a :: b :: c :: l) 2 = some c := L2.atI_nat (j := 2) rfl
@[simp] theorem atI_3 {α : Type} (a b c d : α) (l : List α) : L2.atI (a :: b :: c :: d :: l) 3 = some d := L2.atI_nat (j := 3) rfl
@[simp] theorem sign_beq {a b : Nat} : ((⟨#[a]⟩ : Str) == ⟨#[b]⟩) = (a == b) := by
  by_cases h : a = b
  · subst h
    simp
  · rw [beq_eq_false_iff_ne.mpr h, beq_eq_false_iff_ne]
    intro e
    injection e with e
    injection e with e
    injection e with e
    exact h e
/-- a comprehension without tests: its element leaves the slots as they were -/
theorem compL_map {α : Type} {elt : Env → Option (Dv × Env)} {tg : Tg} {own : List Nat} {f g : α → Dv} {η : Env} (P : α → Prop) (step : ∀ a, P a → ∃ η1 η3, setTg tg (f a) η = some η1 ∧ elt η1 = some (g a, η3) ∧ noOwn η3 own = true ∧ wipeE η3 own = η) :
    ∀ (l : List α) (acc : List Dv), (∀ a ∈ l, P a) → acc.length + l.length ≤ 16777216 → compL (testL []) elt tg own (l.map f) acc η = some (acc ++ l.map g, η)
  | [], acc, _, _ => by simp [compL]
  | a :: l, acc, hp, hl => by
    obtain ⟨η1, η3, h1, h2, h3, h4⟩ := step a (hp a List.mem_cons_self)
    rw [List.length_cons] at hl
    have ih := compL_map P step l (acc ++ [g a]) (fun b hb => hp b (List.mem_cons_of_mem _ hb)) (by rw [List.length_append, List.length_singleton]; omega)
    have hlt : acc.length < 16777216 := by omega
    have ht : testL [] = fun η : CF.Env => some (true, η) := rfl
    rw [List.append_assoc] at ih
    rw [ht] at ih ⊢
    simp only [List.map_cons, compL, h1, h2, h3, h4]
    simp only [hlt, decide_true, Bool.and_true, if_true]
    exact ih
/-- a comprehension that draws: what holds before each element -/
theorem compL_st {elt : Env → Option (Dv × Env)} {tg : Tg} {own : List Nat} (P : Nat → Env → Prop) (Q : Nat → Dv → Prop) :
    ∀ (ds : List Dv) (n : Nat) (acc : List Dv) (η : Env), (∀ k η d, n ≤ k → ds[k - n]? = some d → P k η → ∃ η1 x η3, setTg tg d η = some η1 ∧ elt η1 = some (x, η3) ∧ noOwn η3 own = true ∧ P (k + 1) (wipeE η3 own) ∧ Q k x) → P n η → acc.length + ds.length ≤ 16777216 →
      ∃ xs η', compL (testL []) elt tg own ds acc η = some (acc ++ xs, η') ∧ P (n + ds.length) η' ∧ xs.length = ds.length ∧ ∀ i x, xs[i]? = some x → Q (n + i) x
  | [], n, acc, η, _, h, _ => ⟨[], η, by simp [compL], h, rfl, fun i x h => by simp at h⟩
  | d :: ds, n, acc, η, step, h, hl => by
    obtain ⟨η1, x, η3, h1, h2, h3, h4, h5⟩ := step n η d (Nat.le_refl _) (by simp) h
    rw [List.length_cons] at hl
    obtain ⟨xs, η', e, p, l, q⟩ := compL_st P Q ds (n + 1) (acc ++ [x]) (wipeE η3 own) (fun k η0 d0 hk hd hp => step k η0 d0 (by omega) (by rw [show k - n = (k - (n + 1)) + 1 from by omega, List.getElem?_cons_succ]; exact hd) hp) h4 (by rw [List.length_append, List.length_singleton]; omega)
    have hlt : acc.length < 16777216 := by omega
    have ht : testL [] = fun η : CF.Env => some (true, η) := rfl
    refine ⟨x :: xs, η', ?_, ?_, by rw [List.length_cons, List.length_cons, l], ?_⟩
    · rw [List.append_assoc] at e
      rw [ht] at e ⊢
      simp only [compL, h1, h2, h3]
      simp only [hlt, decide_true, Bool.and_true, if_true]
      exact e
    · rw [List.length_cons, show n + (ds.length + 1) = n + 1 + ds.length from by omega]
      exact p
    · intro i y hy
      cases i with
      | zero =>
        simp only [List.getElem?_cons_zero, Option.some.injEq] at hy
        subst hy
        exact h5
      | succ i =>
        rw [List.getElem?_cons_succ] at hy
        rw [show n + (i + 1) = n + 1 + i from by omega]
        exact q i y hy
/-- a loop that goes through all -/
theorem forL_st {tg : Tg} {body : Env → Option (Fl × Env)} (P : Nat → Env → Prop) :
    ∀ (ds : List Dv) (n : Nat) (η : Env), (∀ k η d, n ≤ k → ds[k - n]? = some d → P k η → ∃ η1 η2, setTg tg d η = some η1 ∧ (body η1 = some (.nx, η2) ∨ body η1 = some (.ct, η2)) ∧ P (k + 1) η2) → P n η → ∃ η', forL tg body ds η = some (.nx, η') ∧ P (n + ds.length) η'
  | [], n, η, _, h => ⟨η, by simp [forL], h⟩
  | d :: ds, n, η, step, h => by
    obtain ⟨η1, η2, h1, h2, h3⟩ := step n η d (Nat.le_refl _) (by simp) h
    obtain ⟨η', e, p⟩ := forL_st P ds (n + 1) η2 (fun k η0 d0 hk hd hp => step k η0 d0 (by omega) (by rw [show k - n = (k - (n + 1)) + 1 from by omega, List.getElem?_cons_succ]; exact hd) hp) h3
    refine ⟨η', ?_, ?_⟩
    · rcases h2 with h2 | h2 <;> simp only [forL, h1, h2] <;> exact e
    · rw [List.length_cons, show n + (ds.length + 1) = n + 1 + ds.length from by omega]
      exact p
theorem blsOf_map (f : α → Bool) : ∀ l : List α, blsOf (l.map fun a => Dv.bl (f a)) = some (l.map f)
  | [] => rfl
  | a :: l => by rw [List.map_cons, blsOf, blsOf_map f l, List.map_cons]; rfl
theorem allD_map (f : α → Bool) (l : List α) : allD (.lst (l.map fun a => Dv.bl (f a))) = some (.bl (l.all f)) := by
  simp [allD, lstOf, blsOf_map, List.all_map]
theorem strsOf_map (f : α → Str) : ∀ l : List α, strsOf (l.map fun a => Dv.str (f a)) = some (l.map f)
  | [] => rfl
  | a :: l => by rw [List.map_cons, strsOf, strsOf_map f l, List.map_cons]; rfl
/-- texts of single signs joined -/
theorem join_signs (f : α → Nat) (l : List α) : Txt.join (⟨#[]⟩ : Str) (l.map fun a => ⟨#[f a]⟩) = ⟨(l.map f).toArray⟩ := by
  rw [TL.join_eq]
  induction l with
  | nil => rfl
  | cons a l ih =>
    cases l with
    | nil => rfl
    | cons b l =>
      have e : Str.join (⟨#[]⟩ : Str) ((a :: b :: l).map fun a => (⟨#[f a]⟩ : Str)) = (⟨#[f a]⟩ : Str) ++ (⟨#[]⟩ : Str) ++ Str.join (⟨#[]⟩ : Str) ((b :: l).map fun a => (⟨#[f a]⟩ : Str)) := rfl
      rw [e, ih]
      show Str.append (Str.append ⟨#[f a]⟩ ⟨#[]⟩) ⟨((b :: l).map f).toArray⟩ = _
      simp [Str.append]
theorem sum_ones (l : List α) (f : α → Nat) : ((l.map fun a => (⟨#[f a]⟩ : Str)).map (·.length)).sum = l.length := by
  induction l with
  | nil => rfl
  | cons a l ih =>
    rw [List.map_cons, List.map_cons, List.sum_cons, ih, List.length_cons]
    show 1 + l.length = _
    omega
end CF

set_option Elab.async false
set_option linter.all false
set_option maxRecDepth 100000
namespace CF
open PySem L2 K61
def wch (b : Bool) : Nat := if b then 118 else 109
def tch (b : Bool) : Nat := if b then 111 else 117
def wt (w : List Bool) : Str := ⟨(w.map wch).toArray⟩
def tx (w : List Bool) : Str := ⟨(w.map tch).toArray⟩
theorem wt_len (w : List Bool) : (wt w).length = w.length := by simp [wt, Str.length]
theorem tx_len (w : List Bool) : (tx w).length = w.length := by simp [tx, Str.length]
theorem it_wt (w : List Bool) : itOf (.str (wt w)) = some (w.map fun b => .str ⟨#[wch b]⟩) := by simp [itOf, wt]
theorem it_tx (w : List Bool) : itOf (.str (tx w)) = some (w.map fun b => .str ⟨#[tch b]⟩) := by simp [itOf, tx]
def pt (p : Pt) : Dv := .tup [.int p.1, .int p.2]
theorem is_word_eq {w : List Bool} (h : w.length ≤ 100000) : r_is_word [.str (wt w), .int w.length] = some (.bl true, []) := by
  have hs : short w.length = true := by simp [short]; omega
  have hc : evE (tab []) (.comp (.pr (.cmp .In) (.cons (.e (.var 2)) (.cons (.e (.pr .tup (.cons (.e (.glb "MOUNTAIN" (.str "m"))) (.cons (.e (.glb "VALLEY" (.str "v"))) .nil)))) .nil))) (.n 2) (.seq (.e (.var 0))) [] [2]) [.dat (.str (wt w)), .dat (.int w.length), .no] = some (.lst (w.map fun b => .bl true), [.dat (.str (wt w)), .dat (.int w.length), .no]) := by
    refine comp_eq (η1 := [.dat (.str (wt w)), .dat (.int w.length), .no]) (η2 := [.dat (.str (wt w)), .dat (.int w.length), .no]) (seq_eq (d := .str (wt w)) (by simp [rdVar]) (it_wt w)) (by simp [noOwn, SV.own]) ?_ rfl
    refine compL_map (fun _ => True) (fun b _ => ?_) w [] (fun _ _ => trivial) (by simp; omega)
    refine ⟨[.dat (.str (wt w)), .dat (.int w.length), .dat (.str ⟨#[wch b]⟩)], [.dat (.str (wt w)), .dat (.int w.length), .dat (.str ⟨#[wch b]⟩)], by simp [wipeE, setTg, free], ?_, by simp [noOwn, SV.own], by simp [wipeE]⟩
    cases b <;> simp [rdVar, cstD, prD, prS, pr2, cmpD, inQ, inD, Dv.plain, Dv.plains, Dv.depth, Dv.depths, Dv.beq, lit_m, lit_v, wch, short]
  have ha : allD (.lst (w.map fun _ => Dv.bl true)) = some (.bl true) := by
    rw [allD_map (fun _ => true)]
    simp
  simp [r_is_word, runFn, b_is_word, initE, rdVar, prD, prS, pr1, pr2, isiD, isTy, lenD, wt_len, hs, cmpD, eqD, Dv.plain, Dv.depth, Dv.beq, hc, ha, outsE]
theorem look_word_eq {w : List Bool} (h : w.length ≤ 1023) : r_look_at_long_word [.str (wt w)] = some (.non, []) := by
  have hs : short w.length = true := by simp [short]; omega
  have h1 := is_word_eq (w := w) (by omega)
  have h2 : ¬ (1023 : Int) < w.length := by omega
  simp [r_look_at_long_word, runFn, b_look_at_long_word, initE, rdVar, cstD, prD, prS, pr1, pr2, isiD, isTy, lenD, wt_len, hs, cmpD, orD, tab, h1, backOs, h2, outsE]
theorem look_turns_eq {w : List Bool} (h : w.length ≤ 10) : r_look_at_turns [.str (tx w)] = some (.non, []) := by
  have hs : short w.length = true := by simp [short]; omega
  have hc : evE (tab []) (.comp (.pr (.cmp .In) (.cons (.e (.var 1)) (.cons (.e (.pr .tup (.cons (.e (.glb "OVER" (.str "o"))) (.cons (.e (.glb "UNDER" (.str "u"))) .nil)))) .nil))) (.n 1) (.seq (.e (.var 0))) [] [1]) [.dat (.str (tx w)), .no] = some (.lst (w.map fun b => .bl true), [.dat (.str (tx w)), .no]) := by
    refine comp_eq (η1 := [.dat (.str (tx w)), .no]) (η2 := [.dat (.str (tx w)), .no]) (seq_eq (d := .str (tx w)) (by simp [rdVar]) (it_tx w)) (by simp [noOwn, SV.own]) ?_ rfl
    refine compL_map (fun _ => True) (fun b _ => ?_) w [] (fun _ _ => trivial) (by simp; omega)
    refine ⟨[.dat (.str (tx w)), .dat (.str ⟨#[tch b]⟩)], [.dat (.str (tx w)), .dat (.str ⟨#[tch b]⟩)], by simp [wipeE, setTg, free], ?_, by simp [noOwn, SV.own], by simp [wipeE]⟩
    cases b <;> simp [rdVar, cstD, prD, prS, pr2, cmpD, inQ, inD, Dv.plain, Dv.plains, Dv.depth, Dv.depths, Dv.beq, lit_o, lit_u, tch, short]
  have ha : allD (.lst (w.map fun _ => Dv.bl true)) = some (.bl true) := by
    rw [allD_map (fun _ => true)]
    simp
  have h2 : ¬ (10 : Int) < w.length := by omega
  simp [r_look_at_turns, runFn, b_look_at_turns, initE, rdVar, cstD, prD, prS, pr1, pr2, isiD, isTy, lenD, tx_len, hs, cmpD, orD, h2, hc, ha, outsE]
theorem letter_eq (b : Bool) : r_letter_of [.str ⟨#[tch b]⟩] = some (.str ⟨#[wch b]⟩, []) := by
  cases b <;> simp [r_letter_of, runFn, b_letter_of, initE, rdVar, cstD, prD, prS, pr2, cmpD, eqD, Dv.plain, Dv.depth, Dv.beq, lit_o, lit_u, lit_m, lit_v, tch, wch, outsE]
theorem other_eq (b : Bool) : r_other_letter [.str ⟨#[wch b]⟩] = some (.str ⟨#[wch (!b)]⟩, []) := by
  cases b <;> simp [r_other_letter, runFn, b_other_letter, initE, rdVar, cstD, prD, prS, pr2, cmpD, eqD, Dv.plain, Dv.depth, Dv.beq, lit_m, lit_v, wch, outsE]
end CF

set_option Elab.async false
set_option linter.all false
set_option maxRecDepth 100000
namespace CF
open PySem L2 K61
def fr (s : SV) : Bool := match s with
  | .lst true _ => false
  | _ => true
theorem fr_free {x : SV} (h : fr x = true) : free [x] 0 = true := by
  cases x with
  | lst br xs => cases br <;> first | rfl | cases h
  | _ => rfl
def pth (w : List Bool) : List Dv := (pts (e0 w)).map pt
theorem pth_len (w : List Bool) : (pth w).length = w.length + 2 := by
  have : ∀ (w : List Bool) (p d : Pt), (eds p d w).length = w.length + 1 := by
    intro w
    induction w with
    | nil => intro p d; rfl
    | cons l r ih => intro p d; rw [eds, List.length_cons, ih, List.length_cons]
  simp [pth, pts, e0, this]
def fTp : Sms := match b_told_path with
  | .cons _ (.cons (.for_ _ _ b) _) => b
  | _ => .nil
theorem told_loop {s : Dv} : ∀ (w : List Bool) (p d : Pt) (acc : List Dv) (l : SV), fr l = true → acc.length + w.length ≤ 1000000 →
    ∃ l' d', forL (.n 1) (evSs (tab []) 0 fTp) (w.map fun b => .str ⟨#[wch b]⟩) [.dat s, l, .lst false (acc ++ [pt (add p d)]), .dat (pt d)] = some (.nx, [.dat s, l', .lst false (acc ++ ((eds p d w).map to).map pt), .dat (pt d')])
  | [], p, d, acc, l, _, _ => ⟨l, d, by simp [forL, eds, to]⟩
  | b :: w, p, d, acc, l, hl, hn => by
    rw [List.length_cons] at hn
    obtain ⟨l', d', e⟩ := told_loop (s := s) w (add p d) (trn b d) (acc ++ [pt (add p d)]) (.dat (.str ⟨#[wch b]⟩)) rfl (by rw [List.length_append, List.length_singleton]; omega)
    refine ⟨l', d', ?_⟩
    have hs : free [.dat s, l, .lst false (acc ++ [pt (add p d)]), .dat (pt d)] 1 = true := by
      cases l with
      | lst br xs => cases br <;> first | rfl | cases hl
      | _ => rfl
    have hlt : acc.length + 1 < 16777216 := by omega
    rw [List.map_cons, forL]
    simp only [setTg, hs, if_true, List.set]
    have hb : evSs (tab []) 0 fTp [.dat s, .dat (.str ⟨#[wch b]⟩), .lst false (acc ++ [pt (add p d)]), .dat (pt d)] = some (.nx, [.dat s, .dat (.str ⟨#[wch b]⟩), .lst false ((acc ++ [pt (add p d)]) ++ [pt (add (add p d) (trn b d))]), .dat (pt (trn b d))]) := by
      have hlast : L2.atI (acc ++ [pt (add p d)]) (-1) = some (pt (add p d)) := L2.atI_last _ _
      cases b <;> simp [fTp, b_told_path, rdVar, cstD, prD, prS, pr1, pr2, cmpD, eqD, Dv.plain, Dv.depth, Dv.beq, lit_v, wch, ownL, ixD, hlast, negD, binD, pt, add, trn, short, setTg, free, hlt] at hlast ⊢
    rw [hb]
    simp only [eds, List.map_cons]
    rw [show acc ++ pt (to (p, d)) :: List.map pt (List.map to (eds (add p d) (trn b d) w)) = (acc ++ [pt (add p d)]) ++ List.map pt (List.map to (eds (add p d) (trn b d) w)) from by simp [to]]
    exact e
theorem told_path_eq {w : List Bool} (h : w.length ≤ 100000) : r_told_path [.str (wt w)] = some (.lst (pth w), []) := by
  obtain ⟨l', d', e⟩ := told_loop (s := .str (wt w)) w (0, 0) (1, 0) [pt (0, 0)] .no rfl (by simp; omega)
  have hf : evS (tab []) 0 (.for_ (.n 1) (.seq (.e (.var 0))) fTp) [.dat (.str (wt w)), .no, .lst false ([pt (0, 0)] ++ [pt (add (0, 0) (1, 0))]), .dat (pt (1, 0))] = some (.nx, [.dat (.str (wt w)), l', .lst false ([pt (0, 0)] ++ ((eds (0, 0) (1, 0) w).map to).map pt), .dat (pt d')]) := for_eq (seq_eq (d := .str (wt w)) (by simp [rdVar]) (it_wt w)) e
  have hb : b_told_path = .cons (.par [(2, true), (3, false)] [(.pr .lst (.cons (.e (.pr .tup (.cons (.e (.cst (.int 0))) (.cons (.e (.cst (.int 0))) .nil)))) (.cons (.e (.pr .tup (.cons (.e (.cst (.int 1))) (.cons (.e (.cst (.int 0))) .nil)))) .nil))), (.pr .tup (.cons (.e (.cst (.int 1))) (.cons (.e (.cst (.int 0))) .nil)))]) (.cons (.for_ (.n 1) (.seq (.e (.var 0))) fTp) (.cons (.ret (.var 2)) .nil)) := rfl
  have hp : [pt (0, 0)] ++ ((eds (0, 0) (1, 0) w).map to).map pt = pth w := by simp [pth, pts, e0]
  rw [hp] at hf
  simp [pt, add] at hf
  refine run_ret (η := [.dat (.str (wt w))]) (η1 := [.dat (.str (wt w)), l', .dat (.lst (pth w)), .dat (pt d')]) rfl ?_ rfl
  rw [hb]
  simp [runL, evTs, setPar, prD, cstD, short, free, hf, rdVar]
  rfl
def dir (k : Nat) : Pt := match k with
  | 0 => (1, 0)
  | 1 => (0, 1)
  | 2 => (-1, 0)
  | _ => (0, -1)
def fLp : Sms := match b__law_path with
  | .cons _ (.cons (.for_ _ _ b) _) => b
  | _ => .nil
theorem law_loop {s : Dv} : ∀ (w : List Bool) (p : Pt) (k : Nat) (acc : List Dv) (l x y : SV), k < 4 → fr l = true → fr x = true → fr y = true → acc.length + w.length ≤ 1000000 →
    ∃ l' d' x' y', forL (.n 1) (evSs (tab []) 0 fLp) (w.map fun b => .str ⟨#[wch b]⟩) [.dat s, l, .lst false (acc ++ [pt (add p (dir k))]), .dat (.int k), x, y] = some (.nx, [.dat s, l', .lst false (acc ++ ((eds p (dir k) w).map to).map pt), d', x', y'])
  | [], p, k, acc, l, x, y, _, _, _, _, _ => ⟨l, _, x, y, by simp [forL, eds, to]; rfl⟩
  | b :: w, p, k, acc, l, x, y, hk, hl, hx, hy, hn => by
    rw [List.length_cons] at hn
    have hd : trn b (dir k) = dir ((k + if b then 1 else 3) % 4) := by
      have : k = 0 ∨ k = 1 ∨ k = 2 ∨ k = 3 := by omega
      rcases this with rfl | rfl | rfl | rfl <;> cases b <;> decide
    obtain ⟨l', d', x', y', e⟩ := law_loop (s := s) w (add p (dir k)) ((k + if b then 1 else 3) % 4) (acc ++ [pt (add p (dir k))]) (.dat (.str ⟨#[wch b]⟩)) (.dat (.int (add p (dir k)).1)) (.dat (.int (add p (dir k)).2)) (Nat.mod_lt _ (by decide)) rfl rfl rfl (by rw [List.length_append, List.length_singleton]; omega)
    refine ⟨l', d', x', y', ?_⟩
    have hs : free [.dat s, l, .lst false (acc ++ [pt (add p (dir k))]), .dat (.int k), x, y] 1 = true := by
      cases l with
      | lst br xs => cases br <;> first | rfl | cases hl
      | _ => rfl
    have hx' := fr_free hx
    have hy' := fr_free hy
    simp only [free, List.getElem?_cons_zero] at hx' hy'
    have hlt : acc.length + 1 < 16777216 := by omega
    rw [List.map_cons, forL]
    simp only [setTg, hs, if_true, List.set]
    have hb : evSs (tab []) 0 fLp [.dat s, .dat (.str ⟨#[wch b]⟩), .lst false (acc ++ [pt (add p (dir k))]), .dat (.int k), x, y] = some (.nx, [.dat s, .dat (.str ⟨#[wch b]⟩), .lst false ((acc ++ [pt (add p (dir k))]) ++ [pt (add (add p (dir k)) (trn b (dir k)))]), .dat (.int (((k + if b then 1 else 3) % 4 : Nat) : Int)), .dat (.int (add p (dir k)).1), .dat (.int (add p (dir k)).2)]) := by
      have hlast : L2.atI (acc ++ [pt (add p (dir k))]) (-1) = some (pt (add p (dir k))) := L2.atI_last _ _
      generalize hq : add p (dir k) = q at hlast ⊢
      obtain ⟨q1, q2⟩ := q
      rw [hd]
      have : k = 0 ∨ k = 1 ∨ k = 2 ∨ k = 3 := by omega
      rcases this with rfl | rfl | rfl | rfl <;> cases b <;> simp [fLp, b__law_path, rdVar, cstD, prD, prS, pr1, pr2, cmpD, eqD, Dv.plain, Dv.depth, Dv.beq, lit_v, wch, ownL, ixD, hlast, negD, binD, pt, add, dir, short, setTg, free, hlt, hx', hy'] at hlast ⊢
      all_goals omega

    rw [hb]
    simp only [eds, List.map_cons]
    rw [show acc ++ pt (to (p, dir k)) :: List.map pt (List.map to (eds (add p (dir k)) (trn b (dir k)) w)) = (acc ++ [pt (add p (dir k))]) ++ List.map pt (List.map to (eds (add p (dir k)) (trn b (dir k)) w)) from by simp [to]]
    rw [hd] at *
    exact e
theorem law_path_eq {w : List Bool} (h : w.length ≤ 100000) : r__law_path [.str (wt w)] = some (.lst (pth w), []) := by
  obtain ⟨l', d', x', y', e⟩ := law_loop (s := .str (wt w)) w (0, 0) 0 [pt (0, 0)] .no .no .no (by decide) rfl rfl rfl (by simp; omega)
  have hf : evS (tab []) 0 (.for_ (.n 1) (.seq (.e (.var 0))) fLp) [.dat (.str (wt w)), .no, .lst false ([pt (0, 0)] ++ [pt (add (0, 0) (dir 0))]), .dat (.int (0 : Nat)), .no, .no] = some (.nx, [.dat (.str (wt w)), l', .lst false ([pt (0, 0)] ++ ((eds (0, 0) (dir 0) w).map to).map pt), d', x', y']) := for_eq (seq_eq (d := .str (wt w)) (by simp [rdVar]) (it_wt w)) e
  have hb : b__law_path = .cons (.par [(2, true), (3, false)] [(.pr .lst (.cons (.e (.pr .tup (.cons (.e (.cst (.int 0))) (.cons (.e (.cst (.int 0))) .nil)))) (.cons (.e (.pr .tup (.cons (.e (.cst (.int 1))) (.cons (.e (.cst (.int 0))) .nil)))) .nil))), (.cst (.int 0))]) (.cons (.for_ (.n 1) (.seq (.e (.var 0))) fLp) (.cons (.ret (.var 2)) .nil)) := rfl
  have hp : [pt (0, 0)] ++ ((eds (0, 0) (dir 0) w).map to).map pt = pth w := by simp [pth, pts, e0, dir]
  rw [hp] at hf
  simp [pt, add, dir] at hf
  refine run_ret (η := [.dat (.str (wt w))]) (η1 := [.dat (.str (wt w)), l', .dat (.lst (pth w)), d', x', y']) rfl ?_ rfl
  rw [hb]
  simp [runL, evTs, setPar, prD, cstD, short, free, hf, rdVar]
theorem path_of_eq {w : List Bool} (h : w.length ≤ 1023) : r_path_of [.str (wt w)] = some (.tup (pth w), []) := by
  simp [r_path_of, runFn, b_path_of, initE, rdVar, tab, look_word_eq h, told_path_eq (w := w) (by omega), backOs, prD, prS, pr1, seqOf, outsE]
end CF

set_option Elab.async false
set_option linter.all false
set_option maxRecDepth 100000
namespace CF
open PySem L2 K61
def T (l : List Nat) : Str := ⟨l.toArray⟩
theorem T_len (l : List Nat) : (T l).length = l.length := by simp [T, Str.length]
theorem T_cat (a b : List Nat) : T a ++ T b = T (a ++ b) := by
  show Str.append _ _ = _
  simp [T, Str.append]
theorem rfn_len : ∀ (s : Bool) (w : List Bool), (rfn s w).length = 2 * w.length + 1
  | s, [] => rfl
  | s, o :: r => by rw [rfn, List.length_cons, List.length_cons, rfn_len, List.length_cons]; omega
def fHi : Sms := match b_told_halved with
  | .cons _ (.cons (.for_ _ _ (.cons _ (.cons (.for_ _ _ b) _))) _) => b
  | _ => .nil
def gH : Tab := tab [r_other_letter, r_letter_of]
theorem half_in {t w tu : Dv} : ∀ (ws : List Bool) (s : Bool) (A : List Nat) (o : SV), fr o = true → A.length + 2 * ws.length + 1 ≤ 100000 →
    ∃ o' l', fr o' = true ∧ fr l' = true ∧ forL (.n 3) (evSs gH 0 fHi) (ws.map (fun b => Dv.str ⟨#[wch b]⟩) ++ [.str ⟨#[]⟩]) [.dat t, .dat w, .dat tu, o, .dat (.str (T A)), .dat (.str ⟨#[wch s]⟩)] = some (.nx, [.dat t, .dat w, .dat tu, o', .dat (.str (T (A ++ (rfn s ws).map wch))), l'])
  | [], s, A, o, ho, hn => by
    have ho' := fr_free ho
    simp only [free, List.getElem?_cons_zero] at ho'
    have e1 : (⟨#[wch s]⟩ : Str) ++ (⟨#[]⟩ : Str) = T [wch s] := T_cat [wch s] []
    have h1 : (⟨#[wch s]⟩ : Str).length + (⟨#[]⟩ : Str).length ≤ 16777216 := by
      show 1 + 0 ≤ _
      omega
    have h2 : A.length + 1 ≤ 16777216 := by
      rw [List.length_nil] at hn
      omega
    have ho2 := other_eq s
    refine ⟨.dat (.str ⟨#[]⟩), .dat (.str ⟨#[wch (!s)]⟩), rfl, rfl, ?_⟩
    simp [forL, setTg, free, ho', fHi, b_told_halved, rdVar, prD, prS, pr2, binD, short, h1, e1, augD, T_len, T_cat, h2, gH, tab, ho2, backOs, rfn]
  | b :: ws, s, A, o, ho, hn => by
    rw [List.length_cons] at hn
    have ho' := fr_free ho
    simp only [free, List.getElem?_cons_zero] at ho'
    have e1 : (⟨#[wch s]⟩ : Str) ++ (⟨#[wch b]⟩ : Str) = T [wch s, wch b] := T_cat [wch s] [wch b]
    have h1 : (⟨#[wch s]⟩ : Str).length + (⟨#[wch b]⟩ : Str).length ≤ 16777216 := by
      show 1 + 1 ≤ _
      omega
    have h2 : A.length + 2 ≤ 16777216 := by omega
    have ho2 := other_eq s
    obtain ⟨o', l', fo, fl, e⟩ := half_in (t := t) (w := w) (tu := tu) ws (!s) (A ++ [wch s, wch b]) (.dat (.str ⟨#[wch b]⟩)) rfl (by rw [List.length_append, List.length_cons, List.length_singleton]; omega)
    refine ⟨o', l', fo, fl, ?_⟩
    rw [List.map_cons, List.cons_append, forL]
    have hb : evSs gH 0 fHi [.dat t, .dat w, .dat tu, .dat (.str ⟨#[wch b]⟩), .dat (.str (T A)), .dat (.str ⟨#[wch s]⟩)] = some (.nx, [.dat t, .dat w, .dat tu, .dat (.str ⟨#[wch b]⟩), .dat (.str (T (A ++ [wch s, wch b]))), .dat (.str ⟨#[wch (!s)]⟩)]) := by
      simp [setTg, free, ho', fHi, b_told_halved, rdVar, prD, prS, pr2, binD, short, h1, e1, augD, T_len, T_cat, h2, gH, tab, ho2, backOs]
    simp [setTg, free, ho', hb]
    rw [e]
    simp [rfn]
def fHo : Sms := match b_told_halved with
  | .cons _ (.cons (.for_ _ _ b) _) => b
  | _ => .nil
theorem wt_T (w : List Bool) : wt w = T (w.map wch) := rfl
theorem half_out {t : Dv} : ∀ (ts w : List Bool) (a b c d : SV), fr a = true → fr b = true → fr c = true → fr d = true → (w.length + 1) * 2 ^ ts.length ≤ 40000 →
    ∃ a' b' c' d', forL (.n 2) (evSs gH 0 fHo) (ts.map fun b => .str ⟨#[tch b]⟩) [.dat t, .dat (.str (wt w)), a, b, c, d] = some (.nx, [.dat t, .dat (.str (wt (ts.foldl (fun w t => rfn t w) w))), a', b', c', d'])
  | [], w, a, b, c, d, _, _, _, _, _ => ⟨a, b, c, d, by simp [forL]⟩
  | x :: ts, w, a, b, c, d, ha, hb, hc, hd, hn => by
    have hn1 : (w.length + 1) * 2 ≤ 40000 := Nat.le_trans (Nat.mul_le_mul_left _ (by
      rw [List.length_cons, Nat.pow_succ]
      have : 0 < 2 ^ ts.length := Nat.pow_pos (by decide)
      omega)) hn
    have hn2 : ((rfn x w).length + 1) * 2 ^ ts.length ≤ 40000 := by
      rw [rfn_len]
      rw [List.length_cons, Nat.pow_succ] at hn
      have : (2 * w.length + 1 + 1) * 2 ^ ts.length = (w.length + 1) * (2 ^ ts.length * 2) := by
        rw [Nat.mul_comm (2 ^ ts.length) 2, ← Nat.mul_assoc]
        congr 1
        omega
      omega
    have hw : short (w.length + 1) = true := by simp [short]; omega
    have ha' := fr_free ha
    have hb' := fr_free hb
    have hc' := fr_free hc
    have hd' := fr_free hd
    simp only [free, List.getElem?_cons_zero] at ha' hb' hc' hd'
    obtain ⟨o', l', fo, fl, e⟩ := half_in (t := t) (w := .str (wt w)) (tu := .str ⟨#[tch x]⟩) w x [] b hb (by rw [List.length_nil]; omega)
    have hl := letter_eq x
    have hf : evS gH 0 (.for_ (.n 3) (.seq (.e (.pr (.lstS [true, false]) (.cons (.e (.var 1)) (.cons (.e (.cst (.str ""))) .nil))))) fHi) [.dat t, .dat (.str (wt w)), .dat (.str ⟨#[tch x]⟩), b, .dat (.str (T [])), .dat (.str ⟨#[wch x]⟩)] = some (.nx, [.dat t, .dat (.str (wt w)), .dat (.str ⟨#[tch x]⟩), o', .dat (.str (T ([] ++ (rfn x w).map wch))), l']) := by
      refine for_eq (seq_eq (d := .lst (w.map (fun b => Dv.str ⟨#[wch b]⟩) ++ [.str ⟨#[]⟩])) ?_ rfl) e
      simp [rdVar, cstD, prD, starD, it_wt, lit_e, hw]
    obtain ⟨a2, b2, c2, d2, ih⟩ := half_out (t := t) ts (rfn x w) (.dat (.str ⟨#[tch x]⟩)) o' (.dat (.str (wt (rfn x w)))) l' rfl fo rfl fl hn2
    refine ⟨a2, b2, c2, d2, ?_⟩
    rw [List.map_cons, forL]
    have hbo : evSs gH 0 fHo [.dat t, .dat (.str (wt w)), .dat (.str ⟨#[tch x]⟩), b, c, d] = some (.nx, [.dat t, .dat (.str (wt (rfn x w))), .dat (.str ⟨#[tch x]⟩), o', .dat (.str (wt (rfn x w))), l']) := by
      have hb : fHo = .cons (.par [(4, false), (5, false)] [(.cst (.str "")), (.call 1 (.cons (.e (.var 2)) .nil))]) (.cons (.for_ (.n 3) (.seq (.e (.pr (.lstS [true, false]) (.cons (.e (.var 1)) (.cons (.e (.cst (.str ""))) .nil))))) fHi) (.cons (.set (.n 1) (.var 4)) .nil)) := rfl
      have hg : gH 1 [.str ⟨#[tch x]⟩] = some (.str ⟨#[wch x]⟩, []) := hl
      rw [hb]
      have he : cstD (.str (Str.ofString "")) = some (.str ⟨#[]⟩) := by rw [lit_e]; rfl
      simp [runL, evTs, he, rdVar, hg, backOs, setPar, free, hc', hd']
      simp [T] at hf
      rw [hf]
      simp [rdVar, setTg, free, wt]
    simp [setTg, free, ha', hbo]
    exact ih
theorem hw_len : ∀ (ts w : List Bool), (ts.foldl (fun w t => rfn t w) w).length + 1 = (w.length + 1) * 2 ^ ts.length
  | [], w => by simp
  | t :: ts, w => by
    have h := hw_len ts (rfn t w)
    rw [rfn_len] at h
    rw [List.foldl_cons, h, List.length_cons, Nat.pow_succ, Nat.mul_comm (2 ^ ts.length) 2, ← Nat.mul_assoc]
    congr 1
    omega
theorem told_halved_eq {ts : List Bool} (h : ts.length ≤ 10) : r_told_halved [.str (tx ts)] = some (.str (wt (hw ts)), []) := by
  have hp : 2 ^ ts.length ≤ 2 ^ 10 := Nat.pow_le_pow_right (by decide) h
  obtain ⟨a', b', c', d', e⟩ := half_out (t := .str (tx ts)) ts [] .no .no .no .no rfl rfl rfl rfl (by simp; omega)
  have hf : evS gH 0 (.for_ (.n 2) (.seq (.e (.var 0))) fHo) [.dat (.str (tx ts)), .dat (.str (wt [])), .no, .no, .no, .no] = some (.nx, [.dat (.str (tx ts)), .dat (.str (wt (hw ts))), a', b', c', d']) := for_eq (seq_eq (d := .str (tx ts)) (by simp [rdVar]) (it_tx ts)) e
  have hb : b_told_halved = .cons (.set (.n 1) (.cst (.str ""))) (.cons (.for_ (.n 2) (.seq (.e (.var 0))) fHo) (.cons (.ret (.var 1)) .nil)) := rfl
  refine run_ret (η := [.dat (.str (tx ts))]) (η1 := [.dat (.str (tx ts)), .dat (.str (wt (hw ts))), a', b', c', d']) rfl ?_ rfl
  have he : cstD (.str (Str.ofString "")) = some (.str (wt [])) := by rw [lit_e]; rfl
  rw [hb]
  show evSs gH 0 _ [.dat (.str (tx ts)), .no, .no, .no, .no, .no] = _
  simp [he, setTg, free]
  rw [hf]
  simp [rdVar]
theorem halved_word_eq {ts : List Bool} (h : ts.length ≤ 10) : r_halved_word [.str (tx ts)] = some (.str (wt (hw ts)), []) := by
  simp [r_halved_word, runFn, b_halved_word, initE, rdVar, tab, look_turns_eq h, told_halved_eq h, backOs, outsE]
def fEo : Sms := match b_end_of with
  | .cons _ (.cons _ (.cons (.for_ _ _ b) _)) => b
  | _ => .nil
theorem end_loop {s : Dv} : ∀ (ts : List Bool) (p : Pt) (a : SV), fr a = true →
    ∃ a', forL (.n 1) (evSs (tab [r_look_at_turns]) 0 fEo) (ts.map fun b => .str ⟨#[tch b]⟩) [.dat s, a, .dat (.int p.1), .dat (.int p.2)] = some (.nx, [.dat s, a', .dat (.int (prod ts p).1), .dat (.int (prod ts p).2)])
  | [], p, a, _ => ⟨a, by simp [forL, prod]⟩
  | t :: ts, p, a, ha => by
    have ha' := fr_free ha
    simp only [free, List.getElem?_cons_zero] at ha'
    obtain ⟨a', e⟩ := end_loop (s := s) ts (cm t p) (.dat (.str ⟨#[tch t]⟩)) rfl
    refine ⟨a', ?_⟩
    have hb : evSs (tab [r_look_at_turns]) 0 fEo [.dat s, .dat (.str ⟨#[tch t]⟩), .dat (.int p.1), .dat (.int p.2)] = some (.nx, [.dat s, .dat (.str ⟨#[tch t]⟩), .dat (.int (cm t p).1), .dat (.int (cm t p).2)]) := by
      cases t <;> simp [fEo, b_end_of, rdVar, cstD, prD, prS, pr2, cmpD, eqD, Dv.plain, Dv.depth, Dv.beq, lit_o, tch, binD, short, setTg, free, cm]
      all_goals omega
    rw [List.map_cons, forL]
    simp [setTg, free, ha', hb]
    rw [e]
    rfl
theorem end_of_eq {ts : List Bool} (h : ts.length ≤ 10) : r_end_of [.str (tx ts)] = some (pt (prod ts (1, 0)), []) := by
  obtain ⟨a', e⟩ := end_loop (s := .str (tx ts)) ts (1, 0) .no rfl
  have hf : evS (tab [r_look_at_turns]) 0 (.for_ (.n 1) (.seq (.e (.var 0))) fEo) [.dat (.str (tx ts)), .no, .dat (.int 1), .dat (.int 0)] = some (.nx, [.dat (.str (tx ts)), a', .dat (.int (prod ts (1, 0)).1), .dat (.int (prod ts (1, 0)).2)]) := for_eq (seq_eq (d := .str (tx ts)) (by simp [rdVar]) (it_tx ts)) e
  have hb : b_end_of = .cons (.ex (.call 0 (.cons (.e (.var 0)) .nil))) (.cons (.set (.two (.n 2) (.n 3)) (.pr .tup (.cons (.e (.cst (.int 1))) (.cons (.e (.cst (.int 0))) .nil)))) (.cons (.for_ (.n 1) (.seq (.e (.var 0))) fEo) (.cons (.ret (.pr .tup (.cons (.e (.var 2)) (.cons (.e (.var 3)) .nil)))) .nil))) := rfl
  refine run_ret (η := [.dat (.str (tx ts))]) (η1 := [.dat (.str (tx ts)), a', .dat (.int (prod ts (1, 0)).1), .dat (.int (prod ts (1, 0)).2)]) rfl ?_ rfl
  rw [hb]
  have hg : tab [r_look_at_turns] 0 [.str (tx ts)] = some (.non, []) := look_turns_eq h
  simp [rdVar, hg, backOs, prD, cstD, short, setTg, free]
  rw [hf]
  simp [rdVar, pt]
def fPo : Sms := match b__law_product with
  | .cons _ (.cons (.for_ _ _ b) _) => b
  | _ => .nil
theorem prod_bound : ∀ (ts : List Bool) (p : Pt) (n : Nat), p.1.natAbs ≤ n → p.2.natAbs ≤ n → (prod ts p).1.natAbs ≤ n * 2 ^ ts.length ∧ (prod ts p).2.natAbs ≤ n * 2 ^ ts.length
  | [], p, n, h1, h2 => by simpa [prod] using ⟨h1, h2⟩
  | t :: ts, p, n, h1, h2 => by
    have h := prod_bound ts (cm t p) (n * 2) (by cases t <;> simp [cm] <;> omega) (by cases t <;> simp [cm] <;> omega)
    rw [List.length_cons, Nat.pow_succ, Nat.mul_comm (2 ^ ts.length) 2, ← Nat.mul_assoc]
    exact h
theorem product_loop {s : Dv} : ∀ (ts : List Bool) (p : Pt) (a q : SV) (n : Nat), fr a = true → fr q = true → p.1.natAbs ≤ n → p.2.natAbs ≤ n → n * 2 ^ ts.length ≤ 100000 →
    ∃ a' q', forL (.n 1) (evSs (tab []) 0 fPo) (ts.map fun b => .str ⟨#[tch b]⟩) [.dat s, a, .dat (.int p.1), .dat (.int p.2), q] = some (.nx, [.dat s, a', .dat (.int (prod ts p).1), .dat (.int (prod ts p).2), q'])
  | [], p, a, q, n, _, _, _, _, _ => ⟨a, q, by simp [forL, prod]⟩
  | t :: ts, p, a, q, n, ha, hq, h1, h2, hn => by
    have ha' := fr_free ha
    have hq' := fr_free hq
    simp only [free, List.getElem?_cons_zero] at ha' hq'
    have hn2 : n * 2 * 2 ^ ts.length ≤ 100000 := by
      rw [List.length_cons, Nat.pow_succ, Nat.mul_comm (2 ^ ts.length) 2, ← Nat.mul_assoc] at hn
      exact hn
    have hn3 : n ≤ 100000 := by
      have : 0 < 2 ^ (t :: ts).length := Nat.pow_pos (by decide)
      exact Nat.le_trans (Nat.le_mul_of_pos_right n this) hn
    obtain ⟨a', q', e⟩ := product_loop (s := s) ts (cm t p) (.dat (.str ⟨#[tch t]⟩)) (.dat (.int (if t then 1 else -1))) (n * 2) rfl rfl (by cases t <;> simp [cm] <;> omega) (by cases t <;> simp [cm] <;> omega) hn2
    refine ⟨a', q', ?_⟩
    have m1 : ∀ x y : Int, x.natAbs ≤ 1 → y.natAbs ≤ 100000 → mulOk x y = true := fun x y hx hy => mulOk_le 1 100000 hx hy (by decide +kernel) (by decide +kernel)
    have k1 := m1 1 p.1 (by decide) (by omega)
    have k2 := m1 1 p.2 (by decide) (by omega)
    have k3 := m1 (-1) p.1 (by decide) (by omega)
    have k4 := m1 (-1) p.2 (by decide) (by omega)
    have hb : evSs (tab []) 0 fPo [.dat s, .dat (.str ⟨#[tch t]⟩), .dat (.int p.1), .dat (.int p.2), q] = some (.nx, [.dat s, .dat (.str ⟨#[tch t]⟩), .dat (.int (cm t p).1), .dat (.int (cm t p).2), .dat (.int (if t then 1 else -1))]) := by
      cases t <;> simp [fPo, b__law_product, rdVar, cstD, prD, prS, pr1, pr2, negD, cmpD, eqD, Dv.plain, Dv.depth, Dv.beq, lit_o, tch, binD, short, setTg, free, hq', cm, runL, evTs, setPar, k1, k2, k3, k4]
      all_goals omega
    rw [List.map_cons, forL]
    simp [setTg, free, ha', hb]
    exact e
theorem product_eq {ts : List Bool} (h : ts.length ≤ 10) : r__law_product [.str (tx ts)] = some (pt (prod ts (1, 0)), []) := by
  have hp : 2 ^ ts.length ≤ 2 ^ 10 := Nat.pow_le_pow_right (by decide) h
  obtain ⟨a', q', e⟩ := product_loop (s := .str (tx ts)) ts (1, 0) .no .no 1 rfl rfl (by decide) (by decide) (by omega)
  have hf : evS (tab []) 0 (.for_ (.n 1) (.seq (.e (.var 0))) fPo) [.dat (.str (tx ts)), .no, .dat (.int 1), .dat (.int 0), .no] = some (.nx, [.dat (.str (tx ts)), a', .dat (.int (prod ts (1, 0)).1), .dat (.int (prod ts (1, 0)).2), q']) := for_eq (seq_eq (d := .str (tx ts)) (by simp [rdVar]) (it_tx ts)) e
  have hb : b__law_product = .cons (.set (.two (.n 2) (.n 3)) (.pr .tup (.cons (.e (.cst (.int 1))) (.cons (.e (.cst (.int 0))) .nil)))) (.cons (.for_ (.n 1) (.seq (.e (.var 0))) fPo) (.cons (.ret (.pr .tup (.cons (.e (.var 2)) (.cons (.e (.var 3)) .nil)))) .nil)) := rfl
  refine run_ret (η := [.dat (.str (tx ts))]) (η1 := [.dat (.str (tx ts)), a', .dat (.int (prod ts (1, 0)).1), .dat (.int (prod ts (1, 0)).2), q']) rfl ?_ rfl
  rw [hb]
  simp [rdVar, prD, cstD, short, setTg, free]
  rw [hf]
  simp [rdVar, pt]
end CF

set_option Elab.async false
set_option linter.all false
set_option maxRecDepth 100000
namespace CF
open PySem L2 K61
theorem lt_pt (a b : Pt) : ltD (pt a) (pt b) = some (lex a b) := by
  have h1 : PySem.W.dataLt (pt a).toP (pt b).toP = lex a b := by
    simp only [pt, Dv.toP, Dv.toPs, PySem.W.dataLt, PySem.W.keyToks, PySem.W.keyToksAll, List.singleton_append, List.cons_append, List.nil_append]
    simp only [PyProof.Rows.lex_cons, PyProof.Rows.lexLt]
    show (decide ((1 : Int) < 1) || (!decide ((1 : Int) < 1) && (decide (a.1 < b.1) || (!decide (b.1 < a.1) && (decide ((1 : Int) < 1) || (!decide ((1 : Int) < 1) && (decide (a.2 < b.2) || (!decide (b.2 < a.2) && (decide ((0 : Int) < 0) || (!decide ((0 : Int) < 0) && false)))))))))) = _
    simp only [lex]
    rw [Bool.eq_iff_iff]
    simp
    omega
  have h2 : PySem.W.alike (pt a).toP (pt b).toP = true := rfl
  simp only [ltD, h1, h2]
  rfl
def pr (e : Pt × Pt) : Dv := .tup [pt e.1, pt e.2]
theorem min_pt (a b : Pt) : minD (pt a) (pt b) = some (pt (sd a b).1) := by
  have h : minD (pt a) (pt b) = (ltD (pt b) (pt a)).map fun c => if c then pt b else pt a := rfl
  have h2 : maxD (pt a) (pt b) = (ltD (pt a) (pt b)).map fun c => if c then pt b else pt a := rfl
  rw [h, lt_pt, Option.map_some]
  cases hc : lex b a <;> simp [sd, hc]
theorem sd_lex {a b : Pt} (h : lex b a = false) (h2 : lex a b = false) : a = b := by
  obtain ⟨x, y⟩ := a
  obtain ⟨x', y'⟩ := b
  simp [lex] at h h2
  have : x = x' := by omega
  subst this
  simp at h h2
  have : y = y' := by omega
  subst this
  rfl
theorem lex_asym {a b : Pt} (h : lex b a = true) : lex a b = false := by
  obtain ⟨x, y⟩ := a
  obtain ⟨x', y'⟩ := b
  simp [lex] at h ⊢
  omega
theorem max_pt (a b : Pt) : maxD (pt a) (pt b) = some (pt (sd a b).2) := by
  have h2 : maxD (pt a) (pt b) = (ltD (pt a) (pt b)).map fun c => if c then pt b else pt a := rfl
  rw [h2, lt_pt, Option.map_some]
  cases hc : lex b a
  · cases hd : lex a b
    · rw [sd_lex hc hd]
      simp [sd]
    · simp [sd, hc]
  · rw [lex_asym hc]
    simp [sd, hc]
theorem sort_pt (a b : Pt) : sort2 [pt a, pt b] = some [pt (sd a b).1, pt (sd a b).2] := by
  have h : sort2 [pt a, pt b] = (ltD (pt b) (pt a)).map fun c => if c then [pt b, pt a] else [pt a, pt b] := rfl
  rw [h, lt_pt, Option.map_some]
  cases hc : lex b a <;> simp [sd, hc]
theorem cut_from {α : Type} (xs : List α) (k : Nat) : cutD xs (some (k : Int)) none = xs.drop k := by
  unfold cutD
  rw [HT.sIx_nat, HT.sIx_none]
  by_cases h : k ≤ xs.length
  · rw [Nat.min_eq_left h, List.take_of_length_le (by rw [List.length_drop]; omega)]
  · rw [Nat.min_eq_right (by omega), List.drop_of_length_le (by omega), List.drop_of_length_le (by omega)]
    simp
theorem cut_to {α : Type} (xs : List α) (k : Nat) : cutD xs none (some (k : Int)) = xs.take k := by
  unfold cutD
  rw [HT.sIx_nat, HT.sIx_none, List.drop_zero, Nat.sub_zero]
  by_cases h : k ≤ xs.length
  · rw [Nat.min_eq_left h]
  · rw [Nat.min_eq_right (by omega), List.take_of_length_le (by omega), List.take_of_length_le (by omega)]
theorem cut_two {α : Type} (xs : List α) (j k : Nat) (h1 : j ≤ k) (h2 : k ≤ xs.length) : cutD xs (some (j : Int)) (some (k : Int)) = (xs.drop j).take (k - j) := by
  unfold cutD
  rw [HT.sIx_nat, HT.sIx_nat, Nat.min_eq_left (Nat.le_trans h1 h2), Nat.min_eq_left h2]
theorem zip_eds : ∀ (w : List Bool) (p d : Pt), zipD (pt p :: ((eds p d w).map to).map pt) (((eds p d w).map to).map pt) = (eds p d w).map fun e => pr (e.1, to e)
  | [], p, d => rfl
  | l :: r, p, d => by
    have h := zip_eds r (add p d) (trn l d)
    simp only [eds, List.map_cons] at h ⊢
    show pr (p, to (p, d)) :: zipD (pt (to (p, d)) :: ((eds (add p d) (trn l d) r).map to).map pt) (((eds (add p d) (trn l d) r).map to).map pt) = _
    rw [← h]
    rfl
theorem zip_pth (w : List Bool) : zipD (pth w) ((pth w).drop 1) = (e0 w).map fun e => pr (e.1, to e) := by
  have h := zip_eds w (0, 0) (1, 0)
  have e : pth w = pt (0, 0) :: ((e0 w).map to).map pt := rfl
  rw [e, List.drop_succ_cons, List.drop_zero]
  exact h
def sdv (w : List Bool) : List Dv := (sds w).map pr
theorem e0_len (w : List Bool) : (e0 w).length = w.length + 1 := by
  have : ∀ (w : List Bool) (p d : Pt), (eds p d w).length = w.length + 1 := by
    intro w
    induction w with
    | nil => intro p d; rfl
    | cons l r ih => intro p d; rw [eds, List.length_cons, ih, List.length_cons]
  exact this _ _ _
theorem sds_len (w : List Bool) : (sds w).length = w.length + 1 := by rw [sds, List.length_map, e0_len]
theorem pt_short (xs : List Dv) (h : xs.length ≤ 100000) : short xs.length = true := by simp [short]; omega
theorem law_sides_eq {w : List Bool} (h : w.length ≤ 100000) : r__law_sides [.lst (pth w)] = some (.lst (sdv w), []) := by
  have hc : evE (tab []) (.comp (.pr .tuple (.cons (.e (.pr .sorted (.cons (.e (.var 1)) .nil))) .nil)) (.n 1) (.zip (.e (.var 0)) (.e (.pr (.sl true false) (.cons (.e (.var 0)) (.cons (.e (.cst (.int 1))) .nil))))) [] [1]) [.dat (.lst (pth w)), .no] = some (.lst (sdv w), [.dat (.lst (pth w)), .no]) := by
    have hz : evI (tab []) (.zip (.e (.var 0)) (.e (.pr (.sl true false) (.cons (.e (.var 0)) (.cons (.e (.cst (.int 1))) .nil))))) [.dat (.lst (pth w)), .no] = some ((e0 w).map fun e => pr (e.1, to e), [.dat (.lst (pth w)), .no]) := by
      rw [evI]
      have hc1 : cutD (pth w) (some 1) none = (pth w).drop 1 := cut_from (pth w) 1
      simp [rdVar, cstD, prD, prS, pr2, asInt, slD, hc1]
      simpa using zip_pth w
    refine comp_eq (η1 := [.dat (.lst (pth w)), .no]) (η2 := [.dat (.lst (pth w)), .no]) hz (by simp [noOwn, SV.own]) ?_ rfl
    have hm : sdv w = [] ++ (e0 w).map fun e => pr (side e) := by simp [sdv, sds]
    rw [hm]
    refine compL_map (fun _ => True) (fun e _ => ?_) (e0 w) [] (fun _ _ => trivial) (by simp [e0_len]; omega)
    refine ⟨[.dat (.lst (pth w)), .dat (pr (e.1, to e))], [.dat (.lst (pth w)), .dat (pr (e.1, to e))], by simp [wipeE, setTg, free], ?_, by simp [noOwn, SV.own], by simp [wipeE]⟩
    have hs := sort_pt e.1 (to e)
    simp [rdVar, prD, prS, pr1, sortD, pr, hs, seqOf, side]
  simp [r__law_sides, runFn, b__law_sides, initE, hc, outsE]
/-! the first piece that lies on one before -/
def nkp (p : Pt) : NestedKey := .tup [.num p.1, .num p.2]
def nk (e : Pt × Pt) : NestedKey := .tup [nkp e.1, nkp e.2]
theorem nk_inj {e f : Pt × Pt} (h : nk e = nk f) : e = f := by
  obtain ⟨⟨a, b⟩, c, d⟩ := e
  obtain ⟨⟨a', b'⟩, c', d'⟩ := f
  simp [nk, nkp] at h
  simp [h]
theorem key_pr (e : Pt × Pt) : keyOf (pr e) = some (nk e) := rfl
theorem tkey_pr (e : Pt × Pt) : tkey (pr e) = some (nk e) := rfl
def fst2 (seen : List (Pt × Pt)) : List (Pt × Pt) → Option (Nat × Nat)
  | [] => none
  | s :: r => if s ∈ seen then some (seen.idxOf s, seen.length) else fst2 (seen ++ [s]) r
def kvs : Nat → List (Pt × Pt) → List (Dv × Dv)
  | _, [] => []
  | n, s :: r => (pr s, .int (n : Int)) :: kvs (n + 1) r
theorem kvs_len : ∀ (n : Nat) (l : List (Pt × Pt)), (kvs n l).length = l.length
  | _, [] => rfl
  | n, s :: r => by rw [kvs, List.length_cons, kvs_len, List.length_cons]
theorem find_in : ∀ (n : Nat) (l : List (Pt × Pt)) (s : Pt × Pt), dfind (nk s) (kvs n l) = if s ∈ l then some (.int ((n + l.idxOf s : Nat) : Int)) else none
  | n, [], s => rfl
  | n, a :: l, s => by
    rw [kvs, dfind, key_pr]
    by_cases h : a = s
    · subst h
      simp
    · have hk : ¬ (some (nk a) = some (nk s)) := fun e => h (nk_inj (Option.some.inj e))
      rw [if_neg hk, find_in (n + 1) l s]
      by_cases hm : s ∈ l
      · rw [if_pos hm, if_pos (List.mem_cons_of_mem _ hm), List.idxOf_cons]
        have : (a == s) = false := beq_eq_false_iff_ne.mpr h
        rw [this]
        show some (Dv.int ((n + 1 + l.idxOf s : Nat) : Int)) = some (Dv.int ((n + (l.idxOf s + 1) : Nat) : Int))
        congr 3
        omega
      · rw [if_neg hm, if_neg fun e => (List.mem_cons.mp e).elim (fun e => h e.symm) hm]
theorem store_new : ∀ (n : Nat) (l : List (Pt × Pt)) (s : Pt × Pt), s ∉ l → dstore (nk s) (pr s) (.int ((n + l.length : Nat) : Int)) (kvs n l) = kvs n (l ++ [s])
  | n, [], s, _ => rfl
  | n, a :: l, s, h => by
    have hk : ¬ (some (nk a) = some (nk s)) := fun e => h (by rw [nk_inj (Option.some.inj e)]; exact List.mem_cons_self)
    rw [kvs, dstore, key_pr, if_neg hk, List.cons_append, kvs, ← store_new (n + 1) l s fun e => h (List.mem_cons_of_mem _ e)]
    simp only [List.length_cons]
    rw [show n + (l.length + 1) = n + 1 + l.length from by omega]
end CF

set_option Elab.async false
set_option linter.all false
set_option maxRecDepth 100000
namespace CF
open PySem L2 K61
def fFt : Sms := match b_first_twice with
  | .cons _ (.cons (.for_ _ _ b) _) => b
  | _ => .nil
def ansF : Option (Nat × Nat) → Fl
  | none => .nx
  | some p => .ret (.tup [.int (p.1 : Int), .int (p.2 : Int)])
theorem first_loop {s : Dv} : ∀ (l seen : List (Pt × Pt)) (a b c d : SV), fr a = true → fr b = true → fr c = true → fr d = true → seen.length + l.length ≤ 1000000 →
    ∃ η, forL (.two (.n 2) (.two (.n 4) (.n 5))) (evSs (tab []) 0 fFt) (enumD seen.length (l.map fun e => pr (e.1, to e))) [.dat s, .dic (kvs 0 seen), a, b, c, d] = some (ansF (fst2 seen (l.map side)), .dat s :: η)
  | [], seen, a, b, c, d, _, _, _, _, _ => ⟨_, rfl⟩
  | e :: l, seen, a, b, c, d, ha, hb, hc, hd, hn => by
    rw [List.length_cons] at hn
    have ha' := fr_free ha
    have hb' := fr_free hb
    have hc' := fr_free hc
    have hd' := fr_free hd
    simp only [free, List.getElem?_cons_zero] at ha' hb' hc' hd'
    have hmin := min_pt e.1 (to e)
    have hmax := max_pt e.1 (to e)
    have hk : tkey (.tup [pt (sd e.1 (to e)).1, pt (sd e.1 (to e)).2]) = some (nk (side e)) := tkey_pr (side e)
    have hf := find_in 0 seen (side e)
    have hkl : (kvs 0 seen).length < 16777216 := by rw [kvs_len]; omega
    rw [List.map_cons, enumD, forL, List.map_cons, fst2]
    by_cases hm : side e ∈ seen
    · rw [if_pos hm] at hf ⊢
      rw [Nat.zero_add] at hf
      simp [setTg, pr, free, ha', hb', hc', hd', fFt, b_first_twice, rdVar, prD, prS, pr2, hmin, hmax, short, hk, dicL, hf, ansF]
    · rw [if_neg hm] at hf ⊢
      have hst := store_new 0 seen (side e) hm
      rw [Nat.zero_add] at hst
      obtain ⟨η, ih⟩ := first_loop (s := s) l (seen ++ [side e]) (.dat (.int (seen.length : Int))) (.dat (pr (side e))) (.dat (pt e.1)) (.dat (pt (to e))) rfl rfl rfl rfl (by rw [List.length_append, List.length_singleton]; omega)
      refine ⟨η, ?_⟩
      rw [List.length_append, List.length_singleton] at ih
      have hst2 : dstore (nk (side e)) (.tup [pt (sd e.1 (to e)).1, pt (sd e.1 (to e)).2]) (.int (seen.length : Int)) (kvs 0 seen) = kvs 0 (seen ++ [side e]) := hst
      simp [setTg, pr, free, ha', hb', hc', hd', fFt, b_first_twice, rdVar, prD, prS, pr2, hmin, hmax, short, hk, dicL, hf, hkl, hst2]
      have e2 : pr (side e) = .tup [pt (sd e.1 (to e)).1, pt (sd e.1 (to e)).2] := rfl
      rw [e2] at ih
      exact ih
def ft (w : List Bool) : Option (Nat × Nat) := fst2 [] (sds w)
def ansP : Option (Nat × Nat) → Dv
  | none => .non
  | some p => .tup [.int (p.1 : Int), .int (p.2 : Int)]
theorem first_eq {w : List Bool} (h : w.length ≤ 100000) : r_first_twice [.lst (pth w)] = some (ansP (ft w), []) := by
  obtain ⟨η, e⟩ := first_loop (s := .lst (pth w)) (e0 w) [] .no .no .no .no rfl rfl rfl rfl (by rw [e0_len]; simp; omega)
  have hz : evI (tab []) (.ez (.e (.var 0)) (.e (.pr (.sl true false) (.cons (.e (.var 0)) (.cons (.e (.cst (.int 1))) .nil))))) [.dat (.lst (pth w)), .dic [], .no, .no, .no, .no] = some (enumD 0 ((e0 w).map fun e => pr (e.1, to e)), [.dat (.lst (pth w)), .dic [], .no, .no, .no, .no]) := by
    rw [evI]
    have hc1 : cutD (pth w) (some 1) none = (pth w).drop 1 := cut_from (pth w) 1
    simp [rdVar, cstD, prD, prS, pr2, asInt, slD, hc1]
    have := zip_pth w
    simp at this
    rw [this]
  have hb : b_first_twice = .cons (.dnew 1) (.cons (.for_ (.two (.n 2) (.two (.n 4) (.n 5))) (.ez (.e (.var 0)) (.e (.pr (.sl true false) (.cons (.e (.var 0)) (.cons (.e (.cst (.int 1))) .nil))))) fFt) (.cons (.ret (.cst .none)) .nil)) := rfl
  have hf := for_eq (fu := 0) hz e
  have hs : (e0 w).map side = sds w := rfl
  rw [hs] at hf
  have hft : ft w = fst2 [] (sds w) := rfl
  rw [← hft] at hf
  cases hw : ft w with
  | none =>
    rw [hw] at hf
    refine run_ret (η := [.dat (.lst (pth w))]) (η1 := .dat (.lst (pth w)) :: η) rfl ?_ rfl
    rw [hb]
    simp [free]
    rw [hf]
    simp [ansF, cstD, ansP]
  | some p =>
    rw [hw] at hf
    refine run_ret (η := [.dat (.lst (pth w))]) (η1 := .dat (.lst (pth w)) :: η) rfl ?_ rfl
    rw [hb]
    simp [free]
    rw [hf]
    rfl
theorem fst2_none : ∀ (l seen : List (Pt × Pt)), seen.Nodup → (fst2 seen l = none ↔ (seen ++ l).Nodup)
  | [], seen, h => by simp [fst2, h]
  | s :: r, seen, h => by
    rw [fst2]
    by_cases hm : s ∈ seen
    · rw [if_pos hm]
      constructor
      · intro e; cases e
      · intro e
        have := (List.nodup_append.mp e).2.2 s hm s List.mem_cons_self
        exact absurd rfl this
    · rw [if_neg hm, fst2_none r (seen ++ [s]) (by
        rw [List.nodup_append]
        exact ⟨h, by simp, fun a ha b hb e => by
          rw [List.mem_singleton] at hb
          subst e; subst hb
          exact hm ha⟩), List.append_assoc, List.singleton_append]
theorem fst2_some : ∀ (l seen : List (Pt × Pt)) (i j : Nat), fst2 seen l = some (i, j) → i < j ∧ j < seen.length + l.length ∧ (seen ++ l)[i]? = (seen ++ l)[j]?
  | [], seen, i, j, h => nomatch h
  | s :: r, seen, i, j, h => by
    rw [fst2] at h
    by_cases hm : s ∈ seen
    · rw [if_pos hm] at h
      cases h
      have hlt : seen.idxOf s < seen.length := List.idxOf_lt_length_of_mem hm
      refine ⟨hlt, by rw [List.length_cons]; omega, ?_⟩
      rw [List.getElem?_append_left hlt, List.getElem?_append_right (Nat.le_refl _), Nat.sub_self, List.getElem?_cons_zero, List.getElem?_eq_getElem hlt, List.getElem_idxOf]
    · rw [if_neg hm] at h
      have := fst2_some r (seen ++ [s]) i j h
      rw [List.append_assoc, List.length_append] at this
      simp only [List.singleton_append, List.length_singleton] at this
      rw [List.length_cons]
      exact ⟨this.1, by omega, this.2.2⟩
theorem ft_none {w : List Bool} : ft w = none ↔ (sds w).Nodup := by
  have := fst2_none (sds w) [] List.nodup_nil
  simpa [ft] using this
theorem ft_some {w : List Bool} {i j : Nat} (h : ft w = some (i, j)) : i < j ∧ j < w.length + 1 ∧ (sds w)[i]? = (sds w)[j]? := by
  have := fst2_some (sds w) [] i j h
  rw [sds_len] at this
  simpa using this
/-! how many sides -/
theorem uniq_most : ∀ ks : List NestedKey, (uniq ks).length ≤ ks.length
  | [] => Nat.le_refl _
  | k :: ks => by
    have := uniq_most ks
    rw [uniq]
    by_cases h : k ∈ ks
    · rw [if_pos h, List.length_cons]; omega
    · rw [if_neg h, List.length_cons, List.length_cons]; omega
theorem uniq_all : ∀ ks : List NestedKey, (uniq ks).length = ks.length ↔ ks.Nodup
  | [] => by simp [uniq]
  | k :: ks => by
    have h1 := uniq_most ks
    have h2 := uniq_all ks
    rw [uniq, List.nodup_cons]
    by_cases h : k ∈ ks
    · rw [if_pos h, List.length_cons]
      constructor
      · intro e; omega
      · intro e; exact absurd h e.1
    · rw [if_neg h, List.length_cons, List.length_cons, ← h2]
      constructor
      · intro e; exact ⟨h, by omega⟩
      · intro e; omega
theorem keysOf_map : ∀ l : List (Pt × Pt), keysOf (l.map pr) = some (l.map nk)
  | [] => rfl
  | e :: l => by rw [List.map_cons, keysOf, key_pr, keysOf_map l]; rfl
theorem nodup_nk {l : List (Pt × Pt)} : (l.map nk).Nodup ↔ l.Nodup := by
  constructor
  · intro h
    exact List.Pairwise.of_map nk (fun a b hne e => hne (e ▸ rfl)) h
  · intro h
    exact nodup_map_on (p := fun _ => True) (fun a b _ _ e => nk_inj e) (fun _ _ => trivial) h
theorem lenset_eq (l : List (Pt × Pt)) (h : l.length < 64) : ∃ n : Nat, lenSetD (.lst (l.map pr)) = some (.int n) ∧ (n = l.length ↔ l.Nodup) := by
  refine ⟨(uniq (l.map nk)).length, ?_, ?_⟩
  · have h1 : (l.map pr).all (fun x => match x with | .tup _ => true | _ => false) = true := by
      simp [List.all_map, pr]
    have h2 : (l.map nk).all (fun k => decide (k.depth ≤ 8) && noText k) = true := by
      rw [List.all_map, List.all_eq_true]
      intro e _
      rfl
    simp only [lenSetD, List.length_map, h, keysOf_map, Option.bind_some, h2, decide_true, if_true]
    simp [pr]
  · rw [← nodup_nk, ← uniq_all, List.length_map]
def told (w : List Bool) : Dv := match ft w with
  | none => .tup [.str "once"]
  | some p => .tup [.str "twice", .int (p.1 : Int), .int (p.2 : Int)]
theorem gone_eq {w : List Bool} (h : w.length ≤ 1023) : r_gone_once [.str (wt w)] = some (told w, []) := by
  have h1 := told_path_eq (w := w) (by omega)
  have h2 := first_eq (w := w) (by omega)
  unfold told
  cases hw : ft w with
  | none =>
    rw [hw] at h2
    simp only [ansP] at h2
    simp [r_gone_once, runFn, b_gone_once, initE, rdVar, cstD, tab, look_word_eq h, h1, h2, backOs, setTg, free, prD, prS, pr1, isNon, short, outsE]
  | some p =>
    rw [hw] at h2
    simp only [ansP] at h2
    simp [r_gone_once, runFn, b_gone_once, initE, rdVar, cstD, tab, look_word_eq h, h1, h2, backOs, setTg, free, prD, prS, pr1, isNon, short, starD, itOf, outsE]
end CF

set_option Elab.async false
set_option linter.all false
set_option maxRecDepth 100000
namespace CF
open PySem L2 K61
def nex : Dv → Bool
  | .exc _ _ => false
  | _ => true
def Fine : Dv → Bool
  | .exc _ _ => false
  | .tup xs => xs.all nex
  | _ => true
def isTold : Dv → Bool
  | .tup [.str _] => true
  | .tup [.str _, _, _] => true
  | _ => false
theorem is_told_eq {v : Dv} (h : Fine v = true) : r_is_told [v, .tup [.int 1, .int 3]] = some (.bl (isTold v), []) := by
  cases v with
  | exc c y => cases h
  | tup xs =>
    match xs, h with
    | [], _ => rfl
    | [x], h => cases x <;> first | rfl | cases h
    | [x, y], _ => cases x <;> rfl
    | [x, y, z], h => cases x <;> first | rfl | cases h
    | x :: y :: z :: u :: r, h =>
      have h1 : ((1 : Int) == (r.length : Int) + 1 + 1 + 1 + 1) = false := beq_eq_false_iff_ne.mpr (by omega)
      have h3 : ((3 : Int) == (r.length : Int) + 1 + 1 + 1 + 1) = false := beq_eq_false_iff_ne.mpr (by omega)
      have ht : isTold (.tup (x :: y :: z :: u :: r)) = false := by cases x <;> rfl
      simp [r_is_told, runFn, b_is_told, initE, rdVar, cstD, prD, prS, pr1, pr2, isiD, isTy, lenD, cmpD, inQ, inD, Dv.plain, Dv.plains, Dv.depth, Dv.depths, Dv.beq, h1, h3, outsE, ht]
  | _ => rfl
def isI (n : Int) : Dv → Bool
  | .int i => decide (0 ≤ i) && decide (i ≤ n)
  | _ => false
theorem is_int_eq {x : Dv} {n : Int} (h : nex x = true) : r_is_int [x, .int 0, .int n] = some (.bl (isI n x), []) := by
  cases x with
  | exc c y => cases h
  | int i =>
    by_cases h0 : 0 ≤ i
    · simp [r_is_int, runFn, b_is_int, initE, rdVar, cstD, prD, prS, pr1, pr2, isiD, isTy, cmpD, orD, h0, isI, outsE]
    · simp [r_is_int, runFn, b_is_int, initE, rdVar, cstD, prD, prS, pr1, pr2, isiD, isTy, cmpD, orD, h0, isI, outsE]
  | _ => rfl
theorem law_is_int_eq {x : Dv} {n : Int} (h : nex x = true) : r__law_is_int [x, .int 0, .int n] = some (.bl (isI n x), []) := by
  cases x with
  | exc c y => cases h
  | int i =>
    by_cases h0 : 0 ≤ i
    · simp [r__law_is_int, runFn, b__law_is_int, initE, rdVar, cstD, prD, prS, pr1, pr2, isiD, isTy, cmpD, orD, h0, isI, outsE]
    · simp [r__law_is_int, runFn, b__law_is_int, initE, rdVar, cstD, prD, prS, pr1, pr2, isiD, isTy, cmpD, orD, h0, isI, outsE]
  | _ => rfl
theorem take_two : ∀ (w : List Bool) (p d : Pt) (k : Nat) (e : Pt × Pt), (eds p d w)[k]? = some e → ((pt p :: ((eds p d w).map to).map pt).drop k).take 2 = [pt e.1, pt (to e)]
  | [], p, d, 0, e, h => by
    simp only [eds, List.getElem?_cons_zero, Option.some.injEq] at h
    subst h
    rfl
  | [], p, d, k + 1, e, h => by simp [eds] at h
  | l :: r, p, d, 0, e, h => by
    simp only [eds, List.getElem?_cons_zero, Option.some.injEq] at h
    subst h
    rfl
  | l :: r, p, d, k + 1, e, h => by
    simp only [eds, List.getElem?_cons_succ] at h
    have := take_two r (add p d) (trn l d) k e h
    simp only [eds, List.map_cons, List.drop_succ_cons]
    exact this
theorem beq_ptpt (a b c d : Pt) : eqD (.lst [pt a, pt b]) (.lst [pt c, pt d]) = some (decide ((a, b) = (c, d))) := by
  obtain ⟨a1, a2⟩ := a
  obtain ⟨b1, b2⟩ := b
  obtain ⟨c1, c2⟩ := c
  obtain ⟨d1, d2⟩ := d
  simp [eqD, pt, Dv.plain, Dv.plains, Dv.depth, Dv.depths, Dv.beq, Dv.beqs]
  rw [Bool.eq_iff_iff]
  simp [and_assoc]
theorem beq_pr (e f : Pt × Pt) : eqD (pr e) (pr f) = some (decide (e = f)) := by
  obtain ⟨⟨a1, a2⟩, b1, b2⟩ := e
  obtain ⟨⟨c1, c2⟩, d1, d2⟩ := f
  simp [eqD, pr, pt, Dv.plain, Dv.plains, Dv.depth, Dv.depths, Dv.beq, Dv.beqs]
  rw [Bool.eq_iff_iff]
  simp [and_assoc]
def due (w : List Bool) : Dv → Bool
  | .tup [.str s] => (s == ("once" : Str)) && (ft w).isNone
  | .tup [.str s, .int i, .int j] => (s == ("twice" : Str)) && isI w.length (.int i) && isI w.length (.int j) && decide (i < j) && decide ((sds w)[i.toNat]? = (sds w)[j.toNat]?)
  | _ => false
theorem all_two (f : Dv → Bool) (a b : Dv) : allD (.lst [.bl (f a), .bl (f b)]) = some (.bl (f a && f b)) := by
  have := allD_map f [a, b]
  simpa using this
theorem due_0 {w : List Bool} {v : Dv} (hw : w.length ≤ 1000) (h : Fine v = true) (ht : isTold v = false) : r_shows_gone_once [.str (wt w), v] = some (.bl false, []) := by
  have h1 := is_told_eq h
  rw [ht] at h1
  simp [r_shows_gone_once, runFn, b_shows_gone_once, initE, rdVar, cstD, prD, short, tab, look_word_eq (w := w) (by omega), h1, backOs, outsE]
theorem due_1 {w : List Bool} {s : Str} (hw : w.length ≤ 1000) : r_shows_gone_once [.str (wt w), .tup [.str s]] = some (.bl (due w (.tup [.str s])), []) := by
  have h1 : r_is_told [.tup [.str s], .tup [.int 1, .int 3]] = some (.bl true, []) := is_told_eq (v := .tup [.str s]) rfl
  have h2 := first_eq (w := w) (by omega)
  have h3 := told_path_eq (w := w) (by omega)
  cases hs : s == ("once" : Str)
  · simp [r_shows_gone_once, runFn, b_shows_gone_once, initE, rdVar, cstD, prD, prS, pr1, pr2, short, tab, look_word_eq (w := w) (by omega), h1, h3, backOs, setTg, free, lenD, cmpD, eqD, Dv.plain, Dv.depth, Dv.beq, ixD, hs, outsE, due]
  · cases hw2 : ft w with
    | none =>
      rw [hw2] at h2
      simp only [ansP] at h2
      simp [r_shows_gone_once, runFn, b_shows_gone_once, initE, rdVar, cstD, prD, prS, pr1, pr2, short, tab, look_word_eq (w := w) (by omega), h1, h2, h3, backOs, setTg, free, lenD, cmpD, eqD, Dv.plain, Dv.depth, Dv.beq, ixD, hs, isNon, outsE, due, hw2]
    | some p =>
      rw [hw2] at h2
      simp only [ansP] at h2
      simp [r_shows_gone_once, runFn, b_shows_gone_once, initE, rdVar, cstD, prD, prS, pr1, pr2, short, tab, look_word_eq (w := w) (by omega), h1, h2, h3, backOs, setTg, free, lenD, cmpD, eqD, Dv.plain, Dv.depth, Dv.beq, ixD, hs, isNon, outsE, due, hw2]
end CF

set_option Elab.async false
set_option linter.all false
set_option maxRecDepth 100000
namespace CF
open PySem L2 K61
theorem piece {w : List Bool} {i : Int} (h : isI w.length (.int i) = true) : ∃ e, (e0 w)[i.toNat]? = some e ∧ (sds w)[i.toNat]? = some (side e) ∧ slD (.lst (pth w)) (some i) (some (i + 2)) = some (.lst [pt e.1, pt (to e)]) ∧ L2.atI (sdv w) i = some (pr (side e)) := by
  simp [isI] at h
  obtain ⟨k, rfl⟩ := Int.eq_ofNat_of_zero_le h.1
  have hk : k < (e0 w).length := by rw [e0_len]; omega
  have he : (e0 w)[k]? = some (e0 w)[k] := List.getElem?_eq_getElem hk
  have hs : (sds w)[k]? = some (side (e0 w)[k]) := by rw [sds, List.getElem?_map, he]; rfl
  refine ⟨(e0 w)[k], he, hs, ?_, ?_⟩
  · have h2 : cutD (pth w) (some (k : Int)) (some ((k + 2 : Nat) : Int)) = ((pth w).drop k).take 2 := by
      rw [cut_two (pth w) k (k + 2) (by omega) (by rw [pth_len]; omega), Nat.add_sub_cancel_left]
    have h3 := take_two w (0, 0) (1, 0) k _ he
    simp only [slD]
    rw [show ((k : Int) + 2) = ((k + 2 : Nat) : Int) from by omega, h2]
    exact congrArg (fun z => some (Dv.lst z)) h3
  · exact L2.atI_nat (by rw [sdv, List.getElem?_map, hs]; rfl)
theorem isI_int {n : Int} {x : Dv} (h : isI n x = true) : ∃ i, x = .int i := by
  cases x with
  | int i => exact ⟨i, rfl⟩
  | _ => cases h
theorem two_ints (g : Run) {n : Int} {W s a b q : Dv} {rs : List Run} (hg : ∀ x, nex x = true → g [x, .int 0, .int n] = some (.bl (isI n x), [])) (hl : lenD W = some (.int n)) (ha : nex a = true) (hb : nex b = true) :
    evE (tab (g :: rs)) (.comp (.call 0 (.cons (.e (.var 3)) (.cons (.e (.cst (.int 0))) (.cons (.e (.pr .len (.cons (.e (.var 0)) .nil))) .nil)))) (.n 3) (.seq (.e (.pr (.sl true false) (.cons (.e (.var 1)) (.cons (.e (.cst (.int 1))) .nil))))) [] [3]) [.dat W, .dat (.tup [s, a, b]), .dat q, .no] = some (.lst [.bl (isI n a), .bl (isI n b)], [.dat W, .dat (.tup [s, a, b]), .dat q, .no]) := by
  have hz : evI (tab (g :: rs)) (.seq (.e (.pr (.sl true false) (.cons (.e (.var 1)) (.cons (.e (.cst (.int 1))) .nil))))) [.dat W, .dat (.tup [s, a, b]), .dat q, .no] = some ([a, b], [.dat W, .dat (.tup [s, a, b]), .dat q, .no]) := by
    refine seq_eq (d := .tup [a, b]) ?_ rfl
    have : cutD [s, a, b] (some 1) none = [a, b] := cut_from [s, a, b] 1
    simp [rdVar, cstD, prD, prS, pr2, asInt, slD, this]
  refine comp_eq (η1 := [.dat W, .dat (.tup [s, a, b]), .dat q, .no]) (η2 := [.dat W, .dat (.tup [s, a, b]), .dat q, .no]) hz (by simp [noOwn, SV.own]) ?_ rfl
  have := compL_map (elt := evE (tab (g :: rs)) (.call 0 (.cons (.e (.var 3)) (.cons (.e (.cst (.int 0))) (.cons (.e (.pr .len (.cons (.e (.var 0)) .nil))) .nil))))) (tg := .n 3) (own := [3]) (f := fun x : Dv => x) (g := fun x => Dv.bl (isI n x)) (η := [.dat W, .dat (.tup [s, a, b]), .dat q, .no]) (fun x => nex x = true) (fun x hx => by
    refine ⟨[.dat W, .dat (.tup [s, a, b]), .dat q, .dat x], [.dat W, .dat (.tup [s, a, b]), .dat q, .dat x], by simp [setTg, free], ?_, by simp [noOwn, SV.own], by simp [wipeE]⟩
    have hg' : tab (g :: rs) 0 [x, .int 0, .int n] = some (.bl (isI n x), []) := hg x hx
    simp [rdVar, cstD, prD, prS, pr1, hl, hg', backOs]) [a, b] [] (by simp [ha, hb]) (by simp)
  simpa [wipeE] using this
theorem due_3 {w : List Bool} {s : Str} {a b : Dv} (hw : w.length ≤ 1000) (ha : nex a = true) (hb : nex b = true) : r_shows_gone_once [.str (wt w), .tup [.str s, a, b]] = some (.bl (due w (.tup [.str s, a, b])), []) := by
  have h1 : r_is_told [.tup [.str s, a, b], .tup [.int 1, .int 3]] = some (.bl true, []) := is_told_eq (v := .tup [.str s, a, b]) (by simp [Fine, ha, hb]; rfl)
  have h3 := told_path_eq (w := w) (by omega)
  have hl : lenD (.str (wt w)) = some (.int w.length) := by
    have hs : short w.length = true := by simp [short]; omega
    simp [lenD, wt_len, hs]
  have hc := two_ints r_is_int (s := .str s) (q := .lst (pth w)) (rs := [r_first_twice, r_told_path, r_is_told, r_look_at_long_word]) (fun x hx => is_int_eq hx) hl ha hb
  have hal : allD (.lst [.bl (isI w.length a), .bl (isI w.length b)]) = some (.bl (isI w.length a && isI w.length b)) := all_two (isI w.length) a b
  have g1 : tab [r_is_int, r_first_twice, r_told_path, r_is_told, r_look_at_long_word] 4 [.str (wt w)] = some (.non, []) := look_word_eq (w := w) (by omega)
  have g2 : tab [r_is_int, r_first_twice, r_told_path, r_is_told, r_look_at_long_word] 3 [.tup [.str s, a, b], .tup [.int 1, .int 3]] = some (.bl true, []) := h1
  have g3 : tab [r_is_int, r_first_twice, r_told_path, r_is_told, r_look_at_long_word] 2 [.str (wt w)] = some (.lst (pth w), []) := h3
  unfold r_shows_gone_once
  generalize tab [r_is_int, r_first_twice, r_told_path, r_is_told, r_look_at_long_word] = G at hc g1 g2 g3 ⊢
  cases hs : s == ("twice" : Str)
  · have hd : due w (.tup [.str s, a, b]) = false := by
      cases a <;> cases b <;> simp [due, hs]
    rw [hd]
    simp [runFn, b_shows_gone_once, initE, rdVar, cstD, prD, prS, pr1, pr2, short, g1, g2, g3, backOs, setTg, free, lenD, cmpD, eqD, Dv.plain, Dv.depth, Dv.beq, ixD, hs, outsE]
  · cases hi : isI w.length a && isI w.length b
    · have hd : due w (.tup [.str s, a, b]) = false := by
        cases a <;> cases b <;> simp [due, hs]
        simp at hi
        intro x1 x2 x3 x4
        simp [x1, x2, x3, x4] at hi
      rw [hi] at hal
      rw [hd]
      simp [runFn, b_shows_gone_once, initE, rdVar, cstD, prD, prS, pr1, pr2, short, g1, g2, g3, backOs, setTg, free, lenD, cmpD, eqD, Dv.plain, Dv.depth, Dv.beq, ixD, hs, hc, hal, outsE]
    · rw [hi] at hal
      rw [Bool.and_eq_true] at hi
      obtain ⟨i, rfl⟩ := isI_int hi.1
      obtain ⟨j, rfl⟩ := isI_int hi.2
      obtain ⟨e, p1, p2, p3, p4⟩ := piece hi.1
      obtain ⟨f, q1, q2, q3, q4⟩ := piece hi.2
      have hd : due w (.tup [.str s, .int i, .int j]) = (decide (i < j) && decide (side e = side f)) := by
        simp [due, hs, hi.1, hi.2, p2, q2]
      rw [hd]
      have s1 := sort_pt e.1 (to e)
      have s2 := sort_pt f.1 (to f)
      have hb := beq_ptpt (sd e.1 (to e)).1 (sd e.1 (to e)).2 (sd f.1 (to f)).1 (sd f.1 (to f)).2
      have hsd : ((sd e.1 (to e)).1, (sd e.1 (to e)).2) = ((sd f.1 (to f)).1, (sd f.1 (to f)).2) ↔ side e = side f := Iff.rfl
      have x1 : ∀ a b : Int, eqD (.int a) (.int b) = some (a == b) := fun _ _ => rfl
      have x2 : ∀ a b : Str, eqD (.str a) (.str b) = some (a == b) := fun _ _ => rfl
      by_cases hij : i < j
      · have hji : ¬ j ≤ i := by omega
        simp [runFn, b_shows_gone_once, initE, rdVar, cstD, prD, prS, pr1, pr2, pr3, asInt, binD, short, g1, g2, g3, backOs, setTg, free, lenD, cmpD, orD, hji, Dv.plain, Dv.depth, Dv.beq, ixD, hs, hc, hal, outsE, p3, q3, sortD, s1, s2, x1, x2, hb, hij]
        rw [Bool.eq_iff_iff]
        simp only [Bool.and_eq_true, decide_eq_true_eq]
        exact Prod.ext_iff.symm
      · have hji : j ≤ i := by omega
        simp [runFn, b_shows_gone_once, initE, rdVar, cstD, prD, prS, pr1, pr2, short, g1, g2, g3, backOs, setTg, free, lenD, cmpD, orD, hji, hij, eqD, Dv.plain, Dv.depth, Dv.beq, ixD, hs, hc, hal, outsE]
theorem law_0 {w : List Bool} {v : Dv} (h : Fine v = true) (ht : isTold v = false) : r__law_is_due [.str (wt w), v] = some (.bl false, []) := by
  cases v with
  | exc c y => cases h
  | tup xs =>
    match xs, h, ht with
    | [], _, _ => rfl
    | [x], h, ht => cases x <;> first | rfl | (simp [Fine, nex] at h; done) | (simp [isTold] at ht; done)
    | [x, y], _, _ => rfl
    | [x, y, z], h, ht => cases x <;> first | rfl | (simp [Fine, nex] at h; done) | (simp [isTold] at ht; done)
    | x :: y :: z :: u :: r, h, _ =>
      have h1 : ((1 : Int) == (r.length : Int) + 1 + 1 + 1 + 1) = false := beq_eq_false_iff_ne.mpr (by omega)
      have h3 : ((3 : Int) == (r.length : Int) + 1 + 1 + 1 + 1) = false := beq_eq_false_iff_ne.mpr (by omega)
      simp [r__law_is_due, runFn, b__law_is_due, initE, rdVar, cstD, prD, prS, pr1, pr2, isiD, isTy, lenD, cmpD, inQ, inD, Dv.plain, Dv.plains, Dv.depth, Dv.depths, Dv.beq, h1, h3, short, outsE]
  | _ => rfl
theorem law_1 {w : List Bool} {s : Str} (hw : w.length ≤ 60) : r__law_is_due [.str (wt w), .tup [.str s]] = some (.bl (due w (.tup [.str s])), []) := by
  have h3 := law_path_eq (w := w) (by omega)
  have h2 := law_sides_eq (w := w) (by omega)
  obtain ⟨n, hl, hn⟩ := lenset_eq (sds w) (by rw [sds_len]; omega)
  have hl' : lenSetD (.lst (sdv w)) = some (.int n) := hl
  have hlen : lenD (.lst (sdv w)) = some (.int ((sds w).length : Int)) := by simp [lenD, sdv]
  have hdue : due w (.tup [.str s]) = ((s == ("once" : Str)) && ((n : Int) == ((sds w).length : Int))) := by
    simp only [due]
    congr 1
    rw [Bool.eq_iff_iff]
    simp only [Option.isNone_iff_eq_none, ft_none, ← hn, beq_iff_eq]
    omega
  rw [hdue]
  have x1 : ∀ a b : Int, eqD (.int a) (.int b) = some (a == b) := fun _ _ => rfl
  have x2 : ∀ a b : Str, eqD (.str a) (.str b) = some (a == b) := fun _ _ => rfl
  have l1 : lenD (.tup [.str s]) = some (.int 1) := rfl
  have n1 : inD (.int 1) [.int 1, .int 3] = some true := rfl
  cases hs : s == ("once" : Str)
  · simp [r__law_is_due, runFn, b__law_is_due, initE, rdVar, cstD, prD, prS, pr1, pr2, short, tab, h2, h3, backOs, setTg, free, isiD, isTy, l1, cmpD, inQ, n1, ixD, x1, x2, hs, outsE]
  · simp [r__law_is_due, runFn, b__law_is_due, initE, rdVar, cstD, prD, prS, pr1, pr2, short, tab, h2, h3, backOs, setTg, free, isiD, isTy, l1, cmpD, inQ, n1, ixD, x1, x2, hs, hl', hlen, outsE]
theorem law_3 {w : List Bool} {s : Str} {a b : Dv} (hw : w.length ≤ 1000) (ha : nex a = true) (hb : nex b = true) : r__law_is_due [.str (wt w), .tup [.str s, a, b]] = some (.bl (due w (.tup [.str s, a, b])), []) := by
  have h3 := law_path_eq (w := w) (by omega)
  have h2 := law_sides_eq (w := w) (by omega)
  have hl : lenD (.str (wt w)) = some (.int w.length) := by
    have hs : short w.length = true := by simp [short]; omega
    simp [lenD, wt_len, hs]
  have hc := two_ints r__law_is_int (s := .str s) (q := .lst (sdv w)) (rs := [r__law_sides, r__law_path]) (fun x hx => law_is_int_eq hx) hl ha hb
  have hal : allD (.lst [.bl (isI w.length a), .bl (isI w.length b)]) = some (.bl (isI w.length a && isI w.length b)) := all_two (isI w.length) a b
  have g1 : tab [r__law_is_int, r__law_sides, r__law_path] 2 [.str (wt w)] = some (.lst (pth w), []) := h3
  have g2 : tab [r__law_is_int, r__law_sides, r__law_path] 1 [.lst (pth w)] = some (.lst (sdv w), []) := h2
  have x1 : ∀ a b : Int, eqD (.int a) (.int b) = some (a == b) := fun _ _ => rfl
  have x2 : ∀ a b : Str, eqD (.str a) (.str b) = some (a == b) := fun _ _ => rfl
  have l1 : lenD (.tup [.str s, a, b]) = some (.int 3) := rfl
  have n1 : inD (.int 3) [.int 1, .int 3] = some true := rfl
  unfold r__law_is_due
  generalize tab [r__law_is_int, r__law_sides, r__law_path] = G at hc g1 g2 ⊢
  cases hs : s == ("twice" : Str)
  · have hd : due w (.tup [.str s, a, b]) = false := by
      cases a <;> cases b <;> simp [due, hs]
    rw [hd]
    simp [runFn, b__law_is_due, initE, rdVar, cstD, prD, prS, pr1, pr2, short, g1, g2, backOs, setTg, free, isiD, isTy, l1, cmpD, inQ, n1, ixD, x1, x2, hs, outsE]
  · cases hi : isI w.length a && isI w.length b
    · have hd : due w (.tup [.str s, a, b]) = false := by
        cases a <;> cases b <;> simp [due, hs]
        simp at hi
        intro x1 x2 x3 x4
        simp [x1, x2, x3, x4] at hi
      rw [hi] at hal
      rw [hd]
      simp [runFn, b__law_is_due, initE, rdVar, cstD, prD, prS, pr1, pr2, short, g1, g2, backOs, setTg, free, isiD, isTy, l1, cmpD, inQ, n1, ixD, x1, x2, hs, hc, hal, outsE]
    · rw [hi] at hal
      rw [Bool.and_eq_true] at hi
      obtain ⟨i, rfl⟩ := isI_int hi.1
      obtain ⟨j, rfl⟩ := isI_int hi.2
      obtain ⟨e, p1, p2, p3, p4⟩ := piece hi.1
      obtain ⟨f, q1, q2, q3, q4⟩ := piece hi.2
      have hd : due w (.tup [.str s, .int i, .int j]) = (decide (i < j) && decide (side e = side f)) := by
        simp [due, hs, hi.1, hi.2, p2, q2]
      rw [hd]
      have hb := beq_pr (side e) (side f)
      by_cases hij : i < j
      · simp [runFn, b__law_is_due, initE, rdVar, cstD, prD, prS, pr1, pr2, short, g1, g2, backOs, setTg, free, isiD, isTy, l1, cmpD, orD, inQ, n1, ixD, x1, x2, hs, hc, hal, outsE, hij, p4, q4, hb]
      · simp [runFn, b__law_is_due, initE, rdVar, cstD, prD, prS, pr1, pr2, short, g1, g2, backOs, setTg, free, isiD, isTy, l1, cmpD, orD, inQ, n1, ixD, x1, x2, hs, hc, hal, outsE, hij]
theorem told_shape {v : Dv} (h : Fine v = true) (ht : isTold v = true) : (∃ s, v = .tup [.str s]) ∨ ∃ s a b, v = .tup [.str s, a, b] ∧ nex a = true ∧ nex b = true := by
  cases v with
  | tup xs =>
    match xs, h, ht with
    | [], _, ht => cases ht
    | [x], h, ht =>
      cases x <;> first | exact .inl ⟨_, rfl⟩ | cases ht
    | [x, y], _, ht => cases x <;> cases ht
    | [x, y, z], h, ht =>
      simp [Fine] at h
      cases x <;> first | exact .inr ⟨_, y, z, rfl, h.2.1, h.2.2⟩ | cases ht
    | x :: y :: z :: u :: r, h, ht => cases x <;> cases ht
  | _ => cases ht
theorem both {w : List Bool} {v : Dv} (hw : w.length ≤ 60) (h : Fine v = true) : ∃ b, r_shows_gone_once [.str (wt w), v] = some (.bl b, []) ∧ r__law_is_due [.str (wt w), v] = some (.bl b, []) := by
  cases ht : isTold v
  · exact ⟨false, due_0 (by omega) h ht, law_0 h ht⟩
  · rcases told_shape h ht with ⟨s, rfl⟩ | ⟨s, a, b, rfl, ha, hb⟩
    · exact ⟨_, due_1 (by omega), law_1 hw⟩
    · exact ⟨_, due_3 (by omega) ha hb, law_3 (by omega) ha hb⟩
theorem due_told {w : List Bool} (hw : w.length ≤ 60) : r__law_is_due [.str (wt w), told w] = some (.bl true, []) := by
  cases hf : ft w with
  | none =>
    have e : told w = .tup [.str "once"] := by simp only [told, hf]
    rw [e, law_1 hw]
    simp [due, hf]
  | some p =>
    obtain ⟨i, j⟩ := p
    have e : told w = .tup [.str "twice", .int (i : Int), .int (j : Int)] := by simp only [told, hf]
    have := ft_some hf
    rw [e, law_3 (by omega) rfl rfl]
    have h1 : isI w.length (.int (i : Int)) = true := by simp [isI]; omega
    have h2 : isI w.length (.int (j : Int)) = true := by simp [isI]; omega
    simp [due, h1, h2, this.1, this.2.2]
end CF

set_option Elab.async false
set_option linter.all false
set_option maxRecDepth 100000
namespace CF
open PySem L2 K61
def Pv (pot : List Dv) (c : Nat) : Prop := ∃ own p1 p2 : Int, pot = [.int own, .int p1, .int p2] ∧ 0 ≤ p1 ∧ p1 < 2305843009213693951 ∧ 0 ≤ p2 ∧ p2 ≤ c
theorem Pv.mono {pot : List Dv} {c c' : Nat} (h : Pv pot c) (k : c ≤ c') : Pv pot c' := by
  obtain ⟨a, b, d, e, f, g, i, j⟩ := h
  exact ⟨a, b, d, e, f, g, i, by omega⟩
theorem take_pv {pot : List Dv} {c : Nat} (h : Pv pot c) (hc : c < 1000000) {n : Nat} (hn : 0 < n) (hn2 : n ≤ 1000) : ∃ (d : Nat) (pot' : List Dv), r__law_take [.lst pot, .int (n : Int)] = some (.int (d : Int), [pot']) ∧ d < n ∧ Pv pot' (c + 1) := by
  obtain ⟨own, p1, p2, rfl, h1, h1', h2, h2'⟩ := h
  have hl : (n : Int).natAbs.log2 < 9000 := by
    rw [Int.natAbs_natCast]
    by_cases h : n = 0
    · omega
    · exact (Nat.log2_lt h).mpr (Nat.lt_of_le_of_lt hn2 (by decide +kernel))
  obtain ⟨d, own', p2', e, a, b, k⟩ := take_ok (own := own) (p1 := p1) (p2 := p2) (n := (n : Int)) (by omega) hl h1 h1' h2 (by omega)
  obtain ⟨m, rfl⟩ := Int.eq_ofNat_of_zero_le a
  exact ⟨m, _, e, by omega, own', p1, p2', rfl, h1, h1', by omega, by omega⟩
theorem of_pv {pot : List Dv} {c : Nat} (h : Pv pot c) (hc : c < 1000000) {xs : List Dv} (hn : 0 < xs.length) (hn2 : xs.length ≤ 1000) : ∃ x pot', x ∈ xs ∧ r__law_of [.lst pot, .lst xs] = some (x, [pot']) ∧ Pv pot' (c + 1) := by
  obtain ⟨d, pot', e, k, p⟩ := take_pv h hc hn hn2
  have hx : xs[d]? = some xs[d] := List.getElem?_eq_getElem k
  exact ⟨xs[d], pot', List.getElem_mem k, of_eq e (L2.atI_nat hx), p⟩
theorem odd_pv {pot : List Dv} {c : Nat} (h : Pv pot c) (hc : c < 1000000) : ∃ x pot', x ∈ odds ∧ r__law_odd [.lst pot] = some (x, [pot']) ∧ Pv pot' (c + 1) := by
  obtain ⟨x, pot', hx, e, p⟩ := of_pv h hc (xs := odds) (by decide) (by decide)
  exact ⟨x, pot', hx, odd_eq e, p⟩
theorem odds_fine {x : Dv} (h : x ∈ odds) : Fine x = true := by
  have : odds.all Fine = true := by decide +kernel
  exact List.all_eq_true.mp this x h
def Atom : Dv → Prop
  | .str s => s.length ≤ 1000
  | .int i => i.natAbs ≤ 100000
  | _ => False
abbrev gB (me : Run) : Tab := tab [r__law_odd, r__law_of, r__law_take, me]
theorem bent_atom {me : Run} {pot : List Dv} {c : Nat} (h : Pv pot c) (hc : c < 1000000) {v : Dv} (hv : Atom v) : ∃ x pot', runFn (gB me) 0 3 [true, false] b__law_bent [.lst pot, v] = some (x, [pot']) ∧ nex x = true ∧ Pv pot' (c + 1) := by
  cases v with
  | int i =>
    have hi : i.natAbs ≤ 100000 := hv
    have hl : i.natAbs.log2 < 1920 := by
      by_cases h : i.natAbs = 0
      · rw [h]; decide
      · exact (Nat.log2_lt h).mpr (Nat.lt_of_le_of_lt hi (by decide +kernel))
    have hp : (Nat.log2 10 + 1) * 9 ≤ 134217728 := by decide +kernel
    obtain ⟨x, pot', hx, e, p⟩ := of_pv h hc (xs := [.int (i + 1), .int (i - 1), .int (-i - 1), .str (Str.ofString i.repr), .bl (i == 1), .non, .tup [.int i], .int 1000000000]) (by simp) (by simp)
    refine ⟨x, pot', ?_, ?_, p⟩
    · simp [runFn, b__law_bent, initE, rdVar, cstD, prD, prS, pr1, pr2, isiD, isTy, negD, binD, strD, hl, hp, cmpD, eqD, Dv.plain, Dv.depth, Dv.beq, short, tab, ownL, e, backOs, outsE]
    · simp at hx
      rcases hx with rfl | rfl | rfl | rfl | rfl | rfl | rfl | rfl <;> rfl
  | str s =>
    have hs : s.length ≤ 1000 := hv
    have h1 : s.length ≤ 16777216 := by omega
    have h2 : s.length + 1 ≤ 16777216 := by omega
    have h3 : s.length ≤ 5592405 := by omega
    have ha : (Str.ofString "a").length = 1 := by decide +kernel
    obtain ⟨x, pot', hx, e, p⟩ := of_pv h hc (xs := [.str (s ++ ("a" : Str)), .str (strCut s (some 1) none), .str (Txt.upper s), .str "", .non, .int 0]) (by simp) (by simp)
    refine ⟨x, pot', ?_, ?_, p⟩
    · simp [runFn, b__law_bent, initE, rdVar, cstD, prD, prS, pr1, pr2, isiD, isTy, asInt, slD, binD, upperD, ha, h1, h2, h3, short, tab, ownL, e, backOs, outsE]
    · simp at hx
      rcases hx with rfl | rfl | rfl | rfl | rfl | rfl <;> rfl
  | _ => exact hv.elim
theorem atom_nex {v : Dv} (h : Atom v) : nex v = true := by
  cases v <;> first | rfl | exact h.elim
theorem mem_cut {xs : List Dv} {lo hi : Option Int} {x : Dv} (h : x ∈ cutD xs lo hi) : x ∈ xs := List.mem_of_mem_drop (List.mem_of_mem_take h)
theorem len_cut {xs : List Dv} {lo hi : Option Int} : (cutD xs lo hi).length ≤ xs.length := by
  unfold cutD
  rw [List.length_take, List.length_drop]
  omega
theorem bent_tup {me : Run} {pot : List Dv} {c : Nat} (h : Pv pot c) (hc : c < 100000) {xs : List Dv} (hx : ∀ x ∈ xs, Atom x) (h0 : 0 < xs.length) (h1 : xs.length ≤ 100) : ∃ x pot', runFn (gB (runFn (gB me) 0 3 [true, false] b__law_bent)) 0 3 [true, false] b__law_bent [.lst pot, .tup xs] = some (x, [pot']) ∧ Fine x = true ∧ Pv pot' (c + 4) := by
  have hne : eqD (.tup xs) (.tup []) = some false := by
    cases xs with
    | nil => simp at h0
    | cons a r =>
      have hd : Dv.plains (a :: r) = true := by
        have : ∀ l : List Dv, (∀ x ∈ l, Atom x) → Dv.plains l = true := by
          intro l
          induction l with
          | nil => intro _; rfl
          | cons b l ih =>
            intro h
            have hb := h b List.mem_cons_self
            rw [Dv.plains, ih (fun x hx => h x (List.mem_cons_of_mem _ hx)), Bool.and_true]
            cases b <;> first | rfl | exact hb.elim
        exact this _ hx
      simp [eqD, Dv.plain, hd, Dv.plains, Dv.depth, Dv.depths, Dv.beq, Dv.beqs]
      simpa [Dv.plains] using hd
  obtain ⟨d, pot1, e1, k1, p1⟩ := take_pv h (by omega) (n := 5) (by decide) (by decide)
  have e1' : r__law_take [.lst pot, .int 5] = some (.int (d : Int), [pot1]) := e1
  by_cases hd : 0 < d
  · obtain ⟨a, pot2, e2, k2, p2⟩ := take_pv p1 (by omega) h0 (by omega)
    have ha : xs[a]? = some xs[a] := List.getElem?_eq_getElem k2
    obtain ⟨y, pot3, e3, ny, p3⟩ := bent_atom (me := me) p2 (by omega) (hx _ (List.getElem_mem k2))
    have hat : L2.atI xs (a : Int) = some xs[a] := L2.atI_nat ha
    have s1 : (cutD xs none (some (a : Int))).length + 1 ≤ 16777216 := by
      have := len_cut (xs := xs) (lo := none) (hi := some (a : Int))
      omega
    have s2 : (cutD xs none (some (a : Int))).length + ((cutD xs (some ((a : Int) + 1)) none).length + 1) ≤ 16777216 := by
      have := len_cut (xs := xs) (lo := none) (hi := some (a : Int))
      have := len_cut (xs := xs) (lo := some ((a : Int) + 1)) (hi := none)
      omega
    have s3 : (cutD xs none (some (a : Int))).length + 1 + (cutD xs (some ((a : Int) + 1)) none).length ≤ 16777216 := by omega
    refine ⟨.tup (cutD xs none (some (a : Int)) ++ [y] ++ cutD xs (some ((a : Int) + 1)) none), pot3, ?_, ?_, p3.mono (by omega)⟩
    · have t2 : gB (runFn (gB me) 0 3 [true, false] b__law_bent) 2 = r__law_take := rfl
      have t3 : gB (runFn (gB me) 0 3 [true, false] b__law_bent) 3 = runFn (gB me) 0 3 [true, false] b__law_bent := rfl
      generalize gB (runFn (gB me) 0 3 [true, false] b__law_bent) = G at t2 t3 ⊢
      generalize runFn (gB me) 0 3 [true, false] b__law_bent = bb at e3 t3
      simp [runFn, b__law_bent, initE, rdVar, cstD, prD, prS, pr1, pr2, isiD, isTy, cmpD, orD, hne, ownL, t2, t3, e1', hd, backOs, lenD, e2, setTg, free, slD, asInt, ixD, hat, e3, binD, short, s1, s2, s3, outsE]
    · simp only [Fine, List.all_append, Bool.and_eq_true, List.all_eq_true]
      refine ⟨⟨fun x h => atom_nex (hx x (mem_cut h)), fun x h => ?_⟩, fun x h => atom_nex (hx x (mem_cut h))⟩
      rw [List.mem_singleton] at h
      rw [h]; exact ny
  · have hd0 : d = 0 := by omega
    subst hd0
    have s1 : xs.length + (cutD xs (some (-1)) none).length ≤ 16777216 := by
      have := len_cut (xs := xs) (lo := some (-1)) (hi := none)
      omega
    obtain ⟨y, pot2, hy, e2, p2⟩ := of_pv p1 (by omega) (xs := [.lst xs, .tup (cutD xs (some 1) none), .tup (cutD xs none (some (-1))), .tup (xs ++ cutD xs (some (-1)) none), .tup xs.reverse, .tup [], .non]) (by simp) (by simp)
    refine ⟨y, pot2, ?_, ?_, p2.mono (by omega)⟩
    · have t1 : gB (runFn (gB me) 0 3 [true, false] b__law_bent) 1 = r__law_of := rfl
      have t2 : gB (runFn (gB me) 0 3 [true, false] b__law_bent) 2 = r__law_take := rfl
      generalize gB (runFn (gB me) 0 3 [true, false] b__law_bent) = G at t1 t2 ⊢
      have e1'' : r__law_take [.lst pot, .int 5] = some (.int 0, [pot1]) := e1'
      simp [runFn, b__law_bent, initE, rdVar, cstD, prD, prS, pr1, pr2, isiD, isTy, cmpD, orD, hne, ownL, t1, t2, e1'', backOs, negD, slD, asInt, revD, seqOf, binD, short, s1, e2, outsE]
    · have hall : ∀ l : List Dv, (∀ x ∈ l, x ∈ xs) → Fine (.tup l) = true := fun l h => by
        simp only [Fine, List.all_eq_true]
        exact fun x hl => atom_nex (hx x (h x hl))
      simp only [List.mem_cons, List.not_mem_nil, or_false] at hy
      rcases hy with rfl | rfl | rfl | rfl | rfl | rfl | rfl
      · rfl
      · exact hall _ fun x h => mem_cut h
      · exact hall _ fun x h => mem_cut h
      · exact hall _ fun x h => (List.mem_append.mp h).elim id mem_cut
      · exact hall _ fun x h => List.mem_reverse.mp h
      · rfl
      · rfl
end CF

set_option Elab.async false
set_option linter.all false
set_option maxRecDepth 100000
namespace CF
open PySem L2 K61
/-! reprs -/
def small (p : Pt) : Prop := p.1.natAbs ≤ 100000 ∧ p.2.natAbs ≤ 100000
theorem log_small {i : Int} (h : i.natAbs ≤ 100000) : i.natAbs.log2 < 1920 := by
  by_cases h0 : i.natAbs = 0
  · rw [h0]; decide
  · exact (Nat.log2_lt h0).mpr (Nat.lt_of_le_of_lt h (by decide +kernel))
theorem leaf_small {i : Int} (h : i.natAbs ≤ 100000) : PyData.leavesShort 1921 (.int i) = true := by
  simp only [PyData.leavesShort, PyData.shown]
  exact decide_eq_true (PyProof.Rows.int_text_len_1921 (log_small h))
theorem pts_plain : ∀ l : List Pt, Dv.plains (l.map pt) = true
  | [] => rfl
  | p :: l => by rw [List.map_cons, Dv.plains, pts_plain l]; rfl
theorem pts_show : ∀ l : List Pt, (∀ p ∈ l, small p) → PyData.showableAll (Dv.toPs (l.map pt)) = true ∧ PyData.leavesShortAll 1921 (Dv.toPs (l.map pt)) = true ∧ PyData.bulkAll (Dv.toPs (l.map pt)) = 3 * l.length ∧ PyData.depthAll (Dv.toPs (l.map pt)) ≤ 1
  | [], _ => ⟨rfl, rfl, rfl, by decide⟩
  | p :: l, h => by
    obtain ⟨h1, h2, h3, h4⟩ := pts_show l fun q hq => h q (List.mem_cons_of_mem _ hq)
    obtain ⟨a, b⟩ := h p List.mem_cons_self
    simp only [List.map_cons, Dv.toPs, PyData.showableAll, PyData.leavesShortAll, PyData.bulkAll, PyData.depthAll, h1, h2, h3, Bool.and_true]
    refine ⟨?_, ?_, ?_, ?_⟩
    · simp [pt, Dv.toP, Dv.toPs, PyData.showable, PyData.showableAll, log_small a, log_small b]
    · have x := leaf_small a
      have y := leaf_small b
      simp [pt, Dv.toP, Dv.toPs, PyData.leavesShort, PyData.leavesShortAll] at x y ⊢
      exact ⟨x, y⟩
    · simp [pt, Dv.toP, Dv.toPs, PyData.bulk, PyData.bulkAll]; omega
    · have : PyData.depth (pt p).toP = 1 := by simp [pt, Dv.toP, Dv.toPs, PyData.depth, PyData.depthAll]
      rw [this]
      exact Nat.max_le.mpr ⟨Nat.le_refl _, h4⟩
theorem repr_pts {l : List Pt} (h : ∀ p ∈ l, small p) (hl : l.length ≤ 2000) : ∃ s, Dv.reprD (.tup (l.map pt)) = some s := by
  obtain ⟨h1, h2, h3, h4⟩ := pts_show l h
  have hp : (Dv.tup (l.map pt)).plain = true := pts_plain l
  have hb := PyData.shown_le_bulk 1921 (by decide) (Dv.tup (l.map pt)).toP (by simp only [Dv.toP, PyData.leavesShort]; exact h2)
  have hb2 : PyData.bulk (Dv.tup (l.map pt)).toP = 3 * l.length := by simp only [Dv.toP, PyData.bulk]; exact h3
  rw [hb2] at hb
  have hs : Dv.shows (Dv.tup (l.map pt)).toP = true := by
    simp only [Dv.shows, Bool.and_eq_true, decide_eq_true_eq]
    refine ⟨⟨?_, by omega⟩, ?_⟩
    · simp only [Dv.toP, PyData.showable]; exact h1
    · simp only [Dv.toP, PyData.depth]; omega
  refine ⟨(Dv.tup (l.map pt)).toP.shown, ?_⟩
  simp [Dv.reprD, Dv.lookP, hp, hs]
theorem repr_pt {p : Pt} (h : small p) : ∃ s, Dv.reprD (pt p) = some s := by
  have x := leaf_small h.1
  have y := leaf_small h.2
  have hp : (pt p).plain = true := rfl
  have hl : PyData.leavesShort 1921 (pt p).toP = true := by
    simp [pt, Dv.toP, Dv.toPs, PyData.leavesShort, PyData.leavesShortAll] at x y ⊢
    exact ⟨x, y⟩
  have hb := PyData.shown_le_bulk 1921 (by decide) (pt p).toP hl
  have hb2 : PyData.bulk (pt p).toP = 2 := by simp [pt, Dv.toP, Dv.toPs, PyData.bulk, PyData.bulkAll]
  rw [hb2] at hb
  have hs : Dv.shows (pt p).toP = true := by
    simp only [Dv.shows, Bool.and_eq_true, decide_eq_true_eq]
    refine ⟨⟨?_, by omega⟩, ?_⟩
    · simp [pt, Dv.toP, Dv.toPs, PyData.showable, PyData.showableAll, log_small h.1, log_small h.2]
    · simp [pt, Dv.toP, Dv.toPs, PyData.depth, PyData.depthAll]
  refine ⟨(pt p).toP.shown, ?_⟩
  have : Dv.reprD (pt p) = (Dv.lookP (pt p)).bind fun p => if Dv.shows p then some p.shown else none := rfl
  rw [this]
  have : Dv.lookP (pt p) = some (pt p).toP := rfl
  rw [this]
  simp [hs]
theorem to_small : ∀ (w : List Bool) (p d : Pt) (n : Nat), un d → p.1.natAbs ≤ n → p.2.natAbs ≤ n → ∀ e ∈ eds p d w, (to e).1.natAbs ≤ n + w.length + 1 ∧ (to e).2.natAbs ≤ n + w.length + 1
  | [], p, d, n, hu, h1, h2, e, he => by
    rw [eds, List.mem_singleton] at he
    subst he
    rcases hu with rfl | rfl | rfl | rfl <;> simp [to, add] <;> omega
  | l :: r, p, d, n, hu, h1, h2, e, he => by
    rw [eds] at he
    have h3 : (add p d).1.natAbs ≤ n + 1 ∧ (add p d).2.natAbs ≤ n + 1 := by
      rcases hu with rfl | rfl | rfl | rfl <;> simp [add] <;> omega
    rw [List.length_cons]
    rcases List.mem_cons.mp he with rfl | he
    · show (add p d).1.natAbs ≤ _ ∧ (add p d).2.natAbs ≤ _
      omega
    · have := to_small r (add p d) (trn l d) (n + 1) (un_trn l hu) h3.1 h3.2 e he
      omega
theorem repr_path {w : List Bool} (h : w.length ≤ 1000) : ∃ s, Dv.reprD (.tup (pth w)) = some s := by
  refine repr_pts (fun p hp => ?_) (by
    have := pth_len w
    simp only [pth, List.length_map] at this
    omega)
  rcases List.mem_cons.mp hp with rfl | hp
  · exact ⟨by decide, by decide⟩
  · obtain ⟨e, he, rfl⟩ := List.mem_map.mp hp
    have := to_small w (0, 0) (1, 0) 0 (.inl rfl) (by decide) (by decide) e he
    exact ⟨by omega, by omega⟩
/-! the last point -/
theorem last_pth (w : List Bool) : L2.atI (pth w) (-1) = some (pt (K61.last (e0 w))) := by
  have hne : e0 w ≠ [] := eds_ne _ _ _
  have h : pth w = (pt (0, 0) :: ((e0 w).dropLast.map to).map pt) ++ [pt (K61.last (e0 w))] := by
    have : e0 w = (e0 w).dropLast ++ [(e0 w).getLast hne] := (List.dropLast_concat_getLast hne).symm
    have hl : K61.last (e0 w) = to ((e0 w).getLast hne) := by
      unfold K61.last
      rw [List.getLast?_eq_some_getLast hne]
    rw [hl]
    unfold pth pts
    conv => lhs; rw [this]
    simp
  rw [h]
  exact L2.atI_last _ _
theorem once_hw {ts : List Bool} : told (hw ts) = .tup [.str "once"] := by
  have : ft (hw ts) = none := ft_none.mpr (sds_hw ts)
  simp only [told, this]
end CF

set_option Elab.async false
set_option linter.all false
set_option maxRecDepth 100000
namespace CF
open PySem L2 K61
def nthS : Sms → Nat → Sm
  | .nil, _ => .pass
  | .cons s _, 0 => s
  | .cons _ r, n + 1 => nthS r n
def lapB : Sms := match b__law_right with
  | .cons (.for_ _ _ b) _ => b
  | _ => .nil
theorem lapB_eq : lapB = .cons (nthS lapB 0) (.cons (nthS lapB 1) (.cons (nthS lapB 2) (.cons (nthS lapB 3) (.cons (nthS lapB 4) (.cons (nthS lapB 5) (.cons (nthS lapB 6) (.cons (nthS lapB 7) (.cons (nthS lapB 8) (.cons (nthS lapB 9) (.cons (nthS lapB 10) .nil)))))))))) := rfl
def GR : Tab := tab [r_path_of, r_end_of, r__law_product, r_gone_once, r_halved_word, r__law_of, r__law_take, r__law_odd, r__law_bent, r__law_is_bool, r_shows_gone_once, r__law_is_due, r__law_sides, r__law_path]
theorem gr0 : GR 0 = r_path_of := rfl
theorem gr1 : GR 1 = r_end_of := rfl
theorem gr2 : GR 2 = r__law_product := rfl
theorem gr3 : GR 3 = r_gone_once := rfl
theorem gr4 : GR 4 = r_halved_word := rfl
theorem gr5 : GR 5 = r__law_of := rfl
theorem gr6 : GR 6 = r__law_take := rfl
theorem gr7 : GR 7 = r__law_odd := rfl
theorem gr8 : GR 8 = r__law_bent := rfl
theorem gr9 : GR 9 = r__law_is_bool := rfl
theorem gr10 : GR 10 = r_shows_gone_once := rfl
theorem gr11 : GR 11 = r__law_is_due := rfl
theorem gr12 : GR 12 = r__law_sides := rfl
theorem gr13 : GR 13 = r__law_path := rfl
theorem list_of {α : Type} {f : α → Dv} : ∀ (xs : List Dv), (∀ (i : Nat) x, xs[i]? = some x → ∃ a, x = f a) → ∃ l : List α, xs = l.map f ∧ l.length = xs.length
  | [], _ => ⟨[], rfl, rfl⟩
  | x :: xs, h => by
    obtain ⟨a, rfl⟩ := h 0 x rfl
    obtain ⟨l, e, n⟩ := list_of xs fun i y hy => h (i + 1) y (by rw [List.getElem?_cons_succ]; exact hy)
    exact ⟨a :: l, by rw [e]; rfl, by rw [List.length_cons, List.length_cons, n]⟩
theorem rng_some {n : Nat} (h : n ≤ 100000) : ∃ ds, rngD 0 (n : Int) = some ds ∧ ds.length = n := by
  refine ⟨(List.range n).map fun (k : Nat) => .int (0 + (k : Int)), ?_, by simp⟩
  have h1 : (n : Int) < 4611686018427387904 := by omega
  have h2 : -(4611686018427387904 : Int) ≤ n := by omega
  simp [rngD, h1, h2]
theorem join_of {α : Type} (f : α → Nat) (l : List α) (h : l.length ≤ 1000) : joinD (.str ⟨#[]⟩) (.lst (l.map fun a => Dv.str ⟨#[f a]⟩)) = some (.str ⟨(l.map f).toArray⟩) := by
  have h1 := sum_ones l f
  have h2 := join_signs f l
  simp only [joinD, strsOf_map, Option.bind_some, h1, h2]
  have : (⟨#[]⟩ : Str).length = 0 := rfl
  rw [this, Nat.mul_zero, Nat.add_zero]
  simp
  omega
abbrev pick (a b : Str) : Ex := .call 5 (.cons (.o 0) (.cons (.e (.pr .lst (.cons (.e (.cst (.str a))) (.cons (.e (.cst (.str b))) .nil)))) .nil))
theorem pick_eq {pot : List Dv} {c : Nat} {r : List SV} {A B : Nat} {a b : Str} (ha : a = ⟨#[A]⟩) (hb : b = ⟨#[B]⟩) (h : Pv pot c) (hc : c < 1000000) : ∃ (y : Bool) (pot' : List Dv), evE GR (pick a b) (.lst true pot :: r) = some (.str ⟨#[if y then B else A]⟩, .lst true pot' :: r) ∧ Pv pot' (c + 1) := by
  subst ha
  subst hb
  obtain ⟨x, pot', hx, e, p⟩ := of_pv h hc (xs := [.str ⟨#[A]⟩, .str ⟨#[B]⟩]) (by simp) (by simp)
  simp at hx
  rcases hx with rfl | rfl
  · refine ⟨false, pot', ?_, p⟩
    simp [pick, cstD, prD, short, ownL, gr5, e, backOs]
  · refine ⟨true, pot', ?_, p⟩
    simp [pick, cstD, prD, short, ownL, gr5, e, backOs]
theorem pick_comp {pot : List Dv} {c n m : Nat} {s1 s2 s3 s4 s5 s6 s7 s8 s9 s10 : SV} {A B : Nat} {a b : Str} (ha : a = ⟨#[A]⟩) (hb : b = ⟨#[B]⟩) (h : Pv pot c) (hn : n ≤ 1000) (hc : c + n < 1000000) (hm : m = 9 ∨ m = 10) (ds : List Dv) (hds : ds.length = n) :
    ∃ (w : List Bool) (pot' : List Dv), w.length = n ∧ compL (testL []) (evE GR (pick a b)) (.n m) [m] ds [] (wipeE [.lst true pot, s1, s2, s3, s4, s5, s6, s7, s8, s9, s10] [m]) = some (w.map fun y => Dv.str ⟨#[if y then B else A]⟩, wipeE [.lst true pot', s1, s2, s3, s4, s5, s6, s7, s8, s9, s10] [m]) ∧ Pv pot' (c + n) := by
  obtain ⟨xs, η', e, ⟨pot', p, rfl⟩, l, q⟩ := compL_st (elt := evE GR (pick a b)) (tg := .n m) (own := [m]) (fun k η => ∃ pot', Pv pot' (c + k) ∧ η = wipeE [.lst true pot', s1, s2, s3, s4, s5, s6, s7, s8, s9, s10] [m]) (fun _ x => ∃ y : Bool, x = .str ⟨#[if y then B else A]⟩) ds 0 [] (wipeE [.lst true pot, s1, s2, s3, s4, s5, s6, s7, s8, s9, s10] [m]) (fun k η d hk hd => by
    rintro ⟨pot1, p1, rfl⟩
    have hk2 : k < n := by
      obtain ⟨hlt, _⟩ := List.getElem?_eq_some_iff.mp hd
      omega
    rcases hm with rfl | rfl
    · obtain ⟨y, pot2, e2, p2⟩ := pick_eq (r := [s1, s2, s3, s4, s5, s6, s7, s8, .dat d, s10]) ha hb p1 (by omega)
      refine ⟨_, _, _, by simp [wipeE, setTg, free], e2, by simp [noOwn, SV.own], ⟨pot2, p2, by simp [wipeE]⟩, ⟨y, rfl⟩⟩
    · obtain ⟨y, pot2, e2, p2⟩ := pick_eq (r := [s1, s2, s3, s4, s5, s6, s7, s8, s9, .dat d]) ha hb p1 (by omega)
      refine ⟨_, _, _, by simp [wipeE, setTg, free], e2, by simp [noOwn, SV.own], ⟨pot2, p2, by simp [wipeE]⟩, ⟨y, rfl⟩⟩) ⟨pot, h, rfl⟩ (by simp; omega)
  obtain ⟨w, rfl, lw⟩ := list_of xs fun i x hx => q i x hx
  refine ⟨w, pot', by omega, ?_, by rw [Nat.zero_add, hds] at p; exact p⟩
  rw [List.nil_append] at e
  exact e
/-- slots as they stand: none is a list or a dict of the def's own -/
def flat : SV → Bool
  | .no => true
  | .dat _ => true
  | _ => false
theorem flat_fr {s : SV} (h : flat s = true) : fr s = true := by cases s <;> first | rfl | cases h
theorem flat_own {s : SV} (h : flat s = true) : s.own = false := by cases s <;> first | rfl | cases h
theorem s0_eq {pot : List Dv} {c : Nat} {s1 s2 s3 s4 s5 s6 s7 s8 s9 s10 : SV} (h : Pv pot c) (hc : c < 10000) (f2 : flat s2 = true) (f9 : flat s9 = true) :
    ∃ (w : List Bool) (pot' : List Dv), w.length ≤ 40 ∧ evS GR 0 (nthS lapB 0) [.lst true pot, s1, s2, s3, s4, s5, s6, s7, s8, s9, s10] = some (.nx, [.lst true pot', s1, .dat (.str (wt w)), s3, s4, s5, s6, s7, s8, s9, s10]) ∧ Pv pot' (c + 42) := by
  obtain ⟨x, pot1, hx, e1, p1⟩ := of_pv h (by omega) (xs := [.int 6, .int 41]) (by simp) (by simp)
  have hm : ∃ m : Nat, 0 < m ∧ m ≤ 41 ∧ x = .int (m : Int) := by
    simp at hx
    rcases hx with rfl | rfl
    · exact ⟨6, by decide, by decide, rfl⟩
    · exact ⟨41, by decide, by decide, rfl⟩
  obtain ⟨m, m0, m1, rfl⟩ := hm
  obtain ⟨d, pot2, e2, d1, p2⟩ := take_pv p1 (by omega) m0 (by omega)
  obtain ⟨ds, r1, r2⟩ := rng_some (n := d) (by omega)
  obtain ⟨w, pot3, lw, ec, p3⟩ := pick_comp (s1 := s1) (s2 := s2) (s3 := s3) (s4 := s4) (s5 := s5) (s6 := s6) (s7 := s7) (s8 := s8) (s9 := s9) (s10 := s10) (m := 9) lit_m lit_v p2 (n := d) (by omega) (by omega) (.inl rfl) ds r2
  have f2' := fr_free (flat_fr f2)
  simp only [free, List.getElem?_cons_zero] at f2'
  have o9 := flat_own f9
  refine ⟨w, pot3, by omega, ?_, p3.mono (by omega)⟩
  have hz : evI GR (.rng1 (.call 6 (.cons (.o 0) (.cons (.e (.call 5 (.cons (.o 0) (.cons (.e (.pr .lst (.cons (.e (.cst (.int 6))) (.cons (.e (.cst (.int 41))) .nil)))) .nil)))) .nil)))) [.lst true pot, s1, s2, s3, s4, s5, s6, s7, s8, s9, s10] = some (ds, [.lst true pot2, s1, s2, s3, s4, s5, s6, s7, s8, s9, s10]) := by
    rw [evI]
    simp [cstD, prD, short, ownL, gr5, gr6, e1, e2, backOs, r1]
  have hcm := comp_eq (η3 := [.lst true pot3, s1, s2, s3, s4, s5, s6, s7, s8, s9, s10]) hz (by simp [noOwn, o9]) ec (by simp [wipeE, unwipe])
  have hj := join_of wch w (by omega)
  have hj2 : joinD (.str ⟨#[]⟩) (.lst (w.map fun y => Dv.str ⟨#[if y then 118 else 109]⟩)) = some (.str (wt w)) := hj
  have he : cstD (.str (Str.ofString "")) = some (.str ⟨#[]⟩) := by rw [lit_e]; rfl
  have hs : nthS lapB 0 = .set (.n 2) (.pr .join (.cons (.e (.cst (.str ""))) (.cons (.e (.comp (pick "m" "v") (.n 9) (.rng1 (.call 6 (.cons (.o 0) (.cons (.e (.call 5 (.cons (.o 0) (.cons (.e (.pr .lst (.cons (.e (.cst (.int 6))) (.cons (.e (.cst (.int 41))) .nil)))) .nil)))) .nil)))) [] [9])) .nil))) := rfl
  rw [hs]
  simp [he, hcm, prD, prS, pr2, hj2, setTg, free, f2']
end CF

set_option Elab.async false
set_option linter.all false
set_option maxRecDepth 100000
namespace CF
open PySem L2 K61
section
variable {s1 s2 s3 s4 s5 s6 s7 s8 s9 s10 : SV} {pot : List Dv} {w : List Bool} {c : Nat}
theorem s1_eq (hw : w.length ≤ 60) : evS GR 0 (nthS lapB 1) [.lst true pot, s1, .dat (.str (wt w)), s3, s4, s5, s6, s7, s8, s9, s10] = some (.nx, [.lst true pot, s1, .dat (.str (wt w)), s3, s4, s5, s6, s7, s8, s9, s10]) := by
  have h1 := path_of_eq (w := w) (by omega)
  have h2 := law_path_eq (w := w) (by omega)
  obtain ⟨s, hs⟩ := repr_path (w := w) (by omega)
  simp [nthS, lapB, b__law_right, gr0, gr13, rdVar, h1, h2, backOs, prD, prS, pr1, pr2, seqOf, hs, cmpD, eqD, Dv.plain, Dv.depth, Dv.beq]
theorem s2_eq (hw : w.length ≤ 60) (f : flat s3 = true) : evS GR 0 (nthS lapB 2) [.lst true pot, s1, .dat (.str (wt w)), s3, s4, s5, s6, s7, s8, s9, s10] = some (.nx, [.lst true pot, s1, .dat (.str (wt w)), .dat (told w), s4, s5, s6, s7, s8, s9, s10]) := by
  have h1 := gone_eq (w := w) (by omega)
  have f' := fr_free (flat_fr f)
  simp only [free, List.getElem?_cons_zero] at f'
  simp [nthS, lapB, b__law_right, gr3, rdVar, h1, backOs, setTg, free, f']
theorem s3_eq (hw : w.length ≤ 60) (f : flat s4 = true) : evS GR 0 (nthS lapB 3) [.lst true pot, s1, .dat (.str (wt w)), s3, s4, s5, s6, s7, s8, s9, s10] = some (.nx, [.lst true pot, s1, .dat (.str (wt w)), s3, .dat (.lst (sdv w)), s5, s6, s7, s8, s9, s10]) := by
  have h1 := law_path_eq (w := w) (by omega)
  have h2 := law_sides_eq (w := w) (by omega)
  have f' := fr_free (flat_fr f)
  simp only [free, List.getElem?_cons_zero] at f'
  simp [nthS, lapB, b__law_right, gr12, gr13, rdVar, h1, h2, backOs, setTg, free, f']
theorem told_once : eqD (told w) (.tup [.str "once"]) = some (ft w).isNone := by
  have h : ((Str.ofString "twice") == (Str.ofString "once")) = false := by decide +kernel
  unfold told
  cases ft w with
  | none => rfl
  | some p => simp [eqD, Dv.plain, Dv.plains, Dv.depth, Dv.depths, Dv.beq, Dv.beqs, h]
theorem s4_eq (hw : w.length ≤ 60) : evS GR 0 (nthS lapB 4) [.lst true pot, s1, .dat (.str (wt w)), .dat (told w), .dat (.lst (sdv w)), s5, s6, s7, s8, s9, s10] = some (.nx, [.lst true pot, s1, .dat (.str (wt w)), .dat (told w), .dat (.lst (sdv w)), s5, s6, s7, s8, s9, s10]) := by
  have h1 := due_told (w := w) hw
  obtain ⟨n, hl, hn⟩ := lenset_eq (sds w) (by rw [sds_len]; omega)
  have hl' : lenSetD (.lst (sdv w)) = some (.int n) := hl
  have hlen : lenD (.lst (sdv w)) = some (.int ((sds w).length : Int)) := by simp [lenD, sdv]
  have he : ((n : Int) == ((sds w).length : Int)) = (ft w).isNone := by
    rw [Bool.eq_iff_iff]
    simp only [Option.isNone_iff_eq_none, ft_none, ← hn, beq_iff_eq]
    omega
  have x1 : ∀ a b : Int, eqD (.int a) (.int b) = some (a == b) := fun _ _ => rfl
  have x2 : ∀ a b : Bool, eqD (.bl a) (.bl b) = some (a == b) := fun _ _ => rfl
  have ht := told_once (w := w)
  simp [nthS, lapB, b__law_right, gr11, rdVar, h1, backOs, cstD, prD, prS, pr1, pr2, short, cmpD, ht, hl', hlen, x1, x2, he]
def eight (w : List Bool) (ts : List Dv) : List Dv := [told w, .tup [.str "once"], .tup [.str "twice", .int 0, .int 4], .tup [.str "twice", .int 4, .int 0], .tup [.str "twice", .int 0, .int 0], .tup [.str "twice"], .non, .lst ts]
theorem told_tup : ∃ ts, told w = .tup ts ∧ 0 < ts.length ∧ ts.length ≤ 3 ∧ (w.length ≤ 60 → ∀ x ∈ ts, Atom x) := by
  have h1 : (Str.ofString "once").length ≤ 1000 := by decide +kernel
  have h2 : (Str.ofString "twice").length ≤ 1000 := by decide +kernel
  cases hf : ft w with
  | none => exact ⟨[.str "once"], by simp only [told, hf], by simp, by simp, fun _ x hx => by
      rw [List.mem_singleton] at hx
      subst hx
      exact h1⟩
  | some p =>
    obtain ⟨i, j⟩ := p
    have := ft_some hf
    exact ⟨[.str "twice", .int (i : Int), .int (j : Int)], by simp only [told, hf], by simp, by simp, fun hw x hx => by
      simp at hx
      rcases hx with rfl | rfl | rfl
      · exact h2
      · show (i : Int).natAbs ≤ 100000
        omega
      · show (j : Int).natAbs ≤ 100000
        omega⟩
theorem s5_eq {ts : List Dv} (ht : told w = .tup ts) (f : flat s5 = true) : evS GR 0 (nthS lapB 5) [.lst true pot, s1, s2, .dat (told w), s4, s5, s6, s7, s8, s9, s10] = some (.nx, [.lst true pot, s1, s2, .dat (told w), s4, .dat (.lst (eight w ts)), s6, s7, s8, s9, s10]) := by
  have f' := fr_free (flat_fr f)
  simp only [free, List.getElem?_cons_zero] at f'
  have h2 : seqOf (told w) = some ts := by rw [ht]; rfl
  simp [nthS, lapB, b__law_right, rdVar, cstD, prD, prS, pr1, short, setTg, free, f', h2, eight]
abbrev bentE : Ex := .call 8 (.cons (.o 0) (.cons (.e (.var 3)) .nil))
theorem bent_comp {ts : List Dv} {n : Nat} (h : Pv pot c) (hn : n ≤ 100) (hc : c + 4 * n < 10000) (hx : ∀ x ∈ ts, Atom x) (h0 : 0 < ts.length) (h1 : ts.length ≤ 3) (ds : List Dv) (hds : ds.length = n) :
    ∃ (xs : List Dv) (pot' : List Dv), xs.length = n ∧ (∀ x ∈ xs, Fine x = true) ∧ compL (testL []) (evE GR bentE) (.n 10) [10] ds [] (wipeE [.lst true pot, s1, s2, .dat (.tup ts), s4, s5, s6, s7, s8, s9, s10] [10]) = some (xs, wipeE [.lst true pot', s1, s2, .dat (.tup ts), s4, s5, s6, s7, s8, s9, s10] [10]) ∧ Pv pot' (c + 4 * n) := by
  obtain ⟨xs, η', e, ⟨pot', p, rfl⟩, l, q⟩ := compL_st (elt := evE GR bentE) (tg := .n 10) (own := [10]) (fun k η => ∃ pot', Pv pot' (c + 4 * k) ∧ η = wipeE [.lst true pot', s1, s2, .dat (.tup ts), s4, s5, s6, s7, s8, s9, s10] [10]) (fun _ x => Fine x = true) ds 0 [] (wipeE [.lst true pot, s1, s2, .dat (.tup ts), s4, s5, s6, s7, s8, s9, s10] [10]) (fun k η d hk hd => by
    rintro ⟨pot1, p1, rfl⟩
    have hk2 : k < n := by
      obtain ⟨hlt, _⟩ := List.getElem?_eq_some_iff.mp hd
      omega
    obtain ⟨x, pot2, e2, f2, p2⟩ := bent_tup (me := recR (fun me => [r__law_odd, r__law_of, r__law_take, me]) 0 3 [true, false] b__law_bent 1) p1 (by omega) hx h0 (by omega)
    have e3 : r__law_bent [.lst pot1, .tup ts] = some (x, [pot2]) := e2
    refine ⟨[.lst true pot1, s1, s2, .dat (.tup ts), s4, s5, s6, s7, s8, s9, .dat d], x, [.lst true pot2, s1, s2, .dat (.tup ts), s4, s5, s6, s7, s8, s9, .dat d], by simp [wipeE, setTg, free], ?_, by simp [noOwn, SV.own], ⟨pot2, p2.mono (by omega), by simp [wipeE]⟩, f2⟩
    simp [bentE, rdVar, ownL, gr8, e3, backOs]) ⟨pot, h, rfl⟩ (by simp; omega)
  refine ⟨xs, pot', by omega, fun x hx => ?_, by rw [List.nil_append] at e; exact e, by rw [Nat.zero_add, hds] at p; exact p⟩
  obtain ⟨i, hi⟩ := List.getElem?_of_mem hx
  exact q i x hi
def fV : Sms := match nthS lapB 6 with
  | .for_ _ _ b => b
  | _ => .nil
theorem value_body {v : Dv} (hw : w.length ≤ 60) (hv : Fine v = true) : evSs GR 0 fV [.lst true pot, s1, .dat (.str (wt w)), s3, s4, s5, .dat v, s7, s8, s9, s10] = some (.nx, [.lst true pot, s1, .dat (.str (wt w)), s3, s4, s5, .dat v, s7, s8, s9, s10]) := by
  obtain ⟨b, h1, h2⟩ := both hw hv
  have h3 : r__law_is_bool [.bl b, .bl b] = some (.bl true, []) := by cases b <;> rfl
  have hb : fV = .cons (.ite (.not (.call 9 (.cons (.e (.callK 10 (.cons (.e (.var 2)) .nil) (.cons (.e (.var 6)) .nil) ["value"])) (.cons (.e (.call 11 (.cons (.e (.var 2)) (.cons (.e (.var 6)) .nil)))) .nil)))) (.cons (.ret (.cst (.bool false))) .nil) .nil) .nil := rfl
  rw [hb]
  simp [gr9, gr10, gr11, rdVar, h1, h2, h3, backOs]
theorem s6_eq {ts : List Dv} (hw : w.length ≤ 60) (ht : told w = .tup ts) (h : Pv pot c) (hc : c < 5000) (f6 : flat s6 = true) (f10 : flat s10 = true) :
    ∃ pot' s6', flat s6' = true ∧ evS GR 0 (nthS lapB 6) [.lst true pot, s1, .dat (.str (wt w)), .dat (told w), s4, .dat (.lst (eight w ts)), s6, s7, s8, s9, s10] = some (.nx, [.lst true pot', s1, .dat (.str (wt w)), .dat (told w), s4, .dat (.lst (eight w ts)), s6', s7, s8, s9, s10]) ∧ Pv pot' (c + 25) := by
  obtain ⟨ts', ht', l0, l3, at'⟩ := told_tup (w := w)
  rw [ht] at ht'
  cases ht'
  have hat := at' hw
  obtain ⟨o, pot1, ho, e1, p1⟩ := odd_pv h (by omega)
  obtain ⟨ds, r1, r2⟩ := rng_some (n := 6) (by omega)
  have r1' : rngD 0 6 = some ds := r1
  obtain ⟨bs, pot2, lb, fb, e2, p2⟩ := bent_comp (s1 := s1) (s2 := .dat (.str (wt w))) (s4 := s4) (s5 := .dat (.lst (eight w ts))) (s6 := s6) (s7 := s7) (s8 := s8) (s9 := s9) (s10 := s10) (n := 6) p1 (by omega) (by omega) hat l0 l3 ds r2
  have o10 := flat_own f10
  have hz : evI GR (.rng1 (.cst (.int 6))) [.lst true pot1, s1, .dat (.str (wt w)), .dat (.tup ts), s4, .dat (.lst (eight w ts)), s6, s7, s8, s9, s10] = some (ds, [.lst true pot1, s1, .dat (.str (wt w)), .dat (.tup ts), s4, .dat (.lst (eight w ts)), s6, s7, s8, s9, s10]) := by
    rw [evI]
    simp [cstD, r1']
  have hcm := comp_eq (η3 := [.lst true pot2, s1, .dat (.str (wt w)), .dat (.tup ts), s4, .dat (.lst (eight w ts)), s6, s7, s8, s9, s10]) hz (by simp [noOwn, o10]) e2 (by simp [wipeE, unwipe])
  have l8 : (eight w ts).length = 8 := rfl
  have hq : evI GR (.seq (.e (.pr (.bin .Add) (.cons (.e (.pr (.bin .Add) (.cons (.e (.var 5)) (.cons (.e (.pr .lst (.cons (.e (.call 7 (.cons (.o 0) .nil))) .nil))) .nil)))) (.cons (.e (.comp bentE (.n 10) (.rng1 (.cst (.int 6))) [] [10])) .nil))))) [.lst true pot, s1, .dat (.str (wt w)), .dat (.tup ts), s4, .dat (.lst (eight w ts)), s6, s7, s8, s9, s10] = some (eight w ts ++ [o] ++ bs, [.lst true pot2, s1, .dat (.str (wt w)), .dat (.tup ts), s4, .dat (.lst (eight w ts)), s6, s7, s8, s9, s10]) := by
    refine seq_eq (d := .lst (eight w ts ++ [o] ++ bs)) ?_ rfl
    simp [rdVar, prD, prS, pr2, ownL, gr7, e1, backOs, hcm, binD, short, l8, lb]
  have hfine : ∀ v ∈ eight w ts ++ [o] ++ bs, Fine v = true := by
    intro v hv
    rw [List.mem_append, List.mem_append, List.mem_singleton] at hv
    rcases hv with (hv | rfl) | hv
    · have ft1 : Fine (told w) = true := by
        rw [ht]
        simp only [Fine, List.all_eq_true]
        exact fun x hx => atom_nex (hat x hx)
      simp only [eight, List.mem_cons, List.not_mem_nil, or_false] at hv
      rcases hv with rfl | rfl | rfl | rfl | rfl | rfl | rfl | rfl <;> first | exact ft1 | rfl
    · exact odds_fine ho
    · exact fb v hv
  obtain ⟨η', e3, s6', f6', rfl⟩ := forL_st (tg := .n 6) (body := evSs GR 0 fV) (fun _ η => ∃ s6', flat s6' = true ∧ η = [.lst true pot2, s1, .dat (.str (wt w)), .dat (.tup ts), s4, .dat (.lst (eight w ts)), s6', s7, s8, s9, s10]) (eight w ts ++ [o] ++ bs) 0 [.lst true pot2, s1, .dat (.str (wt w)), .dat (.tup ts), s4, .dat (.lst (eight w ts)), s6, s7, s8, s9, s10] (fun k η d _ hd => by
    rintro ⟨s6', f6', rfl⟩
    have f' := fr_free (flat_fr f6')
    simp only [free, List.getElem?_cons_zero] at f'
    refine ⟨_, _, by simp [setTg, free, f'], .inl (value_body hw (hfine d (List.mem_of_getElem? hd))), ⟨.dat d, rfl, rfl⟩⟩) ⟨s6, f6, rfl⟩
  refine ⟨pot2, s6', f6', ?_, p2.mono (by omega)⟩
  rw [ht]
  have hs : nthS lapB 6 = .for_ (.n 6) (.seq (.e (.pr (.bin .Add) (.cons (.e (.pr (.bin .Add) (.cons (.e (.var 5)) (.cons (.e (.pr .lst (.cons (.e (.call 7 (.cons (.o 0) .nil))) .nil))) .nil)))) (.cons (.e (.comp bentE (.n 10) (.rng1 (.cst (.int 6))) [] [10])) .nil))))) fV := rfl
  rw [hs]
  exact for_eq hq e3
end
end CF

set_option Elab.async false
set_option linter.all false
set_option maxRecDepth 100000
namespace CF
open PySem L2 K61
section
variable {s1 s2 s3 s4 s5 s6 s7 s8 s9 s10 : SV} {pot : List Dv} {w ts : List Bool} {c : Nat}
theorem s7_eq (h : Pv pot c) (hc : c < 10000) (f7 : flat s7 = true) (f10 : flat s10 = true) :
    ∃ (ts : List Bool) (pot' : List Dv), ts.length ≤ 9 ∧ evS GR 0 (nthS lapB 7) [.lst true pot, s1, s2, s3, s4, s5, s6, s7, s8, s9, s10] = some (.nx, [.lst true pot', s1, s2, s3, s4, s5, s6, .dat (.str (tx ts)), s8, s9, s10]) ∧ Pv pot' (c + 10) := by
  obtain ⟨d, pot2, e2, d1, p2⟩ := take_pv h (by omega) (n := 10) (by decide) (by decide)
  have e2' : r__law_take [.lst pot, .int 10] = some (.int (d : Int), [pot2]) := e2
  obtain ⟨ds, r1, r2⟩ := rng_some (n := d) (by omega)
  obtain ⟨w, pot3, lw, ec, p3⟩ := pick_comp (s1 := s1) (s2 := s2) (s3 := s3) (s4 := s4) (s5 := s5) (s6 := s6) (s7 := s7) (s8 := s8) (s9 := s9) (s10 := s10) (m := 10) lit_o lit_u p2 (n := d) (by omega) (by omega) (.inr rfl) ds r2
  have f7' := fr_free (flat_fr f7)
  simp only [free, List.getElem?_cons_zero] at f7'
  have o10 := flat_own f10
  refine ⟨w.map (!·), pot3, by rw [List.length_map]; omega, ?_, p3.mono (by omega)⟩
  have hz : evI GR (.rng1 (.call 6 (.cons (.o 0) (.cons (.e (.cst (.int 10))) .nil)))) [.lst true pot, s1, s2, s3, s4, s5, s6, s7, s8, s9, s10] = some (ds, [.lst true pot2, s1, s2, s3, s4, s5, s6, s7, s8, s9, s10]) := by
    rw [evI]
    simp [cstD, ownL, gr6, e2', backOs, r1]
  have hcm := comp_eq (η3 := [.lst true pot3, s1, s2, s3, s4, s5, s6, s7, s8, s9, s10]) hz (by simp [noOwn, o10]) ec (by simp [wipeE, unwipe])
  have hj := join_of (fun y : Bool => if y then 117 else 111) w (by omega)
  have ht : (⟨(w.map fun y => if y = true then 117 else 111).toArray⟩ : Str) = tx (w.map (!·)) := by
    have hm : (w.map fun y => if y = true then 117 else 111) = (w.map (!·)).map tch := by
      rw [List.map_map]
      exact List.map_congr_left fun y _ => by cases y <;> rfl
    rw [hm]
    rfl
  rw [ht] at hj
  have he : cstD (.str (Str.ofString "")) = some (.str ⟨#[]⟩) := by rw [lit_e]; rfl
  have hs : nthS lapB 7 = .set (.n 7) (.pr .join (.cons (.e (.cst (.str ""))) (.cons (.e (.comp (pick "o" "u") (.n 10) (.rng1 (.call 6 (.cons (.o 0) (.cons (.e (.cst (.int 10))) .nil)))) [] [10])) .nil))) := rfl
  rw [hs]
  simp [he, hcm, prD, prS, pr2, hj, setTg, free, f7']
theorem s8_eq (ht : ts.length ≤ 9) (f : flat s8 = true) : evS GR 0 (nthS lapB 8) [.lst true pot, s1, s2, s3, s4, s5, s6, .dat (.str (tx ts)), s8, s9, s10] = some (.nx, [.lst true pot, s1, s2, s3, s4, s5, s6, .dat (.str (tx ts)), .dat (.str (wt (hw ts))), s9, s10]) := by
  have h1 := halved_word_eq (ts := ts) (by omega)
  have f' := fr_free (flat_fr f)
  simp only [free, List.getElem?_cons_zero] at f'
  simp [nthS, lapB, b__law_right, gr4, rdVar, h1, backOs, setTg, free, f']
theorem hw_most (ht : ts.length ≤ 9) : (hw ts).length ≤ 1000 := by
  have h := hw_len ts []
  have hp : 2 ^ ts.length ≤ 2 ^ 9 := Nat.pow_le_pow_right (by decide) ht
  simp at h
  show (ts.foldl (fun w t => rfn t w) []).length ≤ 1000
  omega
theorem prod_small (ht : ts.length ≤ 9) : small (prod ts (1, 0)) := by
  have hp : 2 ^ ts.length ≤ 2 ^ 9 := Nat.pow_le_pow_right (by decide) ht
  have h := prod_bound ts (1, 0) 1 (by decide) (by decide)
  exact ⟨by omega, by omega⟩
theorem s9_eq (ht : ts.length ≤ 9) : evS GR 0 (nthS lapB 9) [.lst true pot, s1, s2, s3, s4, s5, s6, .dat (.str (tx ts)), .dat (.str (wt (hw ts))), s9, s10] = some (.nx, [.lst true pot, s1, s2, s3, s4, s5, s6, .dat (.str (tx ts)), .dat (.str (wt (hw ts))), s9, s10]) := by
  have h1 := gone_eq (w := hw ts) (by have := hw_most ht; omega)
  rw [once_hw] at h1
  have h2 := end_of_eq (ts := ts) (by omega)
  have h3 := product_eq (ts := ts) (by omega)
  obtain ⟨s, hs⟩ := repr_pt (prod_small ht)
  have h4 : eqD (.tup [.str "once"]) (.tup [.str "once"]) = some true := by decide +kernel
  have x2 : ∀ a b : Str, eqD (.str a) (.str b) = some (a == b) := fun _ _ => rfl
  simp [nthS, lapB, b__law_right, gr1, gr2, gr3, rdVar, h1, h2, h3, backOs, cstD, prD, prS, pr1, pr2, short, cmpD, h4, hs, x2]
theorem eq_pt (p : Pt) : eqD (pt p) (pt p) = some true := by
  simp [eqD, pt, Dv.plain, Dv.plains, Dv.depth, Dv.depths, Dv.beq, Dv.beqs]
theorem s10_eq (ht : ts.length ≤ 9) : evS GR 0 (nthS lapB 10) [.lst true pot, s1, s2, s3, s4, s5, s6, .dat (.str (tx ts)), .dat (.str (wt (hw ts))), s9, s10] = some (.nx, [.lst true pot, s1, s2, s3, s4, s5, s6, .dat (.str (tx ts)), .dat (.str (wt (hw ts))), s9, s10]) := by
  have h1 := path_of_eq (w := hw ts) (by have := hw_most ht; omega)
  have h2 := end_of_eq (ts := ts) (by omega)
  have h3 := last_pth (hw ts)
  rw [last_hw] at h3
  have h4 := eq_pt (prod ts (1, 0))
  simp [nthS, lapB, b__law_right, gr0, gr1, rdVar, h1, h2, backOs, cstD, prD, prS, pr1, pr2, negD, ixD, h3, cmpD, h4]
theorem lap_eq (h : Pv pot c) (hc : c < 4000) (f2 : flat s2 = true) (f3 : flat s3 = true) (f4 : flat s4 = true) (f5 : flat s5 = true) (f6 : flat s6 = true) (f7 : flat s7 = true) (f8 : flat s8 = true) (f9 : flat s9 = true) (f10 : flat s10 = true) :
    ∃ (pot' : List Dv) (t2 t3 t4 t5 t6 t7 t8 : SV), evSs GR 0 lapB [.lst true pot, s1, s2, s3, s4, s5, s6, s7, s8, s9, s10] = some (.nx, [.lst true pot', s1, t2, t3, t4, t5, t6, t7, t8, s9, s10]) ∧ Pv pot' (c + 100) ∧ flat t2 = true ∧ flat t3 = true ∧ flat t4 = true ∧ flat t5 = true ∧ flat t6 = true ∧ flat t7 = true ∧ flat t8 = true := by
  obtain ⟨w, pot1, hw, e0, p1⟩ := s0_eq (s1 := s1) (s3 := s3) (s4 := s4) (s5 := s5) (s6 := s6) (s7 := s7) (s8 := s8) (s10 := s10) h (by omega) f2 f9
  have e1 := s1_eq (s1 := s1) (s3 := s3) (s4 := s4) (s5 := s5) (s6 := s6) (s7 := s7) (s8 := s8) (s9 := s9) (s10 := s10) (pot := pot1) (w := w) (by omega)
  have e2 := s2_eq (s1 := s1) (s4 := s4) (s5 := s5) (s6 := s6) (s7 := s7) (s8 := s8) (s9 := s9) (s10 := s10) (pot := pot1) (w := w) (by omega) f3
  have e3 := s3_eq (s1 := s1) (s3 := .dat (told w)) (s5 := s5) (s6 := s6) (s7 := s7) (s8 := s8) (s9 := s9) (s10 := s10) (pot := pot1) (w := w) (by omega) f4
  have e4 := s4_eq (s1 := s1) (s5 := s5) (s6 := s6) (s7 := s7) (s8 := s8) (s9 := s9) (s10 := s10) (pot := pot1) (w := w) (by omega)
  obtain ⟨xs, ht, _⟩ := told_tup (w := w)
  have e5 := s5_eq (s1 := s1) (s2 := .dat (.str (wt w))) (s4 := .dat (.lst (sdv w))) (s6 := s6) (s7 := s7) (s8 := s8) (s9 := s9) (s10 := s10) (pot := pot1) ht f5
  obtain ⟨pot2, t6, g6, e6, p2⟩ := s6_eq (s1 := s1) (s4 := .dat (.lst (sdv w))) (s7 := s7) (s8 := s8) (s9 := s9) (s10 := s10) (w := w) (by omega) ht p1 (by omega) f6 f10
  obtain ⟨ts, pot3, hts, e7, p3⟩ := s7_eq (s1 := s1) (s2 := .dat (.str (wt w))) (s3 := .dat (told w)) (s4 := .dat (.lst (sdv w))) (s5 := .dat (.lst (eight w xs))) (s6 := t6) (s7 := s7) (s8 := s8) (s9 := s9) (s10 := s10) p2 (by omega) f7 f10
  have e8 := s8_eq (s1 := s1) (s2 := .dat (.str (wt w))) (s3 := .dat (told w)) (s4 := .dat (.lst (sdv w))) (s5 := .dat (.lst (eight w xs))) (s6 := t6) (s9 := s9) (s10 := s10) (pot := pot3) hts f8
  have e9 := s9_eq (s1 := s1) (s2 := .dat (.str (wt w))) (s3 := .dat (told w)) (s4 := .dat (.lst (sdv w))) (s5 := .dat (.lst (eight w xs))) (s6 := t6) (s9 := s9) (s10 := s10) (pot := pot3) hts
  have e10 := s10_eq (s1 := s1) (s2 := .dat (.str (wt w))) (s3 := .dat (told w)) (s4 := .dat (.lst (sdv w))) (s5 := .dat (.lst (eight w xs))) (s6 := t6) (s9 := s9) (s10 := s10) (pot := pot3) hts
  refine ⟨pot3, .dat (.str (wt w)), .dat (told w), .dat (.lst (sdv w)), .dat (.lst (eight w xs)), t6, .dat (.str (tx ts)), .dat (.str (wt (K61.hw ts))), ?_, p3.mono (by omega), rfl, rfl, rfl, rfl, g6, rfl, rfl⟩
  rw [lapB_eq]
  simp only [evSs_cons, e0, e1, e2, e3, e4, e5, e6, e7, e8, e9, e10, evSs_nil]
end
theorem right_ok {own p1 : Int} (h1 : 0 ≤ p1) (h1' : p1 < 2305843009213693951) : ∃ p2, r__law_right [.lst [.int own, .int p1, .int 0]] = some (.bl true, [p2]) := by
  have h : Pv [.int own, .int p1, .int 0] 0 := ⟨own, p1, 0, rfl, h1, h1', by decide, by decide⟩
  obtain ⟨ds, r1, r2⟩ := rng_some (n := 5) (by omega)
  have r1' : rngD 0 5 = some ds := r1
  obtain ⟨η', e, pot', t1, t2, t3, t4, t5, t6, t7, t8, t9, t10, rfl, _⟩ := forL_st (tg := .n 1) (body := evSs GR 0 lapB) (fun k η => ∃ (pot' : List Dv) (t1 t2 t3 t4 t5 t6 t7 t8 t9 t10 : SV), η = [.lst true pot', t1, t2, t3, t4, t5, t6, t7, t8, t9, t10] ∧ Pv pot' (100 * k) ∧ flat t1 = true ∧ flat t2 = true ∧ flat t3 = true ∧ flat t4 = true ∧ flat t5 = true ∧ flat t6 = true ∧ flat t7 = true ∧ flat t8 = true ∧ flat t9 = true ∧ flat t10 = true) ds 0 [.lst true [.int own, .int p1, .int 0], .no, .no, .no, .no, .no, .no, .no, .no, .no, .no] (fun k η d hk hd => by
    rintro ⟨pot', t1, t2, t3, t4, t5, t6, t7, t8, t9, t10, rfl, p, f1, f2, f3, f4, f5, f6, f7, f8, f9, f10⟩
    have hk2 : k < 5 := by
      obtain ⟨hlt, _⟩ := List.getElem?_eq_some_iff.mp hd
      omega
    have f1' := fr_free (flat_fr f1)
    simp only [free, List.getElem?_cons_zero] at f1'
    obtain ⟨pot2, u2, u3, u4, u5, u6, u7, u8, e, p2, g2, g3, g4, g5, g6, g7, g8⟩ := lap_eq (s1 := .dat d) p (by omega) f2 f3 f4 f5 f6 f7 f8 f9 f10
    refine ⟨[.lst true pot', .dat d, t2, t3, t4, t5, t6, t7, t8, t9, t10], _, by simp [setTg, free, f1'], .inl e, pot2, _, _, _, _, _, _, _, _, _, _, rfl, p2.mono (by omega), rfl, g2, g3, g4, g5, g6, g7, g8, f9, f10⟩) ⟨_, _, _, _, _, _, _, _, _, _, _, rfl, h, rfl, rfl, rfl, rfl, rfl, rfl, rfl, rfl, rfl, rfl⟩
  refine ⟨pot', run_ret (Γ := GR) (η := [.lst true [.int own, .int p1, .int 0]]) (η1 := [.lst true pot', t1, t2, t3, t4, t5, t6, t7, t8, t9, t10]) rfl ?_ rfl⟩
  have hb : b__law_right = .cons (.for_ (.n 1) (.rng1 (.cst (.int 5))) lapB) (.cons (.ret (.cst (.bool true))) .nil) := rfl
  have hz : evI GR (.rng1 (.cst (.int 5))) [.lst true [.int own, .int p1, .int 0], .no, .no, .no, .no, .no, .no, .no, .no, .no, .no] = some (ds, [.lst true [.int own, .int p1, .int 0], .no, .no, .no, .no, .no, .no, .no, .no, .no, .no]) := by
    rw [evI]
    simp [cstD, r1']
  have hf := for_eq (fu := 0) hz e
  rw [hb]
  show evSs GR 0 _ [.lst true [.int own, .int p1, .int 0], .no, .no, .no, .no, .no, .no, .no, .no, .no, .no] = _
  simp only [evSs_cons, hf]
  simp [cstD]
end CF

set_option Elab.async false
set_option linter.all false
set_option maxRecDepth 100000
namespace CF
open PySem L2
theorem law_true {ns : List Int} (hl : ns.length ≤ 63) : r_law [.scr ns] = some (.bl true, []) := by
  obtain ⟨n, hn, hc⟩ := cells_eq hl
  have one : ∀ k : Nat, k < 3 → ∃ p2, evE (tab [r__law_right, r__law_pot, r__law_cells]) (.callT 0 (.callF 1 (.cons (.e (.var 0)) (.cons (.e (.var 1)) .nil)))) [.dat (.scr ns), .dat (.int k)] = some (.bl true, [.dat (.scr ns), .dat (.int k)]) ∧ p2 = (0 : Int) := fun k hk => by
    obtain ⟨own, p1, e, b0, b1⟩ := pot_eq (ns := ns) (place := k) (by omega) (by omega)
    obtain ⟨p2, r⟩ := right_ok (own := own) b0 b1
    exact ⟨0, by simp [evE, evO, evOs, finOs, finO, rdVar, tab, e, backOs, r], rfl⟩
  have loop : ∀ (ks : List Nat) (acc : List Dv), (∀ k ∈ ks, k < 3) → acc.length + ks.length ≤ 1000 → compL (testL []) (evE (tab [r__law_right, r__law_pot, r__law_cells]) (.callT 0 (.callF 1 (.cons (.e (.var 0)) (.cons (.e (.var 1)) .nil))))) (.n 1) [1] (ks.map fun (k : Nat) => Dv.int (k : Int)) acc [.dat (.scr ns), .no] = some (acc ++ ks.map fun _ => Dv.bl true, [.dat (.scr ns), .no]) := by
    intro ks
    induction ks with
    | nil =>
      intro acc _ _
      simp [compL]
    | cons k ks ih =>
      intro acc h hl
      obtain ⟨_, e, _⟩ := one k (h k List.mem_cons_self)
      rw [List.length_cons] at hl
      have := ih (acc ++ [.bl true]) (fun j hj => h j (List.mem_cons_of_mem _ hj)) (by rw [List.length_append, List.length_singleton]; omega)
      have hlt : acc.length < 16777216 := by omega
      rw [List.append_assoc] at this
      have ht : testL [] = fun η : CF.Env => some (true, η) := rfl
      rw [ht] at this ⊢
      simp only [List.map_cons, compL, setTg, free]
      simp [e, noOwn, SV.own, wipeE, hlt]
      simpa using this
  have lp := loop (List.range n) [] (fun k hk => by rw [List.mem_range] at hk; omega) (by rw [List.length_range]; simp; omega)
  have al : allD (.lst ((List.range n).map fun _ => Dv.bl true)) = some (.bl true) := by
    have : n = 0 ∨ n = 1 ∨ n = 2 ∨ n = 3 := by omega
    rcases this with rfl | rfl | rfl | rfl <;> rfl
  have ec : evE (tab [r__law_right, r__law_pot, r__law_cells]) (.comp (.callT 0 (.callF 1 (.cons (.e (.var 0)) (.cons (.e (.var 1)) .nil)))) (.n 1) (.seq (.e (.call 2 (.cons (.e (.var 0)) (.cons (.e (.cst (.int 3))) .nil))))) [] [1]) [.dat (.scr ns), .no] = some (.lst ((List.range n).map fun _ => Dv.bl true), [.dat (.scr ns), .no]) := by
    have ei : evI (tab [r__law_right, r__law_pot, r__law_cells]) (.seq (.e (.call 2 (.cons (.e (.var 0)) (.cons (.e (.cst (.int 3))) .nil))))) [.dat (.scr ns), .no] = some ((List.range n).map fun (k : Nat) => Dv.int (k : Int), [.dat (.scr ns), .no]) := by
      simp [evI, evE, evO, evOs, finOs, finO, rdVar, cstD, tab, hc, backOs, itOf]
    rw [evE, ei]
    simp only [evTs]
    have l2 : compL (testL []) (evE (tab [r__law_right, r__law_pot, r__law_cells]) (.callT 0 (.callF 1 (.cons (.e (.var 0)) (.cons (.e (.var 1)) .nil))))) (.n 1) [1] ((List.range n).map fun (k : Nat) => Dv.int (k : Int)) [] (wipeE [.dat (.scr ns), .no] [1]) = some ((List.range n).map fun _ => Dv.bl true, [.dat (.scr ns), .no]) := lp
    rw [l2]
    rfl
  have es : evSs (tab [r__law_right, r__law_pot, r__law_cells]) 0 b_law [.dat (.scr ns), .no] = some (.ret (.bl true), [.dat (.scr ns), .no]) := by
    have ea : evE (tab [r__law_right, r__law_pot, r__law_cells]) (.pr .all (.cons (.e (.comp (.callT 0 (.callF 1 (.cons (.e (.var 0)) (.cons (.e (.var 1)) .nil)))) (.n 1) (.seq (.e (.call 2 (.cons (.e (.var 0)) (.cons (.e (.cst (.int 3))) .nil))))) [] [1])) .nil)) [.dat (.scr ns), .no] = some (.bl true, [.dat (.scr ns), .no]) := by
      rw [evE, evOs, evO, ec]
      simp only [evOs, finOs, finO]
      show (allD (.lst ((List.range n).map fun _ => Dv.bl true))).map (·, _) = _
      rw [al]
      rfl
    show (match evS (tab [r__law_right, r__law_pot, r__law_cells]) 0 (.ret _) _ with
      | some (.nx, η1) => evSs (tab [r__law_right, r__law_pot, r__law_cells]) 0 .nil η1
      | r => r) = _
    rw [evS, ea]
    rfl
  show (match initE [false] [.scr ns] with
    | none => none
    | some η => match evSs (tab [r__law_right, r__law_pot, r__law_cells]) 0 b_law (η ++ List.replicate (2 - η.length) SV.no) with
      | some (.ret d, η') => (outsE [false] η').map (d, ·)
      | some (.nx, η') => (outsE [false] η').map (.non, ·)
      | _ => none) = _
  show (match evSs (tab [r__law_right, r__law_pot, r__law_cells]) 0 b_law [.dat (.scr ns), .no] with
      | some (.ret d, η') => (outsE [false] η').map (d, ·)
      | some (.nx, η') => (outsE [false] η').map (.non, ·)
      | _ => none) = _
  rw [es]
  rfl
end CF

set_option Elab.async false
set_option linter.all false
set_option maxRecDepth 100000
namespace CF
open PySem L2
/-! the head -/
def xsAll : List Str := ["CreaseError", "BadWord", "BadTurns"]
def glAll : List (Str × Const) := [("MOST_LETTERS", (.int 1023)), ("MOST_TURNS", (.int 10)), ("MOUNTAIN", (.str "m")), ("ONCE", (.str "once")), ("OVER", (.str "o")), ("THREE", (.int 3)), ("TWICE", (.str "twice")), ("UNDER", (.str "u")), ("VALLEY", (.str "v"))]
section
variable {P : Program} {w : World} {K : PySem.W.Frag} {mg : Str → Option Value} {base : Heap} {W : Wd}
theorem all_fn (T : TxtOk P w K mg W xsAll glAll) {f_is_int : Addr} {d_is_int : FuncData} (D_is_int : DefIn K mg "is_int" s_is_int ["value", "low", "high"] [] f_is_int d_is_int) {f_is_told : Addr} {d_is_told : FuncData} (D_is_told : DefIn K mg "is_told" s_is_told ["value", "sizes"] [] f_is_told d_is_told) {f_is_word : Addr} {d_is_word : FuncData} (D_is_word : DefIn K mg "is_word" s_is_word ["value", "many"] [] f_is_word d_is_word) {f_other_letter : Addr} {d_other_letter : FuncData} (D_other_letter : DefIn K mg "other_letter" s_other_letter ["letter"] [] f_other_letter d_other_letter) {f_look_at_turns : Addr} {d_look_at_turns : FuncData} (D_look_at_turns : DefIn K mg "look_at_turns" s_look_at_turns ["turns"] [] f_look_at_turns d_look_at_turns) {f_look_at_long_word : Addr} {d_look_at_long_word : FuncData} (D_look_at_long_word : DefIn K mg "look_at_long_word" s_look_at_long_word ["word"] [] f_look_at_long_word d_look_at_long_word) {f_letter_of : Addr} {d_letter_of : FuncData} (D_letter_of : DefIn K mg "letter_of" s_letter_of ["turn"] [] f_letter_of d_letter_of) {f_told_halved : Addr} {d_told_halved : FuncData} (D_told_halved : DefIn K mg "told_halved" s_told_halved ["turns"] [] f_told_halved d_told_halved) {f_halved_word : Addr} {d_halved_word : FuncData} (D_halved_word : DefIn K mg "halved_word" s_halved_word ["turns"] [] f_halved_word d_halved_word) {f_told_path : Addr} {d_told_path : FuncData} (D_told_path : DefIn K mg "told_path" s_told_path ["word"] [] f_told_path d_told_path) {f_path_of : Addr} {d_path_of : FuncData} (D_path_of : DefIn K mg "path_of" s_path_of ["word"] [["word"]] f_path_of d_path_of) {f_end_of : Addr} {d_end_of : FuncData} (D_end_of : DefIn K mg "end_of" s_end_of ["turns"] [["turns"]] f_end_of d_end_of) {f_first_twice : Addr} {d_first_twice : FuncData} (D_first_twice : DefIn K mg "first_twice" s_first_twice ["points"] [] f_first_twice d_first_twice) {f_gone_once : Addr} {d_gone_once : FuncData} (D_gone_once : DefIn K mg "gone_once" s_gone_once ["word"] [["word"]] f_gone_once d_gone_once) {f_shows_gone_once : Addr} {d_shows_gone_once : FuncData} (D_shows_gone_once : DefIn K mg "shows_gone_once" s_shows_gone_once ["word", "value"] [["value"]] f_shows_gone_once d_shows_gone_once) {f__law_pot : Addr} {d__law_pot : FuncData} (D__law_pot : DefIn K mg "_law_pot" s__law_pot ["script", "place"] [] f__law_pot d__law_pot) {f__law_take : Addr} {d__law_take : FuncData} (D__law_take : DefIn K mg "_law_take" s__law_take ["pot", "upto"] [] f__law_take d__law_take) {f__law_of : Addr} {d__law_of : FuncData} (D__law_of : DefIn K mg "_law_of" s__law_of ["pot", "some"] [] f__law_of d__law_of) {f__law_cells : Addr} {d__law_cells : FuncData} (D__law_cells : DefIn K mg "_law_cells" s__law_cells ["script", "most"] [] f__law_cells d__law_cells) {f__law_odd : Addr} {d__law_odd : FuncData} (D__law_odd : DefIn K mg "_law_odd" s__law_odd ["pot"] [] f__law_odd d__law_odd) {f__law_is_int : Addr} {d__law_is_int : FuncData} (D__law_is_int : DefIn K mg "_law_is_int" s__law_is_int ["value", "low", "high"] [] f__law_is_int d__law_is_int) {f__law_bent : Addr} {d__law_bent : FuncData} (D__law_bent : DefIn K mg "_law_bent" s__law_bent ["pot", "value"] [] f__law_bent d__law_bent) {f__law_is_bool : Addr} {d__law_is_bool : FuncData} (D__law_is_bool : DefIn K mg "_law_is_bool" s__law_is_bool ["told", "due"] [] f__law_is_bool d__law_is_bool) {f__law_path : Addr} {d__law_path : FuncData} (D__law_path : DefIn K mg "_law_path" s__law_path ["word"] [] f__law_path d__law_path) {f__law_sides : Addr} {d__law_sides : FuncData} (D__law_sides : DefIn K mg "_law_sides" s__law_sides ["points"] [] f__law_sides d__law_sides) {f__law_is_due : Addr} {d__law_is_due : FuncData} (D__law_is_due : DefIn K mg "_law_is_due" s__law_is_due ["word", "value"] [] f__law_is_due d__law_is_due) {f__law_product : Addr} {d__law_product : FuncData} (D__law_product : DefIn K mg "_law_product" s__law_product ["turns"] [] f__law_product d__law_product) {f__law_right : Addr} {d__law_right : FuncData} (D__law_right : DefIn K mg "_law_right" s__law_right ["pot"] [] f__law_right d__law_right) {f_law : Addr} {d_law : FuncData} (D_law : DefIn K mg "law" s_law ["script"] [] f_law d_law) : FnG P w K mg base CX0 8 f_law d_law ["script"] (spM false W r_law [false]) := by
  have G_is_int := cal_mk (P := P) (w := w) (base := base) (k := 0) (br := [false, false, false]) (fu := 0) (n := 3) (rs := []) T D_is_int n_is_int k_is_int (by decide +kernel) (by decide +kernel) trivial rfl rfl rfl rfl
  have G_is_told := cal_mk (P := P) (w := w) (base := base) (k := 0) (br := [false, false]) (fu := 0) (n := 2) (rs := []) T D_is_told n_is_told k_is_told (by decide +kernel) (by decide +kernel) trivial rfl rfl rfl rfl
  have G_is_word := cal_mk (P := P) (w := w) (base := base) (k := 0) (br := [false, false]) (fu := 0) (n := 3) (rs := []) T D_is_word n_is_word k_is_word (by decide +kernel) (by decide +kernel) trivial rfl rfl rfl rfl
  have G_other_letter := cal_mk (P := P) (w := w) (base := base) (k := 0) (br := [false]) (fu := 0) (n := 1) (rs := []) T D_other_letter n_other_letter k_other_letter (by decide +kernel) (by decide +kernel) trivial rfl rfl rfl rfl
  have G_look_at_turns := cal_mk (P := P) (w := w) (base := base) (k := 0) (br := [false]) (fu := 0) (n := 2) (rs := []) T D_look_at_turns n_look_at_turns k_look_at_turns (by decide +kernel) (by decide +kernel) trivial rfl rfl rfl rfl
  have G_look_at_long_word := cal_mk (P := P) (w := w) (base := base) (k := 1) (br := [false]) (fu := 0) (n := 1) (rs := [r_is_word]) T D_look_at_long_word n_look_at_long_word k_look_at_long_word (by decide +kernel) (by decide +kernel) ⟨G_is_word.mono (by decide), trivial⟩ rfl rfl rfl rfl
  have G_letter_of := cal_mk (P := P) (w := w) (base := base) (k := 0) (br := [false]) (fu := 0) (n := 1) (rs := []) T D_letter_of n_letter_of k_letter_of (by decide +kernel) (by decide +kernel) trivial rfl rfl rfl rfl
  have G_told_halved := cal_mk (P := P) (w := w) (base := base) (k := 1) (br := [false]) (fu := 0) (n := 6) (rs := [r_other_letter, r_letter_of]) T D_told_halved n_told_halved k_told_halved (by decide +kernel) (by decide +kernel) ⟨G_other_letter.mono (by decide), G_letter_of.mono (by decide), trivial⟩ rfl rfl rfl rfl
  have G_halved_word := cal_mk (P := P) (w := w) (base := base) (k := 2) (br := [false]) (fu := 0) (n := 1) (rs := [r_told_halved, r_look_at_turns]) T D_halved_word n_halved_word k_halved_word (by decide +kernel) (by decide +kernel) ⟨G_told_halved.mono (by decide), G_look_at_turns.mono (by decide), trivial⟩ rfl rfl rfl rfl
  have G_told_path := cal_mk (P := P) (w := w) (base := base) (k := 0) (br := [false]) (fu := 0) (n := 4) (rs := []) T D_told_path n_told_path k_told_path (by decide +kernel) (by decide +kernel) trivial rfl rfl rfl rfl
  have G_path_of := cal_mk (P := P) (w := w) (base := base) (k := 2) (br := [false]) (fu := 0) (n := 1) (rs := [r_told_path, r_look_at_long_word]) T D_path_of n_path_of k_path_of (by decide +kernel) (by decide +kernel) ⟨G_told_path.mono (by decide), G_look_at_long_word.mono (by decide), trivial⟩ rfl rfl rfl rfl
  have G_end_of := cal_mk (P := P) (w := w) (base := base) (k := 1) (br := [false]) (fu := 0) (n := 4) (rs := [r_look_at_turns]) T D_end_of n_end_of k_end_of (by decide +kernel) (by decide +kernel) ⟨G_look_at_turns.mono (by decide), trivial⟩ rfl rfl rfl rfl
  have G_first_twice := cal_mk (P := P) (w := w) (base := base) (k := 0) (br := [false]) (fu := 0) (n := 6) (rs := []) T D_first_twice n_first_twice k_first_twice (by decide +kernel) (by decide +kernel) trivial rfl rfl rfl rfl
  have G_gone_once := cal_mk (P := P) (w := w) (base := base) (k := 2) (br := [false]) (fu := 0) (n := 2) (rs := [r_first_twice, r_told_path, r_look_at_long_word]) T D_gone_once n_gone_once k_gone_once (by decide +kernel) (by decide +kernel) ⟨G_first_twice.mono (by decide), G_told_path.mono (by decide), G_look_at_long_word.mono (by decide), trivial⟩ rfl rfl rfl rfl
  have G_shows_gone_once := cal_mk (P := P) (w := w) (base := base) (k := 2) (br := [false, false]) (fu := 0) (n := 4) (rs := [r_is_int, r_first_twice, r_told_path, r_is_told, r_look_at_long_word]) T D_shows_gone_once n_shows_gone_once k_shows_gone_once (by decide +kernel) (by decide +kernel) ⟨G_is_int.mono (by decide), G_first_twice.mono (by decide), G_told_path.mono (by decide), G_is_told.mono (by decide), G_look_at_long_word.mono (by decide), trivial⟩ rfl rfl rfl rfl
  have G__law_pot := cal_mk (P := P) (w := w) (base := base) (k := 0) (br := [false, false]) (fu := 0) (n := 5) (rs := []) T D__law_pot n__law_pot k__law_pot (by decide +kernel) (by decide +kernel) trivial rfl rfl rfl rfl
  have G__law_take := cal_mk (P := P) (w := w) (base := base) (k := 0) (br := [true, false]) (fu := 0) (n := 5) (rs := []) T D__law_take n__law_take k__law_take (by decide +kernel) (by decide +kernel) trivial rfl rfl rfl rfl
  have G__law_of := cal_mk (P := P) (w := w) (base := base) (k := 1) (br := [true, false]) (fu := 0) (n := 2) (rs := [r__law_take]) T D__law_of n__law_of k__law_of (by decide +kernel) (by decide +kernel) ⟨G__law_take.mono (by decide), trivial⟩ rfl rfl rfl rfl
  have G__law_cells := cal_mk (P := P) (w := w) (base := base) (k := 0) (br := [false, false]) (fu := 0) (n := 2) (rs := []) T D__law_cells n__law_cells k__law_cells (by decide +kernel) (by decide +kernel) trivial rfl rfl rfl rfl
  have G__law_odd := cal_mk (P := P) (w := w) (base := base) (k := 2) (br := [true]) (fu := 0) (n := 2) (rs := [r__law_of]) T D__law_odd n__law_odd k__law_odd (by decide +kernel) (by decide +kernel) ⟨G__law_of.mono (by decide), trivial⟩ rfl rfl rfl rfl
  have G__law_is_int := cal_mk (P := P) (w := w) (base := base) (k := 0) (br := [false, false, false]) (fu := 0) (n := 3) (rs := []) T D__law_is_int n__law_is_int k__law_is_int (by decide +kernel) (by decide +kernel) trivial rfl rfl rfl rfl
  have G__law_bent := cal_rec (P := P) (w := w) (base := base) (k := 3) (br := [true, false]) (fu := 0) (n := 3) (rs := fun me => [r__law_odd, r__law_of, r__law_take, me]) T D__law_bent n__law_bent k__law_bent (by decide +kernel) (by decide +kernel) (fun j r hj h => ⟨G__law_odd.mono (Nat.le_trans (by decide) hj), G__law_of.mono (Nat.le_trans (by decide) hj), G__law_take.mono (Nat.le_trans (by decide) hj), h, trivial⟩) rfl rfl rfl rfl 3
  have G__law_is_bool := cal_mk (P := P) (w := w) (base := base) (k := 0) (br := [false, false]) (fu := 0) (n := 2) (rs := []) T D__law_is_bool n__law_is_bool k__law_is_bool (by decide +kernel) (by decide +kernel) trivial rfl rfl rfl rfl
  have G__law_path := cal_mk (P := P) (w := w) (base := base) (k := 0) (br := [false]) (fu := 0) (n := 6) (rs := []) T D__law_path n__law_path k__law_path (by decide +kernel) (by decide +kernel) trivial rfl rfl rfl rfl
  have G__law_sides := cal_mk (P := P) (w := w) (base := base) (k := 0) (br := [false]) (fu := 0) (n := 2) (rs := []) T D__law_sides n__law_sides k__law_sides (by decide +kernel) (by decide +kernel) trivial rfl rfl rfl rfl
  have G__law_is_due := cal_mk (P := P) (w := w) (base := base) (k := 1) (br := [false, false]) (fu := 0) (n := 4) (rs := [r__law_is_int, r__law_sides, r__law_path]) T D__law_is_due n__law_is_due k__law_is_due (by decide +kernel) (by decide +kernel) ⟨G__law_is_int.mono (by decide), G__law_sides.mono (by decide), G__law_path.mono (by decide), trivial⟩ rfl rfl rfl rfl
  have G__law_product := cal_mk (P := P) (w := w) (base := base) (k := 0) (br := [false]) (fu := 0) (n := 5) (rs := []) T D__law_product n__law_product k__law_product (by decide +kernel) (by decide +kernel) trivial rfl rfl rfl rfl
  have G__law_right := cal_mk (P := P) (w := w) (base := base) (k := 6) (br := [true]) (fu := 0) (n := 11) (rs := [r_path_of, r_end_of, r__law_product, r_gone_once, r_halved_word, r__law_of, r__law_take, r__law_odd, r__law_bent, r__law_is_bool, r_shows_gone_once, r__law_is_due, r__law_sides, r__law_path]) T D__law_right n__law_right k__law_right (by decide +kernel) (by decide +kernel) ⟨G_path_of.mono (by decide), G_end_of.mono (by decide), G__law_product.mono (by decide), G_gone_once.mono (by decide), G_halved_word.mono (by decide), G__law_of.mono (by decide), G__law_take.mono (by decide), G__law_odd.mono (by decide), G__law_bent.mono (by decide), G__law_is_bool.mono (by decide), G_shows_gone_once.mono (by decide), G__law_is_due.mono (by decide), G__law_sides.mono (by decide), G__law_path.mono (by decide), trivial⟩ rfl rfl rfl rfl
  exact fn_ok (fu := 0) D_law.fn n_law rfl ⟨T.hK, T.hP, T.hw, T.x, fun k h => T.xs k ((by decide +kernel : ∀ k ∈ c_law.xs, k ∈ xsAll) k h), T.bi, fun x k h => T.gl _ ((by decide +kernel : ∀ p ∈ c_law.gl, p ∈ glAll) _ (lookup_mem h)), fns_of (rs := [r__law_right, r__law_pot, r__law_cells]) ⟨G__law_right.mono (by decide), G__law_pot.mono (by decide), G__law_cells.mono (by decide), trivial⟩⟩ rfl rfl k_law
end
abbrev sIni : PySem.Stmt := inClass (top 1) 0
abbrev bIni : List PySem.Stmt := xBody ⟨5, 8, 5, 13⟩ ⟨5, 8, 5, 15⟩ ⟨5, 8, 5, 24⟩ ⟨5, 25, 5, 30⟩ ⟨5, 8, 5, 31⟩ ⟨5, 8, 5, 31⟩ ⟨6, 8, 6, 12⟩ ⟨6, 8, 6, 18⟩ ⟨6, 21, 6, 26⟩ ⟨6, 8, 6, 26⟩
set_option maxHeartbeats 4000000 in
theorem all_mk {P : Program} {w : World} {K : PySem.W.Frag} {h : Heap} {mg : Str → Option Value} {fa : Addr} (X : K.In h) (G : h.Ns mainGlobals mg) (hfa : mg "law" = some (.ref fa)) {f0 : Addr} {od0 an0 : Option Addr} {sl0 : Array (Option Value)} {oc0 kV0 dc0 pm0 cd0 ct0 : Value} (a0 : PySem.W.nsIn K mainGlobals "is_int" = some (some (.ref f0))) (l0 : K.lookup f0 = some ⟨oc0, od0, .func (PySem.W.fnOf "is_int" "is_int" (defArgs s_is_int) (defBody s_is_int) (defScope s_is_int) .none kV0 dc0 pm0 an0 cd0 ct0), sl0⟩) (e0 : PySem.W.codeIn K cd0 "is_int" = true) (k0 : PySem.W.keepIn K (.ref f0) = true) {f1 : Addr} {od1 an1 : Option Addr} {sl1 : Array (Option Value)} {oc1 kV1 dc1 pm1 cd1 ct1 : Value} (a1 : PySem.W.nsIn K mainGlobals "is_told" = some (some (.ref f1))) (l1 : K.lookup f1 = some ⟨oc1, od1, .func (PySem.W.fnOf "is_told" "is_told" (defArgs s_is_told) (defBody s_is_told) (defScope s_is_told) .none kV1 dc1 pm1 an1 cd1 ct1), sl1⟩) (e1 : PySem.W.codeIn K cd1 "is_told" = true) (k1 : PySem.W.keepIn K (.ref f1) = true) {f2 : Addr} {od2 an2 : Option Addr} {sl2 : Array (Option Value)} {oc2 kV2 dc2 pm2 cd2 ct2 : Value} (a2 : PySem.W.nsIn K mainGlobals "is_word" = some (some (.ref f2))) (l2 : K.lookup f2 = some ⟨oc2, od2, .func (PySem.W.fnOf "is_word" "is_word" (defArgs s_is_word) (defBody s_is_word) (defScope s_is_word) .none kV2 dc2 pm2 an2 cd2 ct2), sl2⟩) (e2 : PySem.W.codeIn K cd2 "is_word" = true) (k2 : PySem.W.keepIn K (.ref f2) = true) {f3 : Addr} {od3 an3 : Option Addr} {sl3 : Array (Option Value)} {oc3 kV3 dc3 pm3 cd3 ct3 : Value} (a3 : PySem.W.nsIn K mainGlobals "other_letter" = some (some (.ref f3))) (l3 : K.lookup f3 = some ⟨oc3, od3, .func (PySem.W.fnOf "other_letter" "other_letter" (defArgs s_other_letter) (defBody s_other_letter) (defScope s_other_letter) .none kV3 dc3 pm3 an3 cd3 ct3), sl3⟩) (e3 : PySem.W.codeIn K cd3 "other_letter" = true) (k3 : PySem.W.keepIn K (.ref f3) = true) {f4 : Addr} {od4 an4 : Option Addr} {sl4 : Array (Option Value)} {oc4 kV4 dc4 pm4 cd4 ct4 : Value} (a4 : PySem.W.nsIn K mainGlobals "look_at_turns" = some (some (.ref f4))) (l4 : K.lookup f4 = some ⟨oc4, od4, .func (PySem.W.fnOf "look_at_turns" "look_at_turns" (defArgs s_look_at_turns) (defBody s_look_at_turns) (defScope s_look_at_turns) .none kV4 dc4 pm4 an4 cd4 ct4), sl4⟩) (e4 : PySem.W.codeIn K cd4 "look_at_turns" = true) (k4 : PySem.W.keepIn K (.ref f4) = true) {f5 : Addr} {od5 an5 : Option Addr} {sl5 : Array (Option Value)} {oc5 kV5 dc5 pm5 cd5 ct5 : Value} (a5 : PySem.W.nsIn K mainGlobals "look_at_long_word" = some (some (.ref f5))) (l5 : K.lookup f5 = some ⟨oc5, od5, .func (PySem.W.fnOf "look_at_long_word" "look_at_long_word" (defArgs s_look_at_long_word) (defBody s_look_at_long_word) (defScope s_look_at_long_word) .none kV5 dc5 pm5 an5 cd5 ct5), sl5⟩) (e5 : PySem.W.codeIn K cd5 "look_at_long_word" = true) (k5 : PySem.W.keepIn K (.ref f5) = true) {f6 : Addr} {od6 an6 : Option Addr} {sl6 : Array (Option Value)} {oc6 kV6 dc6 pm6 cd6 ct6 : Value} (a6 : PySem.W.nsIn K mainGlobals "letter_of" = some (some (.ref f6))) (l6 : K.lookup f6 = some ⟨oc6, od6, .func (PySem.W.fnOf "letter_of" "letter_of" (defArgs s_letter_of) (defBody s_letter_of) (defScope s_letter_of) .none kV6 dc6 pm6 an6 cd6 ct6), sl6⟩) (e6 : PySem.W.codeIn K cd6 "letter_of" = true) (k6 : PySem.W.keepIn K (.ref f6) = true) {f7 : Addr} {od7 an7 : Option Addr} {sl7 : Array (Option Value)} {oc7 kV7 dc7 pm7 cd7 ct7 : Value} (a7 : PySem.W.nsIn K mainGlobals "told_halved" = some (some (.ref f7))) (l7 : K.lookup f7 = some ⟨oc7, od7, .func (PySem.W.fnOf "told_halved" "told_halved" (defArgs s_told_halved) (defBody s_told_halved) (defScope s_told_halved) .none kV7 dc7 pm7 an7 cd7 ct7), sl7⟩) (e7 : PySem.W.codeIn K cd7 "told_halved" = true) (k7 : PySem.W.keepIn K (.ref f7) = true) {f8 : Addr} {od8 an8 : Option Addr} {sl8 : Array (Option Value)} {oc8 kV8 dc8 pm8 cd8 ct8 : Value} (a8 : PySem.W.nsIn K mainGlobals "halved_word" = some (some (.ref f8))) (l8 : K.lookup f8 = some ⟨oc8, od8, .func (PySem.W.fnOf "halved_word" "halved_word" (defArgs s_halved_word) (defBody s_halved_word) (defScope s_halved_word) .none kV8 dc8 pm8 an8 cd8 ct8), sl8⟩) (e8 : PySem.W.codeIn K cd8 "halved_word" = true) (k8 : PySem.W.keepIn K (.ref f8) = true) {f9 : Addr} {od9 an9 : Option Addr} {sl9 : Array (Option Value)} {oc9 kV9 dc9 pm9 cd9 ct9 : Value} (a9 : PySem.W.nsIn K mainGlobals "told_path" = some (some (.ref f9))) (l9 : K.lookup f9 = some ⟨oc9, od9, .func (PySem.W.fnOf "told_path" "told_path" (defArgs s_told_path) (defBody s_told_path) (defScope s_told_path) .none kV9 dc9 pm9 an9 cd9 ct9), sl9⟩) (e9 : PySem.W.codeIn K cd9 "told_path" = true) (k9 : PySem.W.keepIn K (.ref f9) = true) {f10 : Addr} {od10 an10 : Option Addr} {sl10 : Array (Option Value)} {oc10 kV10 dc10 pm10 cd10 ct10 : Value} (a10 : PySem.W.nsIn K mainGlobals "path_of" = some (some (.ref f10))) (l10 : K.lookup f10 = some ⟨oc10, od10, .func (PySem.W.fnOf "path_of" "path_of" (defArgs s_path_of) (defBody s_path_of) (defScope s_path_of) .none kV10 dc10 pm10 an10 cd10 ct10), sl10⟩) (e10 : PySem.W.codeIn K cd10 "path_of" = true) (k10 : PySem.W.keepIn K (.ref f10) = true) {f11 : Addr} {od11 an11 : Option Addr} {sl11 : Array (Option Value)} {oc11 kV11 dc11 pm11 cd11 ct11 : Value} (a11 : PySem.W.nsIn K mainGlobals "end_of" = some (some (.ref f11))) (l11 : K.lookup f11 = some ⟨oc11, od11, .func (PySem.W.fnOf "end_of" "end_of" (defArgs s_end_of) (defBody s_end_of) (defScope s_end_of) .none kV11 dc11 pm11 an11 cd11 ct11), sl11⟩) (e11 : PySem.W.codeIn K cd11 "end_of" = true) (k11 : PySem.W.keepIn K (.ref f11) = true) {f12 : Addr} {od12 an12 : Option Addr} {sl12 : Array (Option Value)} {oc12 kV12 dc12 pm12 cd12 ct12 : Value} (a12 : PySem.W.nsIn K mainGlobals "first_twice" = some (some (.ref f12))) (l12 : K.lookup f12 = some ⟨oc12, od12, .func (PySem.W.fnOf "first_twice" "first_twice" (defArgs s_first_twice) (defBody s_first_twice) (defScope s_first_twice) .none kV12 dc12 pm12 an12 cd12 ct12), sl12⟩) (e12 : PySem.W.codeIn K cd12 "first_twice" = true) (k12 : PySem.W.keepIn K (.ref f12) = true) {f13 : Addr} {od13 an13 : Option Addr} {sl13 : Array (Option Value)} {oc13 kV13 dc13 pm13 cd13 ct13 : Value} (a13 : PySem.W.nsIn K mainGlobals "gone_once" = some (some (.ref f13))) (l13 : K.lookup f13 = some ⟨oc13, od13, .func (PySem.W.fnOf "gone_once" "gone_once" (defArgs s_gone_once) (defBody s_gone_once) (defScope s_gone_once) .none kV13 dc13 pm13 an13 cd13 ct13), sl13⟩) (e13 : PySem.W.codeIn K cd13 "gone_once" = true) (k13 : PySem.W.keepIn K (.ref f13) = true) {f14 : Addr} {od14 an14 : Option Addr} {sl14 : Array (Option Value)} {oc14 kV14 dc14 pm14 cd14 ct14 : Value} (a14 : PySem.W.nsIn K mainGlobals "shows_gone_once" = some (some (.ref f14))) (l14 : K.lookup f14 = some ⟨oc14, od14, .func (PySem.W.fnOf "shows_gone_once" "shows_gone_once" (defArgs s_shows_gone_once) (defBody s_shows_gone_once) (defScope s_shows_gone_once) .none kV14 dc14 pm14 an14 cd14 ct14), sl14⟩) (e14 : PySem.W.codeIn K cd14 "shows_gone_once" = true) (k14 : PySem.W.keepIn K (.ref f14) = true) {f15 : Addr} {od15 an15 : Option Addr} {sl15 : Array (Option Value)} {oc15 kV15 dc15 pm15 cd15 ct15 : Value} (a15 : PySem.W.nsIn K mainGlobals "_law_pot" = some (some (.ref f15))) (l15 : K.lookup f15 = some ⟨oc15, od15, .func (PySem.W.fnOf "_law_pot" "_law_pot" (defArgs s__law_pot) (defBody s__law_pot) (defScope s__law_pot) .none kV15 dc15 pm15 an15 cd15 ct15), sl15⟩) (e15 : PySem.W.codeIn K cd15 "_law_pot" = true) (k15 : PySem.W.keepIn K (.ref f15) = true) {f16 : Addr} {od16 an16 : Option Addr} {sl16 : Array (Option Value)} {oc16 kV16 dc16 pm16 cd16 ct16 : Value} (a16 : PySem.W.nsIn K mainGlobals "_law_take" = some (some (.ref f16))) (l16 : K.lookup f16 = some ⟨oc16, od16, .func (PySem.W.fnOf "_law_take" "_law_take" (defArgs s__law_take) (defBody s__law_take) (defScope s__law_take) .none kV16 dc16 pm16 an16 cd16 ct16), sl16⟩) (e16 : PySem.W.codeIn K cd16 "_law_take" = true) (k16 : PySem.W.keepIn K (.ref f16) = true) {f17 : Addr} {od17 an17 : Option Addr} {sl17 : Array (Option Value)} {oc17 kV17 dc17 pm17 cd17 ct17 : Value} (a17 : PySem.W.nsIn K mainGlobals "_law_of" = some (some (.ref f17))) (l17 : K.lookup f17 = some ⟨oc17, od17, .func (PySem.W.fnOf "_law_of" "_law_of" (defArgs s__law_of) (defBody s__law_of) (defScope s__law_of) .none kV17 dc17 pm17 an17 cd17 ct17), sl17⟩) (e17 : PySem.W.codeIn K cd17 "_law_of" = true) (k17 : PySem.W.keepIn K (.ref f17) = true) {f18 : Addr} {od18 an18 : Option Addr} {sl18 : Array (Option Value)} {oc18 kV18 dc18 pm18 cd18 ct18 : Value} (a18 : PySem.W.nsIn K mainGlobals "_law_cells" = some (some (.ref f18))) (l18 : K.lookup f18 = some ⟨oc18, od18, .func (PySem.W.fnOf "_law_cells" "_law_cells" (defArgs s__law_cells) (defBody s__law_cells) (defScope s__law_cells) .none kV18 dc18 pm18 an18 cd18 ct18), sl18⟩) (e18 : PySem.W.codeIn K cd18 "_law_cells" = true) (k18 : PySem.W.keepIn K (.ref f18) = true) {f19 : Addr} {od19 an19 : Option Addr} {sl19 : Array (Option Value)} {oc19 kV19 dc19 pm19 cd19 ct19 : Value} (a19 : PySem.W.nsIn K mainGlobals "_law_odd" = some (some (.ref f19))) (l19 : K.lookup f19 = some ⟨oc19, od19, .func (PySem.W.fnOf "_law_odd" "_law_odd" (defArgs s__law_odd) (defBody s__law_odd) (defScope s__law_odd) .none kV19 dc19 pm19 an19 cd19 ct19), sl19⟩) (e19 : PySem.W.codeIn K cd19 "_law_odd" = true) (k19 : PySem.W.keepIn K (.ref f19) = true) {f20 : Addr} {od20 an20 : Option Addr} {sl20 : Array (Option Value)} {oc20 kV20 dc20 pm20 cd20 ct20 : Value} (a20 : PySem.W.nsIn K mainGlobals "_law_is_int" = some (some (.ref f20))) (l20 : K.lookup f20 = some ⟨oc20, od20, .func (PySem.W.fnOf "_law_is_int" "_law_is_int" (defArgs s__law_is_int) (defBody s__law_is_int) (defScope s__law_is_int) .none kV20 dc20 pm20 an20 cd20 ct20), sl20⟩) (e20 : PySem.W.codeIn K cd20 "_law_is_int" = true) (k20 : PySem.W.keepIn K (.ref f20) = true) {f21 : Addr} {od21 an21 : Option Addr} {sl21 : Array (Option Value)} {oc21 kV21 dc21 pm21 cd21 ct21 : Value} (a21 : PySem.W.nsIn K mainGlobals "_law_bent" = some (some (.ref f21))) (l21 : K.lookup f21 = some ⟨oc21, od21, .func (PySem.W.fnOf "_law_bent" "_law_bent" (defArgs s__law_bent) (defBody s__law_bent) (defScope s__law_bent) .none kV21 dc21 pm21 an21 cd21 ct21), sl21⟩) (e21 : PySem.W.codeIn K cd21 "_law_bent" = true) (k21 : PySem.W.keepIn K (.ref f21) = true) {f22 : Addr} {od22 an22 : Option Addr} {sl22 : Array (Option Value)} {oc22 kV22 dc22 pm22 cd22 ct22 : Value} (a22 : PySem.W.nsIn K mainGlobals "_law_is_bool" = some (some (.ref f22))) (l22 : K.lookup f22 = some ⟨oc22, od22, .func (PySem.W.fnOf "_law_is_bool" "_law_is_bool" (defArgs s__law_is_bool) (defBody s__law_is_bool) (defScope s__law_is_bool) .none kV22 dc22 pm22 an22 cd22 ct22), sl22⟩) (e22 : PySem.W.codeIn K cd22 "_law_is_bool" = true) (k22 : PySem.W.keepIn K (.ref f22) = true) {f23 : Addr} {od23 an23 : Option Addr} {sl23 : Array (Option Value)} {oc23 kV23 dc23 pm23 cd23 ct23 : Value} (a23 : PySem.W.nsIn K mainGlobals "_law_path" = some (some (.ref f23))) (l23 : K.lookup f23 = some ⟨oc23, od23, .func (PySem.W.fnOf "_law_path" "_law_path" (defArgs s__law_path) (defBody s__law_path) (defScope s__law_path) .none kV23 dc23 pm23 an23 cd23 ct23), sl23⟩) (e23 : PySem.W.codeIn K cd23 "_law_path" = true) (k23 : PySem.W.keepIn K (.ref f23) = true) {f24 : Addr} {od24 an24 : Option Addr} {sl24 : Array (Option Value)} {oc24 kV24 dc24 pm24 cd24 ct24 : Value} (a24 : PySem.W.nsIn K mainGlobals "_law_sides" = some (some (.ref f24))) (l24 : K.lookup f24 = some ⟨oc24, od24, .func (PySem.W.fnOf "_law_sides" "_law_sides" (defArgs s__law_sides) (defBody s__law_sides) (defScope s__law_sides) .none kV24 dc24 pm24 an24 cd24 ct24), sl24⟩) (e24 : PySem.W.codeIn K cd24 "_law_sides" = true) (k24 : PySem.W.keepIn K (.ref f24) = true) {f25 : Addr} {od25 an25 : Option Addr} {sl25 : Array (Option Value)} {oc25 kV25 dc25 pm25 cd25 ct25 : Value} (a25 : PySem.W.nsIn K mainGlobals "_law_is_due" = some (some (.ref f25))) (l25 : K.lookup f25 = some ⟨oc25, od25, .func (PySem.W.fnOf "_law_is_due" "_law_is_due" (defArgs s__law_is_due) (defBody s__law_is_due) (defScope s__law_is_due) .none kV25 dc25 pm25 an25 cd25 ct25), sl25⟩) (e25 : PySem.W.codeIn K cd25 "_law_is_due" = true) (k25 : PySem.W.keepIn K (.ref f25) = true) {f26 : Addr} {od26 an26 : Option Addr} {sl26 : Array (Option Value)} {oc26 kV26 dc26 pm26 cd26 ct26 : Value} (a26 : PySem.W.nsIn K mainGlobals "_law_product" = some (some (.ref f26))) (l26 : K.lookup f26 = some ⟨oc26, od26, .func (PySem.W.fnOf "_law_product" "_law_product" (defArgs s__law_product) (defBody s__law_product) (defScope s__law_product) .none kV26 dc26 pm26 an26 cd26 ct26), sl26⟩) (e26 : PySem.W.codeIn K cd26 "_law_product" = true) (k26 : PySem.W.keepIn K (.ref f26) = true) {f27 : Addr} {od27 an27 : Option Addr} {sl27 : Array (Option Value)} {oc27 kV27 dc27 pm27 cd27 ct27 : Value} (a27 : PySem.W.nsIn K mainGlobals "_law_right" = some (some (.ref f27))) (l27 : K.lookup f27 = some ⟨oc27, od27, .func (PySem.W.fnOf "_law_right" "_law_right" (defArgs s__law_right) (defBody s__law_right) (defScope s__law_right) .none kV27 dc27 pm27 an27 cd27 ct27), sl27⟩) (e27 : PySem.W.codeIn K cd27 "_law_right" = true) (k27 : PySem.W.keepIn K (.ref f27) = true) {f28 : Addr} {od28 an28 : Option Addr} {sl28 : Array (Option Value)} {oc28 kV28 dc28 pm28 cd28 ct28 : Value} (a28 : PySem.W.nsIn K mainGlobals "law" = some (some (.ref f28))) (l28 : K.lookup f28 = some ⟨oc28, od28, .func (PySem.W.fnOf "law" "law" (defArgs s_law) (defBody s_law) (defScope s_law) .none kV28 dc28 pm28 an28 cd28 ct28), sl28⟩) (e28 : PySem.W.codeIn K cd28 "law" = true) (k28 : PySem.W.keepIn K (.ref f28) = true) {t0 : Tok} (gl0 : PySem.W.nsIn K mainGlobals "MOST_LETTERS" = some (some (.int 1023 t0))) {t1 : Tok} (gl1 : PySem.W.nsIn K mainGlobals "MOST_TURNS" = some (some (.int 10 t1))) {t2 : Tok} (gl2 : PySem.W.nsIn K mainGlobals "MOUNTAIN" = some (some (.str "m" t2))) {t3 : Tok} (gl3 : PySem.W.nsIn K mainGlobals "ONCE" = some (some (.str "once" t3))) {t4 : Tok} (gl4 : PySem.W.nsIn K mainGlobals "OVER" = some (some (.str "o" t4))) {t5 : Tok} (gl5 : PySem.W.nsIn K mainGlobals "THREE" = some (some (.int 3 t5))) {t6 : Tok} (gl6 : PySem.W.nsIn K mainGlobals "TWICE" = some (some (.str "twice" t6))) {t7 : Tok} (gl7 : PySem.W.nsIn K mainGlobals "UNDER" = some (some (.str "u" t7))) {t8 : Tok} (gl8 : PySem.W.nsIn K mainGlobals "VALLEY" = some (some (.str "v" t8))) {x0 : Addr} (c0 : PySem.W.nsIn K mainGlobals "CreaseError" = some (some (.ref x0))) {x1 : Addr} (c1 : PySem.W.nsIn K mainGlobals "BadWord" = some (some (.ref x1))) {x2 : Addr} (c2 : PySem.W.nsIn K mainGlobals "BadTurns" = some (some (.ref x2))) {fI cda cc : Addr} {odI anI cdd cld : Option Addr} {slI ccs csl : Array (Option Value)} {ocI kVI dcI pmI ctI ccl cl : Value} {vs : Array Value} {file : Str} {tf : Tok} {cdD : ClassData} (i1 : PySem.W.findIn K (.ref x0) "__init__" = some (some (.ref fI))) (i2 : K.lookup fI = some ⟨ocI, odI, .func (PySem.W.ksFn "__init__" "CreaseError.__init__" (defArgs sIni) bIni (defScope sIni) .none kVI dcI pmI anI (.ref cda) ctI cc), slI⟩) (i3 : PySem.W.codeIn K (.ref cda) "CreaseError.__init__" = true) (i4 : K.lookup cda = some ⟨ccl, cdd, .fields vs, ccs⟩) (i5 : vs[2]? = some (.str file tf)) (i6 : ((P.main.file : Str) == file) = true) (i7 : (P.main.scope.names.lookup ("super" : Str)).isSome = false) (i8 : K.lookup cc = some ⟨cl, cld, .cell (some (.ref x0)), csl⟩) (i9 : PySem.W.clsIn K x0 = some cdD) (xb : xB K fI x0 [("CreaseError", x0), ("BadWord", x1), ("BadTurns", x2)] = true) (bi : biB K = true) : ∃ fd : FuncData, (∀ (s : Shared) (v : Value), BindsTo s fd ⟨[v], []⟩ [("script", v)]) ∧ ∀ base : Heap, K.In base → base.Ns mainGlobals mg → FnG P w K mg base CX0 8 fa fd ["script"] (spL K) := by
  cases hfa.symm.trans (PySem.W.mg_of X G a28)
  let cs : List (Str × Addr) := [("CreaseError", x0), ("BadWord", x1), ("BadTurns", x2)]
  let W : Wd := ⟨K, fun c => cs.lookup c, P, w⟩
  have FX : XDef P K fI x0 := ⟨⟨ocI, ctI, .none, kVI, dcI, pmI, anI, odI, slI, "__init__", "CreaseError.__init__", defArgs sIni, defScope sIni, cda, cc, ⟨5, 8, 5, 13⟩, ⟨5, 8, 5, 15⟩, ⟨5, 8, 5, 24⟩, ⟨5, 25, 5, 30⟩, ⟨5, 8, 5, 31⟩, ⟨5, 8, 5, 31⟩, ⟨6, 8, 6, 12⟩, ⟨6, 8, 6, 18⟩, ⟨6, 21, 6, 26⟩, ⟨6, 8, 6, 26⟩, _, vs, file, tf, ccl, cl, cdd, cld, ccs, csl, cdD, i2, i3, rfl, rfl, fun _ _ _ => .of_eq rfl, rfl, rfl, rfl, rfl, by decide +kernel, rfl, rfl, rfl, i4, i5, i6, i7, i8, i9, _, fun _ => rfl⟩⟩
  have EX : XEnv P K mg W := xenv_of X G FX xb rfl
  have T : TxtOk P w K mg W xsAll glAll := by
    refine ⟨rfl, rfl, rfl, EX, fun k h => lookup_some (l := cs) h, biB_ok X G bi, ?_⟩
    intro p hp
    simp only [glAll, List.mem_cons, List.not_mem_nil, or_false] at hp
    rcases hp with rfl | rfl | rfl | rfl | rfl | rfl | rfl | rfl | rfl
    · exact ⟨_, PySem.W.mg_of X G gl0, ⟨_, rfl⟩⟩
    · exact ⟨_, PySem.W.mg_of X G gl1, ⟨_, rfl⟩⟩
    · exact ⟨_, PySem.W.mg_of X G gl2, ⟨_, rfl⟩⟩
    · exact ⟨_, PySem.W.mg_of X G gl3, ⟨_, rfl⟩⟩
    · exact ⟨_, PySem.W.mg_of X G gl4, ⟨_, rfl⟩⟩
    · exact ⟨_, PySem.W.mg_of X G gl5, ⟨_, rfl⟩⟩
    · exact ⟨_, PySem.W.mg_of X G gl6, ⟨_, rfl⟩⟩
    · exact ⟨_, PySem.W.mg_of X G gl7, ⟨_, rfl⟩⟩
    · exact ⟨_, PySem.W.mg_of X G gl8, ⟨_, rfl⟩⟩
  have F0 := fun_mk (st := s_is_int) l0 e0 k0
  have B0 := F0.binds (ps := ["value", "low", "high"]) fun _ _ _ _ _ _ us hl => match us, hl with | [_, _, _], _ => rfl
  have KB0 := kbs_nil (ps := ["value", "low", "high"]) F0
  have F1 := fun_mk (st := s_is_told) l1 e1 k1
  have B1 := F1.binds (ps := ["value", "sizes"]) fun _ _ _ _ _ _ us hl => match us, hl with | [_, _], _ => rfl
  have KB1 := kbs_nil (ps := ["value", "sizes"]) F1
  have F2 := fun_mk (st := s_is_word) l2 e2 k2
  have B2 := F2.binds (ps := ["value", "many"]) fun _ _ _ _ _ _ us hl => match us, hl with | [_, _], _ => rfl
  have KB2 := kbs_nil (ps := ["value", "many"]) F2
  have F3 := fun_mk (st := s_other_letter) l3 e3 k3
  have B3 := F3.binds (ps := ["letter"]) fun _ _ _ _ _ _ us hl => match us, hl with | [_], _ => rfl
  have KB3 := kbs_nil (ps := ["letter"]) F3
  have F4 := fun_mk (st := s_look_at_turns) l4 e4 k4
  have B4 := F4.binds (ps := ["turns"]) fun _ _ _ _ _ _ us hl => match us, hl with | [_], _ => rfl
  have KB4 := kbs_nil (ps := ["turns"]) F4
  have F5 := fun_mk (st := s_look_at_long_word) l5 e5 k5
  have B5 := F5.binds (ps := ["word"]) fun _ _ _ _ _ _ us hl => match us, hl with | [_], _ => rfl
  have KB5 := kbs_nil (ps := ["word"]) F5
  have F6 := fun_mk (st := s_letter_of) l6 e6 k6
  have B6 := F6.binds (ps := ["turn"]) fun _ _ _ _ _ _ us hl => match us, hl with | [_], _ => rfl
  have KB6 := kbs_nil (ps := ["turn"]) F6
  have F7 := fun_mk (st := s_told_halved) l7 e7 k7
  have B7 := F7.binds (ps := ["turns"]) fun _ _ _ _ _ _ us hl => match us, hl with | [_], _ => rfl
  have KB7 := kbs_nil (ps := ["turns"]) F7
  have F8 := fun_mk (st := s_halved_word) l8 e8 k8
  have B8 := F8.binds (ps := ["turns"]) fun _ _ _ _ _ _ us hl => match us, hl with | [_], _ => rfl
  have KB8 := kbs_nil (ps := ["turns"]) F8
  have F9 := fun_mk (st := s_told_path) l9 e9 k9
  have B9 := F9.binds (ps := ["word"]) fun _ _ _ _ _ _ us hl => match us, hl with | [_], _ => rfl
  have KB9 := kbs_nil (ps := ["word"]) F9
  have F10 := fun_mk (st := s_path_of) l10 e10 k10
  have B10 := F10.binds (ps := ["word"]) fun _ _ _ _ _ _ us hl => match us, hl with | [_], _ => rfl
  have KB10 := kbs_cons (kb_of (ps := ["word"]) (ks := ["word"]) F10 (m := 0) rfl (by decide) fun _ _ _ _ _ _ us ws hu hw => match us, ws, hu, hw with | [], [_], _, _ => rfl) (kbs_nil (ps := ["word"]) F10)
  have F11 := fun_mk (st := s_end_of) l11 e11 k11
  have B11 := F11.binds (ps := ["turns"]) fun _ _ _ _ _ _ us hl => match us, hl with | [_], _ => rfl
  have KB11 := kbs_cons (kb_of (ps := ["turns"]) (ks := ["turns"]) F11 (m := 0) rfl (by decide) fun _ _ _ _ _ _ us ws hu hw => match us, ws, hu, hw with | [], [_], _, _ => rfl) (kbs_nil (ps := ["turns"]) F11)
  have F12 := fun_mk (st := s_first_twice) l12 e12 k12
  have B12 := F12.binds (ps := ["points"]) fun _ _ _ _ _ _ us hl => match us, hl with | [_], _ => rfl
  have KB12 := kbs_nil (ps := ["points"]) F12
  have F13 := fun_mk (st := s_gone_once) l13 e13 k13
  have B13 := F13.binds (ps := ["word"]) fun _ _ _ _ _ _ us hl => match us, hl with | [_], _ => rfl
  have KB13 := kbs_cons (kb_of (ps := ["word"]) (ks := ["word"]) F13 (m := 0) rfl (by decide) fun _ _ _ _ _ _ us ws hu hw => match us, ws, hu, hw with | [], [_], _, _ => rfl) (kbs_nil (ps := ["word"]) F13)
  have F14 := fun_mk (st := s_shows_gone_once) l14 e14 k14
  have B14 := F14.binds (ps := ["word", "value"]) fun _ _ _ _ _ _ us hl => match us, hl with | [_, _], _ => rfl
  have KB14 := kbs_cons (kb_of (ps := ["word", "value"]) (ks := ["value"]) F14 (m := 1) rfl (by decide) fun _ _ _ _ _ _ us ws hu hw => match us, ws, hu, hw with | [_], [_], _, _ => rfl) (kbs_nil (ps := ["word", "value"]) F14)
  have F15 := fun_mk (st := s__law_pot) l15 e15 k15
  have B15 := F15.binds (ps := ["script", "place"]) fun _ _ _ _ _ _ us hl => match us, hl with | [_, _], _ => rfl
  have KB15 := kbs_nil (ps := ["script", "place"]) F15
  have F16 := fun_mk (st := s__law_take) l16 e16 k16
  have B16 := F16.binds (ps := ["pot", "upto"]) fun _ _ _ _ _ _ us hl => match us, hl with | [_, _], _ => rfl
  have KB16 := kbs_nil (ps := ["pot", "upto"]) F16
  have F17 := fun_mk (st := s__law_of) l17 e17 k17
  have B17 := F17.binds (ps := ["pot", "some"]) fun _ _ _ _ _ _ us hl => match us, hl with | [_, _], _ => rfl
  have KB17 := kbs_nil (ps := ["pot", "some"]) F17
  have F18 := fun_mk (st := s__law_cells) l18 e18 k18
  have B18 := F18.binds (ps := ["script", "most"]) fun _ _ _ _ _ _ us hl => match us, hl with | [_, _], _ => rfl
  have KB18 := kbs_nil (ps := ["script", "most"]) F18
  have F19 := fun_mk (st := s__law_odd) l19 e19 k19
  have B19 := F19.binds (ps := ["pot"]) fun _ _ _ _ _ _ us hl => match us, hl with | [_], _ => rfl
  have KB19 := kbs_nil (ps := ["pot"]) F19
  have F20 := fun_mk (st := s__law_is_int) l20 e20 k20
  have B20 := F20.binds (ps := ["value", "low", "high"]) fun _ _ _ _ _ _ us hl => match us, hl with | [_, _, _], _ => rfl
  have KB20 := kbs_nil (ps := ["value", "low", "high"]) F20
  have F21 := fun_mk (st := s__law_bent) l21 e21 k21
  have B21 := F21.binds (ps := ["pot", "value"]) fun _ _ _ _ _ _ us hl => match us, hl with | [_, _], _ => rfl
  have KB21 := kbs_nil (ps := ["pot", "value"]) F21
  have F22 := fun_mk (st := s__law_is_bool) l22 e22 k22
  have B22 := F22.binds (ps := ["told", "due"]) fun _ _ _ _ _ _ us hl => match us, hl with | [_, _], _ => rfl
  have KB22 := kbs_nil (ps := ["told", "due"]) F22
  have F23 := fun_mk (st := s__law_path) l23 e23 k23
  have B23 := F23.binds (ps := ["word"]) fun _ _ _ _ _ _ us hl => match us, hl with | [_], _ => rfl
  have KB23 := kbs_nil (ps := ["word"]) F23
  have F24 := fun_mk (st := s__law_sides) l24 e24 k24
  have B24 := F24.binds (ps := ["points"]) fun _ _ _ _ _ _ us hl => match us, hl with | [_], _ => rfl
  have KB24 := kbs_nil (ps := ["points"]) F24
  have F25 := fun_mk (st := s__law_is_due) l25 e25 k25
  have B25 := F25.binds (ps := ["word", "value"]) fun _ _ _ _ _ _ us hl => match us, hl with | [_, _], _ => rfl
  have KB25 := kbs_nil (ps := ["word", "value"]) F25
  have F26 := fun_mk (st := s__law_product) l26 e26 k26
  have B26 := F26.binds (ps := ["turns"]) fun _ _ _ _ _ _ us hl => match us, hl with | [_], _ => rfl
  have KB26 := kbs_nil (ps := ["turns"]) F26
  have F27 := fun_mk (st := s__law_right) l27 e27 k27
  have B27 := F27.binds (ps := ["pot"]) fun _ _ _ _ _ _ us hl => match us, hl with | [_], _ => rfl
  have KB27 := kbs_nil (ps := ["pot"]) F27
  have F28 := fun_mk (st := s_law) l28 e28 k28
  have B28 := F28.binds (ps := ["script"]) fun _ _ _ _ _ _ us hl => match us, hl with | [_], _ => rfl
  have KB28 := kbs_nil (ps := ["script"]) F28
  exact ⟨_, fun s v => .of_eq rfl, fun base _ _ => FnG.weaken (all_fn T ⟨F0, PySem.W.mg_of X G a0, k0, B0, KB0⟩ ⟨F1, PySem.W.mg_of X G a1, k1, B1, KB1⟩ ⟨F2, PySem.W.mg_of X G a2, k2, B2, KB2⟩ ⟨F3, PySem.W.mg_of X G a3, k3, B3, KB3⟩ ⟨F4, PySem.W.mg_of X G a4, k4, B4, KB4⟩ ⟨F5, PySem.W.mg_of X G a5, k5, B5, KB5⟩ ⟨F6, PySem.W.mg_of X G a6, k6, B6, KB6⟩ ⟨F7, PySem.W.mg_of X G a7, k7, B7, KB7⟩ ⟨F8, PySem.W.mg_of X G a8, k8, B8, KB8⟩ ⟨F9, PySem.W.mg_of X G a9, k9, B9, KB9⟩ ⟨F10, PySem.W.mg_of X G a10, k10, B10, KB10⟩ ⟨F11, PySem.W.mg_of X G a11, k11, B11, KB11⟩ ⟨F12, PySem.W.mg_of X G a12, k12, B12, KB12⟩ ⟨F13, PySem.W.mg_of X G a13, k13, B13, KB13⟩ ⟨F14, PySem.W.mg_of X G a14, k14, B14, KB14⟩ ⟨F15, PySem.W.mg_of X G a15, k15, B15, KB15⟩ ⟨F16, PySem.W.mg_of X G a16, k16, B16, KB16⟩ ⟨F17, PySem.W.mg_of X G a17, k17, B17, KB17⟩ ⟨F18, PySem.W.mg_of X G a18, k18, B18, KB18⟩ ⟨F19, PySem.W.mg_of X G a19, k19, B19, KB19⟩ ⟨F20, PySem.W.mg_of X G a20, k20, B20, KB20⟩ ⟨F21, PySem.W.mg_of X G a21, k21, B21, KB21⟩ ⟨F22, PySem.W.mg_of X G a22, k22, B22, KB22⟩ ⟨F23, PySem.W.mg_of X G a23, k23, B23, KB23⟩ ⟨F24, PySem.W.mg_of X G a24, k24, B24, KB24⟩ ⟨F25, PySem.W.mg_of X G a25, k25, B25, KB25⟩ ⟨F26, PySem.W.mg_of X G a26, k26, B26, KB26⟩ ⟨F27, PySem.W.mg_of X G a27, k27, B27, KB27⟩ ⟨F28, PySem.W.mg_of X G a28, k28, B28, KB28⟩) (spL_le rfl fun ns hl => law_true hl)⟩
end CF
open PySem PySem.W PyProof.Rows in
set_option maxRecDepth 100000 in
set_option maxHeartbeats 0 in
theorem PySem.Challenge.cw_creasedflat_k61_whole_paths_of_words_holds : PySem.Challenge.rw_creasedflat_k61_whole_paths_of_words.Holds := by
  w_on; o_law; k_head; (case hw => w_witness2)
  k_fill
  refine CF.walk (l := PySem.Challenge.rw_creasedflat_k61_whole_paths_of_words) (k := 8) rfl rfl ⟨⟨rfl, by decide, by decide⟩, rfl⟩ (fun w h Y => PySem.W.kIn_of Y) ?F
  case F =>
    intro w mg fa h KX G hmg
    refine' CF.all_mk KX G hmg ?a0 ?l0 ?e0 ?k0 ?a1 ?l1 ?e1 ?k1 ?a2 ?l2 ?e2 ?k2 ?a3 ?l3 ?e3 ?k3 ?a4 ?l4 ?e4 ?k4 ?a5 ?l5 ?e5 ?k5 ?a6 ?l6 ?e6 ?k6 ?a7 ?l7 ?e7 ?k7 ?a8 ?l8 ?e8 ?k8 ?a9 ?l9 ?e9 ?k9 ?a10 ?l10 ?e10 ?k10 ?a11 ?l11 ?e11 ?k11 ?a12 ?l12 ?e12 ?k12 ?a13 ?l13 ?e13 ?k13 ?a14 ?l14 ?e14 ?k14 ?a15 ?l15 ?e15 ?k15 ?a16 ?l16 ?e16 ?k16 ?a17 ?l17 ?e17 ?k17 ?a18 ?l18 ?e18 ?k18 ?a19 ?l19 ?e19 ?k19 ?a20 ?l20 ?e20 ?k20 ?a21 ?l21 ?e21 ?k21 ?a22 ?l22 ?e22 ?k22 ?a23 ?l23 ?e23 ?k23 ?a24 ?l24 ?e24 ?k24 ?a25 ?l25 ?e25 ?k25 ?a26 ?l26 ?e26 ?k26 ?a27 ?l27 ?e27 ?k27 ?a28 ?l28 ?e28 ?k28 ?gl0 ?gl1 ?gl2 ?gl3 ?gl4 ?gl5 ?gl6 ?gl7 ?gl8 ?c0 ?c1 ?c2 ?i1 ?i2 ?i3 ?i4 ?i5 ?i6 ?i7 ?i8 ?i9 ?xb ?bi
    (case a0 => k_is)
    (case l0 => k_is)
    (case e0 => k_is)
    (case k0 => k_is)
    (case a1 => k_is)
    (case l1 => k_is)
    (case e1 => k_is)
    (case k1 => k_is)
    (case a2 => k_is)
    (case l2 => k_is)
    (case e2 => k_is)
    (case k2 => k_is)
    (case a3 => k_is)
    (case l3 => k_is)
    (case e3 => k_is)
    (case k3 => k_is)
    (case a4 => k_is)
    (case l4 => k_is)
    (case e4 => k_is)
    (case k4 => k_is)
    (case a5 => k_is)
    (case l5 => k_is)
    (case e5 => k_is)
    (case k5 => k_is)
    (case a6 => k_is)
    (case l6 => k_is)
    (case e6 => k_is)
    (case k6 => k_is)
    (case a7 => k_is)
    (case l7 => k_is)
    (case e7 => k_is)
    (case k7 => k_is)
    (case a8 => k_is)
    (case l8 => k_is)
    (case e8 => k_is)
    (case k8 => k_is)
    (case a9 => k_is)
    (case l9 => k_is)
    (case e9 => k_is)
    (case k9 => k_is)
    (case a10 => k_is)
    (case l10 => k_is)
    (case e10 => k_is)
    (case k10 => k_is)
    (case a11 => k_is)
    (case l11 => k_is)
    (case e11 => k_is)
    (case k11 => k_is)
    (case a12 => k_is)
    (case l12 => k_is)
    (case e12 => k_is)
    (case k12 => k_is)
    (case a13 => k_is)
    (case l13 => k_is)
    (case e13 => k_is)
    (case k13 => k_is)
    (case a14 => k_is)
    (case l14 => k_is)
    (case e14 => k_is)
    (case k14 => k_is)
    (case a15 => k_is)
    (case l15 => k_is)
    (case e15 => k_is)
    (case k15 => k_is)
    (case a16 => k_is)
    (case l16 => k_is)
    (case e16 => k_is)
    (case k16 => k_is)
    (case a17 => k_is)
    (case l17 => k_is)
    (case e17 => k_is)
    (case k17 => k_is)
    (case a18 => k_is)
    (case l18 => k_is)
    (case e18 => k_is)
    (case k18 => k_is)
    (case a19 => k_is)
    (case l19 => k_is)
    (case e19 => k_is)
    (case k19 => k_is)
    (case a20 => k_is)
    (case l20 => k_is)
    (case e20 => k_is)
    (case k20 => k_is)
    (case a21 => k_is)
    (case l21 => k_is)
    (case e21 => k_is)
    (case k21 => k_is)
    (case a22 => k_is)
    (case l22 => k_is)
    (case e22 => k_is)
    (case k22 => k_is)
    (case a23 => k_is)
    (case l23 => k_is)
    (case e23 => k_is)
    (case k23 => k_is)
    (case a24 => k_is)
    (case l24 => k_is)
    (case e24 => k_is)
    (case k24 => k_is)
    (case a25 => k_is)
    (case l25 => k_is)
    (case e25 => k_is)
    (case k25 => k_is)
    (case a26 => k_is)
    (case l26 => k_is)
    (case e26 => k_is)
    (case k26 => k_is)
    (case a27 => k_is)
    (case l27 => k_is)
    (case e27 => k_is)
    (case k27 => k_is)
    (case a28 => k_is)
    (case l28 => k_is)
    (case e28 => k_is)
    (case k28 => k_is)
    (case gl0 => k_is)
    (case gl1 => k_is)
    (case gl2 => k_is)
    (case gl3 => k_is)
    (case gl4 => k_is)
    (case gl5 => k_is)
    (case gl6 => k_is)
    (case gl7 => k_is)
    (case gl8 => k_is)
    (case c0 => k_is)
    (case c1 => k_is)
    (case c2 => k_is)
    (case i1 => k_is)
    (case i2 => k_is)
    (case i3 => k_is)
    (case i4 => k_is)
    (case i5 => first | rfl | kernel_rfl)
    (case i6 => first | rfl | kernel_rfl)
    (case i7 => first | rfl | kernel_rfl)
    (case i8 => k_is)
    (case i9 => k_is)
    (case xb => kernel_rfl)
    (case bi => kernel_rfl)

