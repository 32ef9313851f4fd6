import PyProof.Rows.All
import Wide.All
import OpenK.AllK
import Wide.FinOn
import HandS.ForMost
import HandS.Style
import HandS.Zip
import KE.GoesMore
import HandS.Wide
import HandS.WideBits
import HandS.TupAny
import HandS.Deep
import HandS.TupLe
import HandS.Conv
import HandS.IsInst
import HandS.SortInts
import HandS.SetFor
import HandS.Defaults
import HandS.HeadHook2
import HandS.HeadEnd
import KE.KStateDown
import HandS.Head0
import HandS.Head1
import HandS.Head2
import HandS.HeadHook1
import PySem.Challenge.RW_cardpacks_k52_whole_prepared_packs
import PyProof.ReprBulk
import PyProof.FitsInt
set_option Elab.async false
set_option linter.all false
section
set_option maxRecDepth 100000
set_option maxHeartbeats 4000000
/-! DL, part 1: plain data for values, owned lists, the relation between an environment of data and the layer's state -/
namespace DL
open PySem PySem.Spec PyProof.Rows L2
abbrev D := PyData
abbrev KF := PySem.W.Frag
abbrev St := L2.St

/-- a tuple that is read: known to the object, without a dict of its own -/
def TupF (H : Hp) (a : Addr) (xs : List V) : Prop := ∃ o : Obj, H a = some (.frz o (.tup xs)) ∧ o.dict = none
theorem TupF.seq {K : KF} {H : Hp} {a : Addr} {xs : List V} (h : TupF H a xs) : SqT K H a xs := let ⟨o, h, _⟩ := h; .inl (.inr ⟨o, h⟩)
theorem TupF.mono {H H' : Hp} {a : Addr} {xs : List V} (e : Same H H') (h : TupF H a xs) : TupF H' a xs := let ⟨o, h, d⟩ := h; ⟨o, e _ _ h, d⟩

mutual
inductive Rp (K : KF) (H : Hp) : V → D → Prop
  | non : Rp K H .non .none
  | bl (b : Bool) : Rp K H (.bl b) (.bool b)
  | int (i : Int) : Rp K H (.int i) (.int i)
  | str (x : Str) : Rp K H (.str x) (.str x)
  | lst {a : Addr} {xs : List V} {ds : List D} : H a = some (.lst xs) → RpA K H xs ds → Rp K H (.ref a) (.list ds)
  | tup {a : Addr} {xs : List V} {ds : List D} : TupF H a xs → RpA K H xs ds → Rp K H (.ref a) (.tuple ds)
  | dct {a : Addr} : H a = some (.dK []) → Rp K H (.ref a) (.dict [])
inductive RpA (K : KF) (H : Hp) : List V → List D → Prop
  | nil : RpA K H [] []
  | cons {v : V} {vs : List V} {d : D} {ds : List D} : Rp K H v d → RpA K H vs ds → RpA K H (v :: vs) (d :: ds)
end

theorem same_seqT {K : KF} {H H' : Hp} {a : Addr} {xs : List V} (e : Same H H') (h : SqT K H a xs) : SqT K H' a xs := by
  rcases h with (h | ⟨o, h⟩) | h
  · exact .inl (.inl (e _ _ h))
  · exact .inl (.inr ⟨o, e _ _ h⟩)
  · exact .inr h
mutual
theorem Rp.mono {K : KF} {H H' : Hp} (e : Same H H') : ∀ {v : V} {d : D}, Rp K H v d → Rp K H' v d
  | _, _, .non => .non
  | _, _, .bl b => .bl b
  | _, _, .int i => .int i
  | _, _, .str x => .str x
  | _, _, .lst h r => .lst (e _ _ h) (RpA.mono e r)
  | _, _, .tup h r => .tup (h.mono e) (RpA.mono e r)
  | _, _, .dct h => .dct (e _ _ h)
theorem RpA.mono {K : KF} {H H' : Hp} (e : Same H H') : ∀ {vs : List V} {ds : List D}, RpA K H vs ds → RpA K H' vs ds
  | _, _, .nil => .nil
  | _, _, .cons h r => .cons (Rp.mono e h) (RpA.mono e r)
end
theorem RpA.length {K : KF} {H : Hp} : ∀ {vs : List V} {ds : List D}, RpA K H vs ds → vs.length = ds.length
  | _, _, .nil => rfl
  | _, _, .cons _ r => congrArg Nat.succ (RpA.length r)
theorem RpA.get {K : KF} {H : Hp} : ∀ {vs : List V} {ds : List D} {i : Nat} {d : D}, RpA K H vs ds → ds[i]? = some d → ∃ v, vs[i]? = some v ∧ Rp K H v d
  | _, _, _, _, .nil, h => by simp at h
  | _, _, 0, _, .cons h _, e => by
    simp at e
    subst e
    exact ⟨_, rfl, h⟩
  | _, _, i + 1, d, .cons _ r, e => by
    obtain ⟨v, h1, h2⟩ := RpA.get (i := i) (d := d) r (by simpa using e)
    exact ⟨v, by simpa using h1, h2⟩
theorem RpA.get' {K : KF} {H : Hp} : ∀ {vs : List V} {ds : List D} {i : Nat} {v : V}, RpA K H vs ds → vs[i]? = some v → ∃ d, ds[i]? = some d ∧ Rp K H v d
  | _, _, _, _, .nil, h => by simp at h
  | _, _, 0, _, .cons h _, e => by
    simp at e
    subst e
    exact ⟨_, rfl, h⟩
  | _, _, i + 1, v, .cons _ r, e => by
    obtain ⟨d, h1, h2⟩ := RpA.get' (i := i) (v := v) r (by simpa using e)
    exact ⟨d, by simpa using h1, h2⟩
theorem RpA.append {K : KF} {H : Hp} : ∀ {vs ws : List V} {ds es : List D}, RpA K H vs ds → RpA K H ws es → RpA K H (vs ++ ws) (ds ++ es)
  | _, _, _, _, .nil, s => s
  | _, _, _, _, .cons h r, s => .cons h (RpA.append r s)
theorem RpA.take {K : KF} {H : Hp} : ∀ {vs : List V} {ds : List D} (n : Nat), RpA K H vs ds → RpA K H (vs.take n) (ds.take n)
  | _, _, 0, _ => .nil
  | _, _, _ + 1, .nil => .nil
  | _, _, n + 1, .cons h r => .cons h (RpA.take n r)
theorem RpA.drop {K : KF} {H : Hp} : ∀ {vs : List V} {ds : List D} (n : Nat), RpA K H vs ds → RpA K H (vs.drop n) (ds.drop n)
  | _, _, 0, r => r
  | _, _, _ + 1, .nil => .nil
  | _, _, n + 1, .cons _ r => RpA.drop n r
theorem RpA.set {K : KF} {H : Hp} {v : V} {d : D} (h : Rp K H v d) : ∀ {vs : List V} {ds : List D} (i : Nat), RpA K H vs ds → RpA K H (vs.set i v) (ds.set i d)
  | _, _, _, .nil => .nil
  | _, _, 0, .cons _ r => .cons h r
  | _, _, i + 1, .cons q r => .cons q (RpA.set h i r)
theorem RpA.eraseIdx {K : KF} {H : Hp} : ∀ {vs : List V} {ds : List D} (i : Nat), RpA K H vs ds → RpA K H (vs.eraseIdx i) (ds.eraseIdx i)
  | _, _, _, .nil => .nil
  | _, _, 0, .cons _ r => r
  | _, _, i + 1, .cons q r => .cons q (RpA.eraseIdx i r)
theorem RpA.reverse {K : KF} {H : Hp} : ∀ {vs : List V} {ds : List D}, RpA K H vs ds → RpA K H vs.reverse ds.reverse
  | _, _, .nil => .nil
  | _, _, .cons h r => by
    rw [List.reverse_cons, List.reverse_cons]
    exact (RpA.reverse r).append (.cons h .nil)
theorem RpA.rep {K : KF} {H : Hp} {vs : List V} {ds : List D} (r : RpA K H vs ds) : ∀ k : Nat, RpA K H (List.replicate k vs).flatten (List.replicate k ds).flatten
  | 0 => .nil
  | k + 1 => by
    rw [List.replicate_succ, List.replicate_succ, List.flatten_cons, List.flatten_cons]
    exact r.append (RpA.rep r k)
theorem RpA.ints {K : KF} {H : Hp} : ∀ (ns : List Int), RpA K H (ns.map V.int) (ns.map PyData.int)
  | [] => .nil
  | n :: ns => .cons (.int n) (RpA.ints ns)

/-! ### slots -/
/-- what a slot holds: nothing, frozen data, a list of its own, a list that the caller owns and sees changed, the law's script -/
inductive Sl where
  | em | fz (d : D) | ow (xs : List D) | io (xs : List D) | sc (ns : List Int)
abbrev En := List Sl
@[simp] def Sl.cells : Sl → Option (List D)
  | .ow xs => some xs
  | .io xs => some xs
  | _ => none
structure CTX where
  F0 : Hp
  H0 : Hp
  mu : List Addr
  io : List (Nat × Addr)

structure Rel (K : KF) (C : CTX) (e : En) (σ : St) (F H : Hp) : Prop where
  sub : Same F H
  ext : Same C.F0 F
  new : ∀ b, F b ≠ none → C.F0 b ≠ none ∨ C.H0 b = none ∨ b ∈ C.mu
  frame : ∀ b o, C.H0 b = some o → b ∉ C.mu → H b = some o
  fz : ∀ (i : Nat) d, e[i]? = some (Sl.fz d) → ∃ v, σ[i]? = some (some v) ∧ Rp K F v d
  own : ∀ (i : Nat) xs s, e[i]? = some s → s.cells = some xs → ∃ a vs, σ[i]? = some (some (V.ref a)) ∧ F a = none ∧ H a = some (.lst vs) ∧ RpA K F vs xs ∧ (C.H0 a = none ∨ a ∈ C.mu)
  sep : ∀ (i j : Nat) s t a, e[i]? = some s → e[j]? = some t → s.cells ≠ none → t.cells ≠ none → σ[i]? = some (some (V.ref a)) → σ[j]? = some (some (V.ref a)) → i = j
  ioa : ∀ p ∈ C.io, ∃ xs, e[p.1]? = some (Sl.io xs) ∧ σ[p.1]? = some (some (V.ref p.2))
  scr : ∀ (i : Nat) ns, e[i]? = some (Sl.sc ns) → ∃ a, σ[i]? = some (some (V.ref a)) ∧ SqL K F a (ns.map V.int)
  len : e.length = σ.length

/-- the heap grows by frozen objects (and others), nothing is changed -/
structure Grow (F H F' H' : Hp) : Prop where
  ff : Same F F'
  hh : Same H H'
  sub : Same F' H'
  new : ∀ b, F' b ≠ none → F b ≠ none ∨ H b = none
theorem Grow.refl {F H : Hp} (s : Same F H) : Grow F H F H := ⟨.refl _, .refl _, s, fun b h => .inl h⟩
theorem Same.none_of {H H' : Hp} (e : Same H H') {b : Addr} (h : H' b = none) : H b = none := e.free h
theorem Grow.trans {F H F1 H1 F2 H2 : Hp} (a : Grow F H F1 H1) (b : Grow F1 H1 F2 H2) : Grow F H F2 H2 := by
  refine ⟨a.ff.trans b.ff, a.hh.trans b.hh, b.sub, fun c h => ?_⟩
  rcases b.new c h with h | h
  · exact a.new c h
  · exact .inr (a.hh.free h)
theorem same_upd {H : Hp} {p : Addr} {o : HO} (h : H p = none) : Same H (upd H p o) := fun b x e => by
  rw [upd_ne (ne_of_none e h)]
  exact e
theorem same_upd2 {F H : Hp} {p : Addr} {o : HO} (s : Same F H) (h : H p = none) : Same (upd F p o) (upd H p o) := fun b x e => by
  by_cases hb : b = p
  · subst hb
    rw [upd_same] at e ⊢
    exact e
  · rw [upd_ne hb] at e ⊢
    exact s _ _ e
/-- a new frozen object -/
theorem Grow.one {F H : Hp} {p : Addr} {o : HO} (s : Same F H) (h : H p = none) : Grow F H (upd F p o) (upd H p o) :=
  ⟨same_upd (s.free h), same_upd h, same_upd2 s h, fun b hb => by
    by_cases e : b = p
    · subst e
      exact .inr h
    · rw [upd_ne e] at hb
      exact .inl hb⟩
/-- a new object that nobody looks at -/
theorem Grow.idle {F H : Hp} {p : Addr} {o : HO} (s : Same F H) (h : H p = none) : Grow F H F (upd H p o) :=
  ⟨.refl _, same_upd h, s.trans (same_upd h), fun b hb => .inl hb⟩
section
variable {K : KF} {C : CTX} {e : En} {σ : St} {F H F' H' : Hp}
theorem Rel.grow (R : Rel K C e σ F H) (g : Grow F H F' H') : Rel K C e σ F' H' where
  sub := g.sub
  ext := R.ext.trans g.ff
  new := fun b hb => by
    rcases g.new b hb with h | h
    · exact R.new b h
    · by_cases hm : b ∈ C.mu
      · exact .inr (.inr hm)
      · refine .inr (.inl ?_)
        cases q : C.H0 b with
        | none => rfl
        | some o =>
          have z := R.frame b o q hm
          rw [h] at z
          cases z
  frame := fun b o h hm => g.hh _ _ (R.frame b o h hm)
  fz := fun i d h => by
    obtain ⟨v, h1, h2⟩ := R.fz i d h
    exact ⟨v, h1, h2.mono g.ff⟩
  own := fun i xs s h1 h2 => by
    obtain ⟨a, vs, q1, q2, q3, q4, q5⟩ := R.own i xs s h1 h2
    refine ⟨a, vs, q1, ?_, g.hh _ _ q3, q4.mono g.ff, q5⟩
    cases z : F' a with
    | none => rfl
    | some o =>
      rcases g.new a (by rw [z]; simp) with h | h
      · exact absurd q2 h
      · rw [q3] at h
        cases h
  sep := R.sep
  ioa := R.ioa
  scr := fun i ns h => let ⟨a, h1, h2⟩ := R.scr i ns h; ⟨a, h1, g.ff.seq h2⟩
  len := R.len
/-- a list of its own is changed -/
theorem Rel.change {i : Nat} {s s' : Sl} {xs ys : List D} {ws : List V} {a : Addr} (R : Rel K C e σ F H) (he : e[i]? = some s) (hs : s.cells = some xs)
    (hσ : σ[i]? = some (some (V.ref a))) (hw : RpA K F ws ys) (hs' : s'.cells = some ys) (hio : ∀ zs, s = .io zs → ∃ zs', s' = .io zs') : Rel K C (e.set i s') σ F (upd H a (.lst ws)) := by
  obtain ⟨a', vs, q1, q2, q3, q4, q5⟩ := R.own i xs s he hs
  have ea : a' = a := by
    rw [hσ] at q1
    injection q1 with q1
    injection q1 with q1
    injection q1 with q1
    exact q1.symm
  subst ea
  have hi : i < e.length := (List.getElem?_eq_some_iff.mp he).1
  have hne : ∀ b o, F b = some o → b ≠ a' := fun b o h z => by
    rw [z, q2] at h
    cases h
  refine ⟨fun b o h => ?_, R.ext, R.new, fun b o h hm => ?_, fun j d h => ?_, fun j zs t h1 h2 => ?_, fun j k t u b h1 h2 h3 h4 h5 h6 => ?_, fun p hp => ?_, fun j ns h => ?_, by rw [List.length_set]; exact R.len⟩
  · rw [upd_ne (hne b o h)]
    exact R.sub b o h
  · have hb : b ≠ a' := fun z => by
      subst z
      rcases q5 with q | q
      · rw [q] at h
        cases h
      · exact hm q
    rw [upd_ne hb]
    exact R.frame b o h hm
  · by_cases hj : j = i
    · subst hj
      rw [List.getElem?_set_self hi] at h
      cases h
      simp at hs'
    · rw [List.getElem?_set_ne (Ne.symm hj)] at h
      exact R.fz j d h
  · by_cases hj : j = i
    · subst hj
      rw [List.getElem?_set_self hi] at h1
      cases h1
      rw [hs'] at h2
      cases h2
      exact ⟨a', ws, hσ, q2, upd_same, hw, q5⟩
    · rw [List.getElem?_set_ne (Ne.symm hj)] at h1
      obtain ⟨b, us, w1, w2, w3, w4, w5⟩ := R.own j zs t h1 h2
      refine ⟨b, us, w1, w2, ?_, w4, w5⟩
      have hb : b ≠ a' := fun z => by
        subst z
        exact hj (R.sep j i t s b h1 he (by rw [h2]; simp) (by rw [hs]; simp) w1 hσ)
      rw [upd_ne hb]
      exact w3
  · have key : ∀ (m : Nat) (v : Sl), (e.set i s')[m]? = some v → v.cells ≠ none → ∃ v', e[m]? = some v' ∧ v'.cells ≠ none := fun m v hm hv => by
      by_cases hmi : m = i
      · subst hmi
        exact ⟨s, he, by rw [hs]; simp⟩
      · rw [List.getElem?_set_ne (Ne.symm hmi)] at hm
        exact ⟨v, hm, hv⟩
    obtain ⟨t', a1, a2⟩ := key j t h1 h3
    obtain ⟨u', b1, b2⟩ := key k u h2 h4
    exact R.sep j k t' u' b a1 b1 a2 b2 h5 h6
  · obtain ⟨zs, z1, z2⟩ := R.ioa p hp
    by_cases hj : p.1 = i
    · rw [hj] at z1
      rw [he] at z1
      cases z1
      obtain ⟨zs', z3⟩ := hio zs rfl
      refine ⟨zs', ?_, z2⟩
      rw [hj, List.getElem?_set_self hi, z3]
    · refine ⟨zs, ?_, z2⟩
      rw [List.getElem?_set_ne (Ne.symm hj)]
      exact z1
  · by_cases hj : j = i
    · subst hj
      rw [List.getElem?_set_self hi] at h
      cases h
      simp at hs'
    · rw [List.getElem?_set_ne (Ne.symm hj)] at h
      exact R.scr j ns h
/-- a list of its own is frozen -/
theorem Rel.freeze {i : Nat} {xs : List D} {a : Addr} {vs : List V} (R : Rel K C e σ F H) (he : e[i]? = some (.ow xs)) (hσ : σ[i]? = some (some (V.ref a))) (hv : H a = some (.lst vs)) :
    Rel K C (e.set i (.fz (.list xs))) σ (upd F a (.lst vs)) H ∧ Same F (upd F a (.lst vs)) ∧ Rp K (upd F a (.lst vs)) (.ref a) (.list xs) := by
  obtain ⟨a', vs', q1, q2, q3, q4, q5⟩ := R.own i xs _ he rfl
  have ea : a' = a := by
    rw [hσ] at q1
    injection q1 with q1
    injection q1 with q1
    injection q1 with q1
    exact q1.symm
  subst ea
  rw [hv] at q3
  cases q3
  have hi : i < e.length := (List.getElem?_eq_some_iff.mp he).1
  have sF : Same F (upd F a' (.lst vs)) := same_upd q2
  have rp : Rp K (upd F a' (.lst vs)) (.ref a') (.list xs) := .lst upd_same (q4.mono sF)
  refine ⟨⟨fun b o h => ?_, R.ext.trans sF, fun b h => ?_, R.frame, fun j d h => ?_, fun j zs t h1 h2 => ?_, fun j k t u b h1 h2 h3 h4 h5 h6 => ?_, fun p hp => ?_, fun j ns h => ?_, by rw [List.length_set]; exact R.len⟩, sF, rp⟩
  · by_cases hb : b = a'
    · subst hb
      rw [upd_same] at h
      rw [hv]
      exact h
    · rw [upd_ne hb] at h
      exact R.sub b o h
  · by_cases hb : b = a'
    · subst hb
      exact .inr q5
    · rw [upd_ne hb] at h
      exact R.new b h
  · by_cases hj : j = i
    · subst hj
      rw [List.getElem?_set_self hi] at h
      cases h
      exact ⟨_, hσ, rp⟩
    · rw [List.getElem?_set_ne (Ne.symm hj)] at h
      obtain ⟨v, z1, z2⟩ := R.fz j d h
      exact ⟨v, z1, z2.mono sF⟩
  · by_cases hj : j = i
    · subst hj
      rw [List.getElem?_set_self hi] at h1
      cases h1
      simp at h2
    · rw [List.getElem?_set_ne (Ne.symm hj)] at h1
      obtain ⟨b, us, w1, w2, w3, w4, w5⟩ := R.own j zs t h1 h2
      refine ⟨b, us, w1, ?_, w3, w4.mono sF, w5⟩
      have hb : b ≠ a' := fun z => by
        subst z
        exact hj (R.sep j i t _ b h1 he (by rw [h2]; simp) (by simp) w1 hσ)
      rw [upd_ne hb]
      exact w2
  · have key : ∀ (m : Nat) (v : Sl), (e.set i (.fz (.list xs)))[m]? = some v → v.cells ≠ none → e[m]? = some v := fun m v hm hv => by
      by_cases hmi : m = i
      · subst hmi
        rw [List.getElem?_set_self hi] at hm
        cases hm
        simp at hv
      · rw [List.getElem?_set_ne (Ne.symm hmi)] at hm
        exact hm
    exact R.sep j k t u b (key j t h1 h3) (key k u h2 h4) h3 h4 h5 h6
  · obtain ⟨zs, z1, z2⟩ := R.ioa p hp
    refine ⟨zs, ?_, z2⟩
    rw [List.getElem?_set_ne ?_]
    · exact z1
    · intro z
      rw [← z, he] at z1
      cases z1
  · by_cases hj : j = i
    · subst hj
      rw [List.getElem?_set_self hi] at h
      cases h
    · rw [List.getElem?_set_ne (Ne.symm hj)] at h
      obtain ⟨b, y1, y2⟩ := R.scr j ns h
      exact ⟨b, y1, sF.seq y2⟩
/-- a slot is given frozen data -/
theorem Rel.put {i : Nat} {s : Sl} {d : D} {v : V} (R : Rel K C e σ F H) (he : e[i]? = some s) (hs : ∀ zs, s ≠ .io zs) (hl : i < σ.length) (hv : Rp K F v d) : Rel K C (e.set i (.fz d)) (σ.set i (some v)) F H := by
  have hi : i < e.length := (List.getElem?_eq_some_iff.mp he).1
  have key : ∀ (m : Nat) (v : Sl), (e.set i (.fz d))[m]? = some v → v.cells ≠ none → e[m]? = some v ∧ m ≠ i := fun m v hm hv => by
    by_cases hmi : m = i
    · subst hmi
      rw [List.getElem?_set_self hi] at hm
      cases hm
      simp at hv
    · rw [List.getElem?_set_ne (Ne.symm hmi)] at hm
      exact ⟨hm, hmi⟩
  refine ⟨R.sub, R.ext, R.new, R.frame, fun j d' h => ?_, fun j zs t h1 h2 => ?_, fun j k t u b h1 h2 h3 h4 h5 h6 => ?_, fun p hp => ?_, fun j ns h => ?_, by rw [List.length_set, List.length_set]; exact R.len⟩
  · by_cases hj : j = i
    · subst hj
      rw [List.getElem?_set_self hi] at h
      cases h
      exact ⟨v, by rw [List.getElem?_set_self hl], hv⟩
    · rw [List.getElem?_set_ne (Ne.symm hj)] at h ⊢
      exact R.fz j d' h
  · obtain ⟨z1, z2⟩ := key j t h1 (by rw [h2]; simp)
    rw [List.getElem?_set_ne (Ne.symm z2)]
    exact R.own j zs t z1 h2
  · obtain ⟨z1, z2⟩ := key j t h1 h3
    obtain ⟨y1, y2⟩ := key k u h2 h4
    rw [List.getElem?_set_ne (Ne.symm z2)] at h5
    rw [List.getElem?_set_ne (Ne.symm y2)] at h6
    exact R.sep j k t u b z1 y1 h3 h4 h5 h6
  · obtain ⟨zs, z1, z2⟩ := R.ioa p hp
    have hne : p.1 ≠ i := fun z => by
      rw [z, he] at z1
      cases z1
      exact hs _ rfl
    rw [List.getElem?_set_ne (Ne.symm hne), List.getElem?_set_ne (Ne.symm hne)]
    exact ⟨zs, z1, z2⟩
  · by_cases hj : j = i
    · subst hj
      rw [List.getElem?_set_self hi] at h
      cases h
    · rw [List.getElem?_set_ne (Ne.symm hj)] at h ⊢
      exact R.scr j ns h
/-- a slot is given a list of its own, new -/
theorem Rel.putO {i : Nat} {s : Sl} {a : Addr} {vs : List V} {xs : List D} (R : Rel K C e σ F H) (he : e[i]? = some s) (hs : ∀ zs, s ≠ .io zs) (hl : i < σ.length) (hF : F a = none) (hH : H a = some (.lst vs)) (hv : RpA K F vs xs)
    (h0 : C.H0 a = none ∨ a ∈ C.mu) (hfree : ∀ (j : Nat) t, e[j]? = some t → t.cells ≠ none → σ[j]? ≠ some (some (V.ref a))) : Rel K C (e.set i (.ow xs)) (σ.set i (some (V.ref a))) F H := by
  have hi : i < e.length := (List.getElem?_eq_some_iff.mp he).1
  refine ⟨R.sub, R.ext, R.new, R.frame, fun j d' h => ?_, fun j zs t h1 h2 => ?_, fun j k t u b h1 h2 h3 h4 h5 h6 => ?_, fun p hp => ?_, fun j ns h => ?_, by rw [List.length_set, List.length_set]; exact R.len⟩
  · by_cases hj : j = i
    · subst hj
      rw [List.getElem?_set_self hi] at h
      cases h
    · rw [List.getElem?_set_ne (Ne.symm hj)] at h ⊢
      exact R.fz j d' h
  · by_cases hj : j = i
    · subst hj
      rw [List.getElem?_set_self hi] at h1
      cases h1
      simp at h2
      subst h2
      exact ⟨a, vs, by rw [List.getElem?_set_self hl], hF, hH, hv, h0⟩
    · rw [List.getElem?_set_ne (Ne.symm hj)] at h1 ⊢
      exact R.own j zs t h1 h2
  · by_cases hj : j = i
    · by_cases hk : k = i
      · rw [hj, hk]
      · subst hj
        rw [List.getElem?_set_self hl] at h5
        cases h5
        rw [List.getElem?_set_ne (Ne.symm hk)] at h2 h6
        exact absurd h6 (hfree k u h2 h4)
    · by_cases hk : k = i
      · subst hk
        rw [List.getElem?_set_self hl] at h6
        cases h6
        rw [List.getElem?_set_ne (Ne.symm hj)] at h1 h5
        exact absurd h5 (hfree j t h1 h3)
      · rw [List.getElem?_set_ne (Ne.symm hj)] at h1 h5
        rw [List.getElem?_set_ne (Ne.symm hk)] at h2 h6
        exact R.sep j k t u b h1 h2 h3 h4 h5 h6
  · obtain ⟨zs, z1, z2⟩ := R.ioa p hp
    have hne : p.1 ≠ i := fun z => by
      rw [z, he] at z1
      cases z1
      exact hs _ rfl
    rw [List.getElem?_set_ne (Ne.symm hne), List.getElem?_set_ne (Ne.symm hne)]
    exact ⟨zs, z1, z2⟩
  · by_cases hj : j = i
    · subst hj
      rw [List.getElem?_set_self hi] at h
      cases h
    · rw [List.getElem?_set_ne (Ne.symm hj)] at h ⊢
      exact R.scr j ns h
/-- a slot is forgotten -/
theorem Rel.wipe1 {i : Nat} {s : Sl} {x : Option V} (R : Rel K C e σ F H) (he : e[i]? = some s) (hs : ∀ zs, s ≠ .io zs) : Rel K C (e.set i .em) (σ.set i x) F H := by
  have hi : i < e.length := (List.getElem?_eq_some_iff.mp he).1
  have key : ∀ (m : Nat) (v : Sl), (e.set i .em)[m]? = some v → v ≠ .em → e[m]? = some v ∧ m ≠ i := fun m v hm hv => by
    by_cases hmi : m = i
    · subst hmi
      rw [List.getElem?_set_self hi] at hm
      cases hm
      exact absurd rfl hv
    · rw [List.getElem?_set_ne (Ne.symm hmi)] at hm
      exact ⟨hm, hmi⟩
  refine ⟨R.sub, R.ext, R.new, R.frame, fun j d' h => ?_, fun j zs t h1 h2 => ?_, fun j k t u b h1 h2 h3 h4 h5 h6 => ?_, fun p hp => ?_, fun j ns h => ?_, by rw [List.length_set, List.length_set]; exact R.len⟩
  · obtain ⟨z1, z2⟩ := key j _ h (by simp)
    rw [List.getElem?_set_ne (Ne.symm z2)]
    exact R.fz j d' z1
  · obtain ⟨z1, z2⟩ := key j t h1 (fun z => by subst z; simp at h2)
    rw [List.getElem?_set_ne (Ne.symm z2)]
    exact R.own j zs t z1 h2
  · obtain ⟨z1, z2⟩ := key j t h1 (fun z => by subst z; simp at h3)
    obtain ⟨y1, y2⟩ := key k u h2 (fun z => by subst z; simp at h4)
    rw [List.getElem?_set_ne (Ne.symm z2)] at h5
    rw [List.getElem?_set_ne (Ne.symm y2)] at h6
    exact R.sep j k t u b z1 y1 h3 h4 h5 h6
  · obtain ⟨zs, z1, z2⟩ := R.ioa p hp
    have hne : p.1 ≠ i := fun z => by
      rw [z, he] at z1
      cases z1
      exact hs _ rfl
    rw [List.getElem?_set_ne (Ne.symm hne), List.getElem?_set_ne (Ne.symm hne)]
    exact ⟨zs, z1, z2⟩
  · by_cases hj : j = i
    · subst hj
      rw [List.getElem?_set_self hi] at h
      cases h
    · rw [List.getElem?_set_ne (Ne.symm hj)] at h ⊢
      exact R.scr j ns h
end

/-! ### a run within a run: what stands now is the frame -/
/-- the address of a slot's own list -/
def ownAt : Option Sl → Option (Option V) → Option Addr
  | some (Sl.ow _), some (some (V.ref a)) => some a
  | some (Sl.io _), some (some (V.ref a)) => some a
  | _, _ => none
/-- the addresses that may be changed from here on -/
def ownAddrs (e : En) (σ : St) : List Addr := (List.range e.length).filterMap fun i => ownAt e[i]? σ[i]?
theorem mem_ownAddrs {e : En} {σ : St} {i : Nat} {s : Sl} {a : Addr} (he : e[i]? = some s) (hs : s.cells ≠ none) (hσ : σ[i]? = some (some (V.ref a))) : a ∈ ownAddrs e σ := by
  have hi : i < e.length := (List.getElem?_eq_some_iff.mp he).1
  refine List.mem_filterMap.mpr ⟨i, List.mem_range.mpr hi, ?_⟩
  rw [he, hσ]
  cases s with
  | em => simp at hs
  | fz d => simp at hs
  | ow xs => rfl
  | io xs => rfl
  | sc ns => simp at hs
theorem of_ownAddrs {e : En} {σ : St} {a : Addr} (h : a ∈ ownAddrs e σ) : ∃ (i : Nat) (s : Sl), e[i]? = some s ∧ s.cells ≠ none ∧ σ[i]? = some (some (V.ref a)) := by
  obtain ⟨i, _, h⟩ := List.mem_filterMap.mp h
  cases h1 : e[i]? with
  | none =>
    rw [h1] at h
    cases h
  | some s =>
    cases h2 : σ[i]? with
    | none =>
      rw [h1, h2] at h
      cases s <;> cases h
    | some x =>
      rw [h1, h2] at h
      refine ⟨i, s, h1, ?_⟩
      cases s with
      | em => cases h
      | fz d => cases h
      | sc ns => cases h
      | ow xs =>
        cases x with
        | none => cases h
        | some v =>
          cases v with
          | ref b =>
            cases h
            exact ⟨by simp, h2⟩
          | _ => cases h
      | io xs =>
        cases x with
        | none => cases h
        | some v =>
          cases v with
          | ref b =>
            cases h
            exact ⟨by simp, h2⟩
          | _ => cases h
section
variable {K : KF} {C : CTX} {e : En} {σ : St} {F H F' H' : Hp}
abbrev CTX.sub (C : CTX) (e : En) (σ : St) (F H : Hp) : CTX := ⟨F, H, ownAddrs e σ, C.io⟩
theorem Rel.enter (R : Rel K C e σ F H) : Rel K (C.sub e σ F H) e σ F H :=
  ⟨R.sub, .refl _, fun b h => .inl h, fun b o h _ => h, R.fz, fun i xs s h1 h2 => by
    obtain ⟨a, vs, q1, q2, q3, q4, q5⟩ := R.own i xs s h1 h2
    exact ⟨a, vs, q1, q2, q3, q4, .inr (mem_ownAddrs h1 (by rw [h2]; simp) q1)⟩, R.sep, R.ioa, R.scr, R.len⟩
theorem Rel.leave {e' : En} {σ' : St} (R : Rel K C e σ F H) (R' : Rel K (C.sub e σ F H) e' σ' F' H') : Rel K C e' σ' F' H' := by
  have mu : ∀ a, a ∈ ownAddrs e σ → C.H0 a = none ∨ a ∈ C.mu := fun a h => by
    obtain ⟨i, s, h1, h2, h3⟩ := of_ownAddrs h
    cases q : s.cells with
    | none => exact absurd q h2
    | some xs =>
      obtain ⟨b, vs, q1, q2, q3, q4, q5⟩ := R.own i xs s h1 q
      rw [h3] at q1
      cases q1
      exact q5
  have h0 : ∀ b, H b = none → C.H0 b = none ∨ b ∈ C.mu := fun b h => by
    by_cases hm : b ∈ C.mu
    · exact .inr hm
    · refine .inl ?_
      cases q : C.H0 b with
      | none => rfl
      | some o =>
        have z := R.frame b o q hm
        rw [h] at z
        cases z
  refine ⟨R'.sub, R.ext.trans R'.ext, fun b h => ?_, fun b o h hm => ?_, R'.fz, fun i xs s h1 h2 => ?_, R'.sep, R'.ioa, R'.scr, R'.len⟩
  · rcases R'.new b h with h | h | h
    · exact R.new b h
    · exact .inr (h0 b h)
    · exact .inr (mu b h)
  · refine R'.frame b o (R.frame b o h hm) fun z => ?_
    rcases mu b z with q | q
    · rw [q] at h
      cases h
    · exact hm q
  · obtain ⟨a, vs, q1, q2, q3, q4, q5⟩ := R'.own i xs s h1 h2
    refine ⟨a, vs, q1, q2, q3, q4, ?_⟩
    rcases q5 with q | q
    · exact h0 a q
    · exact mu a q
end
end DL
end
section
set_option maxRecDepth 100000
set_option maxHeartbeats 4000000
/-! DL, part 2: handles; expressions, tests, argument lists -/
namespace DL
open PySem PySem.Spec PyProof.Rows L2

/-! ### a wish made weaker -/
section
variable {X : Cx}
theorem pe_mono {e : Expr} {t t' : TE} (h : PE X e t) (m : ∀ σ H Q, t' σ H Q → t σ H Q) : PE X e t' := ⟨fun pins s σ H Q I q => h.run pins s σ H Q I (m σ H Q q)⟩
theorem pt_mono {e : Expr} {t t' : TT} (h : PT X e t) (m : ∀ σ H Q, t' σ H Q → t σ H Q) : PT X e t' := ⟨fun pins s σ H Q I q => h.run pins s σ H Q I (m σ H Q q)⟩
theorem pw_mono {e : Expr} {t t' : TT} (h : PW X e t) (m : ∀ σ H Q, t' σ H Q → t σ H Q) : PW X e t' := ⟨fun wh pins s σ H Q I q => h.run wh pins s σ H Q I (m σ H Q q)⟩
theorem pa_mono {es : List Expr} {t t' : TA} (h : PA X es t) (m : ∀ σ H Q, t' σ H Q → t σ H Q) : PA X es t' := ⟨fun pos pins s σ H Q I q => h.run pos pins s σ H Q I (m σ H Q q)⟩
theorem pk_mono {es : List Keyword} {t t' : TA} (h : PK X es t) (m : ∀ σ H Q, t' σ H Q → t σ H Q) : PK X es t' := ⟨fun pos pins s σ H Q I q => h.run pos pins s σ H Q I (m σ H Q q)⟩
theorem ps_mono {st : Stmt} {t t' : TS} (h : PS X st t) (m : ∀ De σ H, t' De σ H → t De σ H) : PS X st t' := ⟨fun pins s σ H De I q => h.run pins s σ H De I (m De σ H q)⟩
theorem pss_mono {st : List Stmt} {t t' : TS} (h : PSs X st t) (m : ∀ De σ H, t' De σ H → t De σ H) : PSs X st t' := ⟨fun pins s σ H De I q => h.run pins s σ H De I (m De σ H q)⟩
theorem po_mono {e : Option Expr} {t t' : TO} (h : PO X e t) (m : ∀ σ H Q, t' σ H Q → t σ H Q) : PO X e t' := ⟨fun pins s σ H Q I q => h.run pins s σ H Q I (m σ H Q q)⟩
end

/-! ### results -/
@[inline] def bnd {α β : Type} (m : Option (α × En)) (k : α → En → Option β) : Option β := match m with
  | some (a, e) => k a e
  | none => none
@[simp] theorem bnd_some {α β : Type} (a : α) (e : En) (k : α → En → Option β) : bnd (some (a, e)) k = k a e := rfl
@[simp] theorem bnd_none {α β : Type} (k : α → En → Option β) : bnd (none : Option (α × En)) k = none := rfl
theorem bnd_eq {α β : Type} {m : Option (α × En)} {k : α → En → Option β} {r : β} (h : bnd m k = some r) : ∃ a e, m = some (a, e) ∧ k a e = some r := by
  cases m with
  | none => cases h
  | some p => exact ⟨p.1, p.2, rfl, h⟩
@[inline] def obn {α β : Type} (m : Option α) (k : α → Option β) : Option β := match m with
  | some a => k a
  | none => none
@[simp] theorem obn_some {α β : Type} (a : α) (k : α → Option β) : obn (some a) k = k a := rfl
@[simp] theorem obn_none {α β : Type} (k : α → Option β) : obn (none : Option α) k = none := rfl
theorem obn_eq {α β : Type} {m : Option α} {k : α → Option β} {r : β} (h : obn m k = some r) : ∃ a, m = some a ∧ k a = some r := by
  cases m with
  | none => cases h
  | some a => exact ⟨a, rfl, h⟩

/-! ### handles -/
/-- what an expression hands on: data, or the place of a slot -/
inductive Hd where
  | val (d : D) | sl (i : Nat)
@[simp] def Sl.get : Sl → Option D
  | .fz d => some d
  | .ow xs => some (.list xs)
  | .io xs => some (.list xs)
  | _ => none
@[simp] def Hd.get (e : En) : Hd → Option D
  | .val d => some d
  | .sl i => obn e[i]? Sl.get
@[simp] def gets (e : En) : List Hd → Option (List D)
  | [] => some []
  | h :: hs => obn (h.get e) fun d => obn (gets e hs) fun ds => some (d :: ds)
/-- the data itself; a list of one's own is frozen -/
@[simp] def esc (h : Hd) (e : En) : Option (D × En) := match h with
  | .val d => some (d, e)
  | .sl i => match e[i]? with
    | some (.fz d) => some (d, e)
    | some (.ow xs) => some (.list xs, e.set i (.fz (.list xs)))
    | _ => none
@[simp] def escs : List Hd → En → Option (List D × En)
  | [], e => some ([], e)
  | h :: hs, e => bnd (esc h e) fun d e1 => bnd (escs hs e1) fun ds e2 => some (d :: ds, e2)
/-- data that may be read now: frozen data, or a list of one's own -/
def RpT (K : KF) (F H : Hp) (v : V) (d : D) : Prop := Rp K F v d ∨ ∃ a vs xs, v = .ref a ∧ d = .list xs ∧ H a = some (.lst vs) ∧ RpA K F vs xs
inductive RpTs (K : KF) (F H : Hp) : List V → List D → Prop
  | nil : RpTs K F H [] []
  | cons {v : V} {vs : List V} {d : D} {ds : List D} : RpT K F H v d → RpTs K F H vs ds → RpTs K F H (v :: vs) (d :: ds)
def RpH (K : KF) (F : Hp) (σ : St) (v : V) : Hd → Prop
  | .val d => Rp K F v d
  | .sl i => σ[i]? = some (some v)
inductive RpHs (K : KF) (F : Hp) (σ : St) : List V → List Hd → Prop
  | nil : RpHs K F σ [] []
  | cons {v : V} {vs : List V} {d : Hd} {ds : List Hd} : RpH K F σ v d → RpHs K F σ vs ds → RpHs K F σ (v :: vs) (d :: ds)
section
variable {K : KF} {C : CTX} {e e' : En} {σ : St} {F H F' H' : Hp} {v : V} {d : D} {h : Hd}
theorem RpH.mono (s : Same F F') (r : RpH K F σ v h) : RpH K F' σ v h := by
  cases h with
  | val d => exact Rp.mono s r
  | sl i => exact r
theorem RpHs.mono (s : Same F F') : ∀ {vs : List V} {hs : List Hd}, RpHs K F σ vs hs → RpHs K F' σ vs hs
  | _, _, .nil => .nil
  | _, _, .cons r t => .cons (r.mono s) (RpHs.mono s t)
theorem RpH.get (R : Rel K C e σ F H) (r : RpH K F σ v h) (g : h.get e = some d) : RpT K F H v d := by
  cases h with
  | val d' =>
    cases g
    exact .inl r
  | sl i =>
    obtain ⟨s, h1, h2⟩ := obn_eq g
    have r' : σ[i]? = some (some v) := r
    cases s with
    | em => cases h2
    | sc ns => cases h2
    | fz d' =>
      cases h2
      obtain ⟨v', q1, q2⟩ := R.fz i _ h1
      rw [r'] at q1
      cases q1
      exact .inl q2
    | ow xs =>
      cases h2
      obtain ⟨a, vs, q1, q2, q3, q4, q5⟩ := R.own i xs _ h1 rfl
      rw [r'] at q1
      cases q1
      exact .inr ⟨a, vs, xs, rfl, rfl, q3, q4⟩
    | io xs =>
      cases h2
      obtain ⟨a, vs, q1, q2, q3, q4, q5⟩ := R.own i xs _ h1 rfl
      rw [r'] at q1
      cases q1
      exact .inr ⟨a, vs, xs, rfl, rfl, q3, q4⟩
theorem RpHs.gets (R : Rel K C e σ F H) : ∀ {vs : List V} {hs : List Hd} {ds : List D}, RpHs K F σ vs hs → gets e hs = some ds → RpTs K F H vs ds
  | _, _, _, .nil, g => by
    cases g
    exact .nil
  | _, _, _, .cons r t, g => by
    obtain ⟨d, h1, h2⟩ := obn_eq g
    obtain ⟨ds, h3, h4⟩ := obn_eq h2
    cases h4
    exact .cons (r.get R h1) (RpHs.gets R t h3)
theorem RpH.esc (R : Rel K C e σ F H) (r : RpH K F σ v h) (g : esc h e = some (d, e')) : ∃ F', Rel K C e' σ F' H ∧ Same F F' ∧ Rp K F' v d := by
  cases h with
  | val d' =>
    cases g
    exact ⟨F, R, .refl _, r⟩
  | sl i =>
    have r' : σ[i]? = some (some v) := r
    unfold DL.esc at g
    simp only at g
    split at g
    · rename_i d' h1
      cases g
      obtain ⟨v', q1, q2⟩ := R.fz i _ h1
      rw [r'] at q1
      cases q1
      exact ⟨F, R, .refl _, q2⟩
    · rename_i xs h1
      cases g
      obtain ⟨a, vs, q1, q2, q3, q4, q5⟩ := R.own i xs _ h1 rfl
      rw [r'] at q1
      cases q1
      obtain ⟨z1, z2, z3⟩ := R.freeze h1 r' q3
      exact ⟨_, z1, z2, z3⟩
    · cases g
theorem RpHs.escs : ∀ {vs : List V} {hs : List Hd} {ds : List D} {e e' : En} {F : Hp}, Rel K C e σ F H → RpHs K F σ vs hs → escs hs e = some (ds, e') → ∃ F', Rel K C e' σ F' H ∧ Same F F' ∧ RpA K F' vs ds
  | _, _, _, _, _, F, R, .nil, g => by
    cases g
    exact ⟨F, R, .refl _, .nil⟩
  | _, _, _, _, _, F, R, .cons r t, g => by
    obtain ⟨d, e1, h1, h2⟩ := bnd_eq g
    obtain ⟨ds, e2, h3, h4⟩ := bnd_eq h2
    cases h4
    obtain ⟨F1, R1, s1, r1⟩ := r.esc R h1
    obtain ⟨F2, R2, s2, r2⟩ := RpHs.escs R1 (t.mono s1) h3
    exact ⟨F2, R2, s1.trans s2, .cons (r1.mono s2) r2⟩
theorem Rel.same (R : Rel K C e σ F H) : Same F H := R.sub
/-- a list that came of late, owned by nobody, is frozen -/
theorem Rel.adopt {a : Addr} {o : HO} (R : Rel K C e σ F H) (hF : F a = none) (hH : H a = some o) (h0 : C.H0 a = none ∨ a ∈ C.mu)
    (hfree : ∀ (j : Nat) t, e[j]? = some t → t.cells ≠ none → σ[j]? ≠ some (some (V.ref a))) : Rel K C e σ (upd F a o) H ∧ Same F (upd F a o) := by
  have sF : Same F (upd F a o) := same_upd hF
  refine ⟨⟨fun b u h => ?_, R.ext.trans sF, fun b h => ?_, R.frame, fun j d h => ?_, fun j zs t h1 h2 => ?_, R.sep, R.ioa, fun j ns h => let ⟨b, y1, y2⟩ := R.scr j ns h; ⟨b, y1, sF.seq y2⟩, R.len⟩, sF⟩
  · by_cases hb : b = a
    · subst hb
      rw [upd_same] at h
      rw [hH]
      exact h
    · rw [upd_ne hb] at h
      exact R.sub b u h
  · by_cases hb : b = a
    · subst hb
      exact .inr h0
    · rw [upd_ne hb] at h
      exact R.new b h
  · obtain ⟨v, z1, z2⟩ := R.fz j d h
    exact ⟨v, z1, z2.mono sF⟩
  · obtain ⟨b, us, w1, w2, w3, w4, w5⟩ := R.own j zs t h1 h2
    refine ⟨b, us, w1, ?_, w3, w4.mono sF, w5⟩
    have hb : b ≠ a := fun z => by
      subst z
      exact hfree j t h1 (by rw [h2]; simp) w1
    rw [upd_ne hb]
    exact w2
theorem Rel.freeAt {a : Addr} (R : Rel K C e σ F H) (hn : H a = none) : ∀ (j : Nat) t, e[j]? = some t → t.cells ≠ none → σ[j]? ≠ some (some (V.ref a)) := fun j t h1 h2 h3 => by
  cases q : t.cells with
  | none => exact h2 q
  | some xs =>
    obtain ⟨b, vs, q1, q2, q3, q4, q5⟩ := R.own j xs t h1 q
    rw [h3] at q1
    cases q1
    rw [hn] at q3
    cases q3
theorem Rel.h0 {a : Addr} (R : Rel K C e σ F H) (hn : H a = none) : C.H0 a = none ∨ a ∈ C.mu := by
  by_cases hm : a ∈ C.mu
  · exact .inr hm
  · refine .inl ?_
    cases q : C.H0 a with
    | none => rfl
    | some o =>
      have z := R.frame a o q hm
      rw [hn] at z
      cases z
end

/-! ### expressions -/
abbrev Ex := En → Option (Hd × En)
def tH (K : KF) (f : Ex) : TE := fun σ H Q => ∃ C e F, Rel K C e σ F H ∧ ∃ h e', f e = some (h, e') ∧ ∀ v F' H', Rel K C e' σ F' H' → Same F F' → RpH K F' σ v h → Q v H'
abbrev HE (X : Cx) (e : Expr) (f : Ex) : Prop := PE X e (tH X.K f)
abbrev Ts := En → Option (Bool × En)
def tTe (K : KF) (f : Ts) : TT := fun σ H Q => ∃ C e F, Rel K C e σ F H ∧ ∃ b e', f e = some (b, e') ∧ ∀ F' H', Rel K C e' σ F' H' → Same F F' → Q b H'
abbrev HT (X : Cx) (e : Expr) (f : Ts) : Prop := PT X e (tTe X.K f)
abbrev HW (X : Cx) (e : Expr) (f : Ts) : Prop := PW X e (tTe X.K f)
abbrev Exs := En → Option (List Hd × En)
def tHs (K : KF) (f : Exs) : TA := fun σ H Q => ∃ C e F, Rel K C e σ F H ∧ ∃ hs e', f e = some (hs, e') ∧ ∀ vs F' H', Rel K C e' σ F' H' → Same F F' → RpHs K F' σ vs hs → Q vs H'
abbrev HA (X : Cx) (es : List Expr) (f : Exs) : Prop := PA X es (tHs X.K f)
/-- a new list that nobody holds yet -/
abbrev Fx := En → Option (List D × En)
def tF (K : KF) (f : Fx) : TE := fun σ H Q => ∃ C e F, Rel K C e σ F H ∧ ∃ xs e', f e = some (xs, e') ∧ ∀ a vs F' H', Rel K C e' σ F' H' → Same F F' → F' a = none → H' a = some (.lst vs) → RpA K F' vs xs →
  (C.H0 a = none ∨ a ∈ C.mu) → (∀ (j : Nat) t, e'[j]? = some t → t.cells ≠ none → σ[j]? ≠ some (some (V.ref a))) → Q (.ref a) H'
abbrev FE (X : Cx) (e : Expr) (f : Fx) : Prop := PE X e (tF X.K f)

section
variable {X : Cx} {a b c : Expr} {es : List Expr} {fa fb fc : Ex} {pos : Pos}
def xVar (i : Nat) : Ex := fun e => obn e[i]? fun s => match s with
  | .em => none
  | _ => some (.sl i, e)
theorem he_var {i : Nat} {x : Str} (h : PE X (.Name x pos) (tVar i)) : HE X (.Name x pos) (xVar i) := by
  refine pe_mono h fun σ H Q ⟨C, e, F, R, hd, e', h1, h2⟩ => ?_
  obtain ⟨s, q1, q2⟩ := obn_eq h1
  have key : ∃ v, σ[i]? = some (some v) := by
    cases s with
    | em => cases q2
    | sc ns =>
      obtain ⟨a, z, _⟩ := R.scr i ns q1
      exact ⟨_, z⟩
    | fz d =>
      obtain ⟨v, z, _⟩ := R.fz i d q1
      exact ⟨v, z⟩
    | ow xs =>
      obtain ⟨a, vs, z, _⟩ := R.own i xs _ q1 rfl
      exact ⟨_, z⟩
    | io xs =>
      obtain ⟨a, vs, z, _⟩ := R.own i xs _ q1 rfl
      exact ⟨_, z⟩
  have he : hd = .sl i ∧ e' = e := by
    cases s <;> first | cases q2; exact ⟨rfl, rfl⟩ | cases q2
  obtain ⟨rfl, rfl⟩ := he
  obtain ⟨v, hv⟩ := key
  exact ⟨v, hv, h2 v F H R (.refl _) hv⟩
def xC (d : D) : Ex := fun e => some (.val d, e)
theorem he_c {x : Expr} {v : V} {d : D} (h : PE X x (tC v)) (r : ∀ F, Rp X.K F v d) : HE X x (xC d) :=
  pe_mono h fun σ H Q ⟨C, e, F, R, hd, e', h1, h2⟩ => by
    cases h1
    exact h2 v F H R (.refl _) (r F)
theorem he_int {i : Int} {j} : HE X (.Constant (.int i) j pos) (xC (.int i)) := he_c pe_int fun _ => .int i
theorem he_str {x : Str} {j} : HE X (.Constant (.str x) j pos) (xC (.str x)) := he_c pe_str fun _ => .str x
theorem he_bl {x : Bool} {j} : HE X (.Constant (.bool x) j pos) (xC (.bool x)) := he_c pe_bl fun _ => .bl x
theorem he_non {j} : HE X (.Constant .none j pos) (xC .none) := he_c pe_non fun _ => .non

/-- an operation by values: r's reading does what o says -/
def Reads2 (K : KF) (r : R2) (o : D → D → Option D) : Prop := ∀ F H x y d1 d2 d Q, Same F H → RpT K F H x d1 → RpT K F H y d2 → o d1 d2 = some d → (∀ v F' H', Grow F H F' H' → Rp K F' v d → Q v H') → r x y H Q
def Reads1 (K : KF) (r : V → Hp → VK → Prop) (o : D → Option D) : Prop := ∀ F H x d1 d Q, Same F H → RpT K F H x d1 → o d1 = some d → (∀ v F' H', Grow F H F' H' → Rp K F' v d → Q v H') → r x H Q
def ReadsN (K : KF) (r : List V → Hp → VK → Prop) (o : List D → Option D) : Prop := ∀ F H xs ds d Q, Same F H → RpTs K F H xs ds → o ds = some d → (∀ v F' H', Grow F H F' H' → Rp K F' v d → Q v H') → r xs H Q
def xB (o : D → D → Option D) (fa fb : Ex) : Ex := fun e => bnd (fa e) fun h1 e1 => bnd (fb e1) fun h2 e2 => obn (h1.get e2) fun d1 => obn (h2.get e2) fun d2 => obn (o d1 d2) fun d => some (.val d, e2)
def xU (o : D → Option D) (fa : Ex) : Ex := fun e => bnd (fa e) fun h1 e1 => obn (h1.get e1) fun d1 => obn (o d1) fun d => some (.val d, e1)
def xN (o : List D → Option D) (fs : Exs) : Ex := fun e => bnd (fs e) fun hs e1 => obn (gets e1 hs) fun ds => obn (o ds) fun d => some (.val d, e1)
theorem tOp_of {K : KF} {r : R2} {o : D → D → Option D} (hs : Reads2 K r o) {σ : St} {H : Hp} {Q : VK} (h : tH K (xB o fa fb) σ H Q) : tOp r (tH K fa) (tH K fb) σ H Q := by
  obtain ⟨C, e, F, R, hd, e', h1, h2⟩ := h
  obtain ⟨g1, e1, q1, h1⟩ := bnd_eq h1
  obtain ⟨g2, e2, q2, h1⟩ := bnd_eq h1
  obtain ⟨d1, q3, h1⟩ := obn_eq h1
  obtain ⟨d2, q4, h1⟩ := obn_eq h1
  obtain ⟨d, q5, h1⟩ := obn_eq h1
  cases h1
  refine ⟨C, e, F, R, g1, e1, q1, fun v1 F1 H1 R1 s1 r1 => ?_⟩
  refine ⟨C, e1, F1, R1, g2, _, q2, fun v2 F2 H2 R2 s2 r2 => ?_⟩
  refine hs F2 H2 v1 v2 d1 d2 d Q R2.sub ((r1.mono s2).get R2 q3) (r2.get R2 q4) q5 fun v F3 H3 g r3 => ?_
  exact h2 v F3 H3 (R2.grow g) (s1.trans (s2.trans g.ff)) r3
theorem tUn_of {K : KF} {r : V → Hp → VK → Prop} {o : D → Option D} (hs : Reads1 K r o) {σ : St} {H : Hp} {Q : VK} (h : tH K (xU o fa) σ H Q) : tUn r (tH K fa) σ H Q := by
  obtain ⟨C, e, F, R, hd, e', h1, h2⟩ := h
  obtain ⟨g1, e1, q1, h1⟩ := bnd_eq h1
  obtain ⟨d1, q3, h1⟩ := obn_eq h1
  obtain ⟨d, q5, h1⟩ := obn_eq h1
  cases h1
  refine ⟨C, e, F, R, g1, _, q1, fun v1 F1 H1 R1 s1 r1 => ?_⟩
  refine hs F1 H1 v1 d1 d Q R1.sub (r1.get R1 q3) q5 fun v F3 H3 g r3 => ?_
  exact h2 v F3 H3 (R1.grow g) (s1.trans g.ff) r3
theorem tN_of {K : KF} {r : List V → Hp → VK → Prop} {o : List D → Option D} {fs : Exs} (hs : ReadsN K r o) {σ : St} {H : Hp} {Q : VK} (h : tH K (xN o fs) σ H Q) : tHs K fs σ H fun vs H1 => r vs H1 Q := by
  obtain ⟨C, e, F, R, hd, e', h1, h2⟩ := h
  obtain ⟨g1, e1, q1, h1⟩ := bnd_eq h1
  obtain ⟨d1, q3, h1⟩ := obn_eq h1
  obtain ⟨d, q5, h1⟩ := obn_eq h1
  cases h1
  refine ⟨C, e, F, R, g1, _, q1, fun v1 F1 H1 R1 s1 r1 => ?_⟩
  refine hs F1 H1 v1 d1 d Q R1.sub (r1.gets R1 q3) q5 fun v F3 H3 g r3 => ?_
  exact h2 v F3 H3 (R1.grow g) (s1.trans g.ff) r3
theorem he_op {op : Operator} {r : R2} {o : D → D → Option D} (ho : OpR X (binaryOp op) r) (hs : Reads2 X.K r o) (ha : HE X a fa) (hb : HE X b fb) : HE X (.BinOp a op b pos) (xB o fa fb) :=
  pe_mono (pe_op ho ha hb) fun σ H Q h => tOp_of hs h
theorem he_un {op : UnaryOp} {r : V → Hp → VK → Prop} {o : D → Option D} (ho : UnR X (unaryOp op) r) (hs : Reads1 X.K r o) (ha : HE X a fa) : HE X (.UnaryOp op a pos) (xU o fa) :=
  pe_mono (pe_un ho ha) fun σ H Q h => tUn_of hs h
theorem he_cmp {op : CmpOp} {r : R2} {o : D → D → Option D} (ho : OpR X (compareOp op) r) (hs : Reads2 X.K r o) (ha : HE X a fa) (hb : HE X b fb) (hm : behindInMarks op b = false) : HE X (.Compare a [op] [b] pos) (xB o fa fb) :=
  pe_mono (pe_cmpR ho ha hb hm) fun σ H Q h => tOp_of hs h
/-- a value that is True or False, as a test -/
def asB : D → Option Bool
  | .bool b => some b
  | _ => none
theorem RpT.bl {K : KF} {F H : Hp} {v : V} {d : D} {b : Bool} (r : RpT K F H v d) (h : asB d = some b) : v = .bl b := by
  cases d with
  | bool b' =>
    cases h
    rcases r with r | ⟨_, _, _, _, e, _⟩
    · cases r
      rfl
    · cases e
  | _ => cases h
def sT (f : Ex) : Ts := fun e => bnd (f e) fun h e1 => obn (h.get e1) fun d => obn (asB d) fun b => some (b, e1)
theorem tT_of {K : KF} {σ : St} {H : Hp} {Q : Bool → Hp → Prop} (h : tTe K (sT fa) σ H Q) : tH K fa σ H fun x H' => ∃ k, x = .bl k ∧ Q k H' := by
  obtain ⟨C, e, F, R, b, e', h1, h2⟩ := h
  obtain ⟨g1, e1, q1, h1⟩ := bnd_eq h1
  obtain ⟨d1, q3, h1⟩ := obn_eq h1
  obtain ⟨d, q5, h1⟩ := obn_eq h1
  cases h1
  exact ⟨C, e, F, R, g1, _, q1, fun v F1 H1 R1 s1 r1 => ⟨_, (r1.get R1 q3).bl q5, h2 F1 H1 R1 s1⟩⟩
theorem ht_cmp {op : CmpOp} {r : R2} {o : D → D → Option D} (ho : OpR X (compareOp op) r) (hs : Reads2 X.K r o) (ha : HE X a fa) (hb : HE X b fb) (hm : behindInMarks op b = false) : HT X (.Compare a [op] [b] pos) (sT (xB o fa fb)) :=
  pt_mono (pt_cmpR ho ha hb hm) fun σ H Q h => tOp_of hs (tT_of h)
theorem ht_val (ha : HE X a fa) (he : ∀ whole, isTrue a X.env whole = (do let v ← whole; standAt a.pos; holding [v] (truthy v)) := by intro _; rfl) : HT X a (sT fa) :=
  pt_mono (pt_val ha he) fun σ H Q h => tT_of h
/-! chains -/
def xCh (o o' : D → D → Option D) (fa fb fc : Ex) : Ex := fun e => bnd (fa e) fun h1 e1 => bnd (fb e1) fun h2 e2 => obn (h1.get e2) fun d1 => obn (h2.get e2) fun d2 => obn (o d1 d2) fun d => obn (asB d) fun k =>
  if k = true then bnd (fc e2) fun h3 e3 => obn (h2.get e3) fun d2' => obn (h3.get e3) fun d3 => obn (o' d2' d3) fun d' => some (.val d', e3) else some (.val (.bool false), e2)
theorem tCh_of {K : KF} {r r' : R2} {o o' : D → D → Option D} (hs : Reads2 K r o) (hs' : Reads2 K r' o') {σ : St} {H : Hp} {Q : VK} (h : tH K (xCh o o' fa fb fc) σ H Q) : tChain r r' (tH K fa) (tH K fb) (tH K fc) σ H Q := by
  obtain ⟨C, e, F, R, hd, e', h1, h2⟩ := h
  obtain ⟨g1, e1, q1, h1⟩ := bnd_eq h1
  obtain ⟨g2, e2, q2, h1⟩ := bnd_eq h1
  obtain ⟨d1, q3, h1⟩ := obn_eq h1
  obtain ⟨d2, q4, h1⟩ := obn_eq h1
  obtain ⟨d, q5, h1⟩ := obn_eq h1
  obtain ⟨k, q6, h1⟩ := obn_eq h1
  refine ⟨C, e, F, R, g1, e1, q1, fun v1 F1 H1 R1 s1 r1 => ?_⟩
  refine ⟨C, e1, F1, R1, g2, e2, q2, fun v2 F2 H2 R2 s2 r2 => ?_⟩
  refine hs F2 H2 v1 v2 d1 d2 d _ R2.sub ((r1.mono s2).get R2 q3) (r2.get R2 q4) q5 fun v F3 H3 g r3 => ?_
  refine ⟨k, RpT.bl (F := F3) (H := H3) (.inl r3) q6, ?_⟩
  cases k with
  | false =>
    rw [if_neg Bool.false_ne_true] at h1 ⊢
    cases h1
    exact h2 _ F3 H3 (R2.grow g) (s1.trans (s2.trans g.ff)) (.bl false)
  | true =>
    rw [if_pos rfl] at h1 ⊢
    obtain ⟨g3, e3, w1, h1⟩ := bnd_eq h1
    obtain ⟨d2', w2, h1⟩ := obn_eq h1
    obtain ⟨d3, w3, h1⟩ := obn_eq h1
    obtain ⟨d', w4, h1⟩ := obn_eq h1
    cases h1
    refine ⟨C, e2, F3, R2.grow g, g3, _, w1, fun v3 F4 H4 R4 s4 r4 => ?_⟩
    refine hs' F4 H4 v2 v3 d2' d3 d' Q R4.sub (((r2.mono g.ff).mono s4).get R4 w2) (r4.get R4 w3) w4 fun v' F5 H5 g' r5 => ?_
    exact h2 v' F5 H5 (R4.grow g') (s1.trans (s2.trans (g.ff.trans (s4.trans g'.ff)))) r5
/-! and, or, not, if else -/
def sAnd (f g : Ts) : Ts := fun e => bnd (f e) fun b e1 => if b = true then g e1 else some (false, e1)
def sOr (f g : Ts) : Ts := fun e => bnd (f e) fun b e1 => if b = true then some (true, e1) else g e1
def sNot (f : Ts) : Ts := fun e => bnd (f e) fun b e1 => some (!b, e1)
variable {ga gb : Ts} {rest : List Expr}
theorem hw_and1 (ha : HT X a ga) : HW X (.BoolOp .And [a] pos) ga := pw_and1 ha
theorem hw_or1 (ha : HT X a ga) : HW X (.BoolOp .Or [a] pos) ga := pw_or1 ha
theorem hw_and (ha : HT X a ga) (hb : HW X (.BoolOp .And (b :: rest) pos) gb) : HW X (.BoolOp .And (a :: b :: rest) pos) (sAnd ga gb) := by
  refine pw_mono (pw_and ha hb) fun σ H Q ⟨C, e, F, R, k, e', h1, h2⟩ => ?_
  obtain ⟨k1, e1, q1, h1⟩ := bnd_eq h1
  refine ⟨C, e, F, R, k1, e1, q1, fun F1 H1 R1 s1 => ?_⟩
  cases k1 with
  | true =>
    rw [if_pos rfl] at h1 ⊢
    exact ⟨C, e1, F1, R1, k, e', h1, fun F2 H2 R2 s2 => h2 F2 H2 R2 (s1.trans s2)⟩
  | false =>
    rw [if_neg Bool.false_ne_true] at h1 ⊢
    cases h1
    exact h2 F1 H1 R1 s1
theorem hw_or (ha : HT X a ga) (hb : HW X (.BoolOp .Or (b :: rest) pos) gb) : HW X (.BoolOp .Or (a :: b :: rest) pos) (sOr ga gb) := by
  refine pw_mono (pw_or ha hb) fun σ H Q ⟨C, e, F, R, k, e', h1, h2⟩ => ?_
  obtain ⟨k1, e1, q1, h1⟩ := bnd_eq h1
  refine ⟨C, e, F, R, k1, e1, q1, fun F1 H1 R1 s1 => ?_⟩
  cases k1 with
  | false =>
    rw [if_neg Bool.false_ne_true] at h1 ⊢
    exact ⟨C, e1, F1, R1, k, e', h1, fun F2 H2 R2 s2 => h2 F2 H2 R2 (s1.trans s2)⟩
  | true =>
    rw [if_pos rfl] at h1 ⊢
    cases h1
    exact h2 F1 H1 R1 s1
theorem ht_w (h : HW X a ga) : HT X a ga := PW.pt h
theorem ht_not (ha : HT X a ga) : HT X (.UnaryOp .Not a pos) (sNot ga) := by
  refine pt_mono (pt_not ha) fun σ H Q ⟨C, e, F, R, k, e', h1, h2⟩ => ?_
  obtain ⟨k1, e1, q1, h1⟩ := bnd_eq h1
  cases h1
  exact ⟨C, e, F, R, k1, _, q1, fun F1 H1 R1 s1 => h2 F1 H1 R1 s1⟩
def xIf (g : Ts) (fa fb : Ex) : Ex := fun e => bnd (g e) fun k e1 => if k = true then fa e1 else fb e1
theorem he_if (hc : HT X c ga) (ha : HE X a fa) (hb : HE X b fb) : HE X (.IfExp c a b pos) (xIf ga fa fb) := by
  refine pe_mono (pe_ifExp hc ha hb) fun σ H Q ⟨C, e, F, R, k, e', h1, h2⟩ => ?_
  obtain ⟨k1, e1, q1, h1⟩ := bnd_eq h1
  refine ⟨C, e, F, R, k1, e1, q1, fun F1 H1 R1 s1 => ?_⟩
  cases k1 with
  | true =>
    rw [if_pos rfl] at h1 ⊢
    exact ⟨C, e1, F1, R1, k, e', h1, fun v F2 H2 R2 s2 r2 => h2 v F2 H2 R2 (s1.trans s2) r2⟩
  | false =>
    rw [if_neg Bool.false_ne_true] at h1 ⊢
    exact ⟨C, e1, F1, R1, k, e', h1, fun v F2 H2 R2 s2 r2 => h2 v F2 H2 R2 (s1.trans s2) r2⟩
def xAnd (fa fb : Ex) : Ex := fun e => bnd (fa e) fun h1 e1 => obn (h1.get e1) fun d => obn (asB d) fun k => if k = true then fb e1 else some (.val (.bool false), e1)
def xOr (fa fb : Ex) : Ex := fun e => bnd (fa e) fun h1 e1 => obn (h1.get e1) fun d => obn (asB d) fun k => if k = true then some (.val (.bool true), e1) else fb e1
def xNot (fa : Ex) : Ex := fun e => bnd (fa e) fun h1 e1 => obn (h1.get e1) fun d => obn (asB d) fun k => some (.val (.bool (!k)), e1)
theorem he_one {op : BoolOp} (ha : HE X a fa) : HE X (.BoolOp op [a] pos) fa := pe_one ha
theorem he_and (ha : HE X a fa) (hb : HE X (.BoolOp .And (b :: rest) pos) fb) : HE X (.BoolOp .And (a :: b :: rest) pos) (xAnd fa fb) := by
  refine pe_mono (pe_and ha hb) fun σ H Q ⟨C, e, F, R, hd, e', h1, h2⟩ => ?_
  obtain ⟨g1, e1, q1, h1⟩ := bnd_eq h1
  obtain ⟨d1, q3, h1⟩ := obn_eq h1
  obtain ⟨k, q5, h1⟩ := obn_eq h1
  refine ⟨C, e, F, R, g1, e1, q1, fun v F1 H1 R1 s1 r1 => ⟨k, (r1.get R1 q3).bl q5, ?_⟩⟩
  cases k with
  | true =>
    rw [if_pos rfl] at h1 ⊢
    exact ⟨C, e1, F1, R1, hd, e', h1, fun v F2 H2 R2 s2 r2 => h2 v F2 H2 R2 (s1.trans s2) r2⟩
  | false =>
    rw [if_neg Bool.false_ne_true] at h1 ⊢
    cases h1
    exact h2 _ F1 H1 R1 s1 (.bl false)
theorem he_or (ha : HE X a fa) (hb : HE X (.BoolOp .Or (b :: rest) pos) fb) : HE X (.BoolOp .Or (a :: b :: rest) pos) (xOr fa fb) := by
  refine pe_mono (pe_or ha hb) fun σ H Q ⟨C, e, F, R, hd, e', h1, h2⟩ => ?_
  obtain ⟨g1, e1, q1, h1⟩ := bnd_eq h1
  obtain ⟨d1, q3, h1⟩ := obn_eq h1
  obtain ⟨k, q5, h1⟩ := obn_eq h1
  refine ⟨C, e, F, R, g1, e1, q1, fun v F1 H1 R1 s1 r1 => ⟨k, (r1.get R1 q3).bl q5, ?_⟩⟩
  cases k with
  | false =>
    rw [if_neg Bool.false_ne_true] at h1 ⊢
    exact ⟨C, e1, F1, R1, hd, e', h1, fun v F2 H2 R2 s2 r2 => h2 v F2 H2 R2 (s1.trans s2) r2⟩
  | true =>
    rw [if_pos rfl] at h1 ⊢
    cases h1
    exact h2 _ F1 H1 R1 s1 (.bl true)
theorem he_not (ha : HE X a fa) : HE X (.UnaryOp .Not a pos) (xNot fa) := by
  refine pe_mono (pe_not ha) fun σ H Q ⟨C, e, F, R, hd, e', h1, h2⟩ => ?_
  obtain ⟨g1, e1, q1, h1⟩ := bnd_eq h1
  obtain ⟨d1, q3, h1⟩ := obn_eq h1
  obtain ⟨k, q5, h1⟩ := obn_eq h1
  cases h1
  exact ⟨C, e, F, R, g1, _, q1, fun v F1 H1 R1 s1 r1 => ⟨k, (r1.get R1 q3).bl q5, h2 _ F1 H1 R1 s1 (.bl _)⟩⟩
/-! argument lists -/
def yNil : Exs := fun e => some ([], e)
def yCons (f : Ex) (g : Exs) : Exs := fun e => bnd (f e) fun h e1 => bnd (g e1) fun hs e2 => some (h :: hs, e2)
theorem ha_nil : HA X [] yNil := pa_mono pa_nil fun σ H Q ⟨C, e, F, R, hs, e', h1, h2⟩ => by
  cases h1
  exact h2 [] F H R (.refl _) .nil
theorem ha_cons {gs : Exs} (ha : HE X a fa) (hr : HA X es gs) (hs : starEach (a :: es) X.env = (false, eval a X.env) :: starEach es X.env := by rfl) : HA X (a :: es) (yCons fa gs) := by
  refine pa_mono (pa_cons ha hr hs) fun σ H Q ⟨C, e, F, R, hd, e', h1, h2⟩ => ?_
  obtain ⟨g1, e1, q1, h1⟩ := bnd_eq h1
  obtain ⟨g2, e2, q2, h1⟩ := bnd_eq h1
  cases h1
  exact ⟨C, e, F, R, g1, e1, q1, fun v F1 H1 R1 s1 r1 => ⟨C, e1, F1, R1, g2, _, q2, fun vs F2 H2 R2 s2 r2 => h2 _ F2 H2 R2 (s1.trans s2) (.cons (r1.mono s2) r2)⟩⟩
/-! built-in functions and types by name -/
variable {id T : String} {r : List V → Hp → VK → Prop} {o : List D → Option D} {fs : Exs} {x : Str} {p : Pos}
theorem he_callB (hc : CallR X (.builtin id) r) (hr : ReadsN X.K r o) (hg : Gl X x) (hm : X.mg x = none) (hv : bootBuiltins x = some (.builtin id)) (ha : HA X (a :: es) fs) (hn : x ≠ "__name__" := by decide) (hdb : (x == ("__debug__" : Str)) = false := by decide)
    (hs : starEach (a :: es) X.env = (false, eval a X.env) :: starEach es X.env := by rfl) (hpl : (backTo pos (starEach es X.env)).any (·.1) = false := by rfl) :
    HE X (.Call (.Name x p) (a :: es) [] pos) (xN o fs) := pe_mono (pe_callB hc hg hm hv ha hn hdb hs hpl) fun σ H Q h => tN_of hr h
theorem he_callTy (hc : CallR X (.type T) r) (hr : ReadsN X.K r o) (hg : Gl X x) (hm : X.mg x = none) (hv : bootBuiltins x = some (.type T)) (ha : HA X (a :: es) fs) (hn : x ≠ "__name__" := by decide) (hdb : (x == ("__debug__" : Str)) = false := by decide)
    (hs : starEach (a :: es) X.env = (false, eval a X.env) :: starEach es X.env := by rfl) (hpl : (backTo pos (starEach es X.env)).any (·.1) = false := by rfl) :
    HE X (.Call (.Name x p) (a :: es) [] pos) (xN o fs) := pe_mono (pe_callTy hc hg hm hv ha hn hdb hs hpl) fun σ H Q h => tN_of hr h
end
end DL
end
section
set_option maxRecDepth 100000
set_option maxHeartbeats 4000000
/-! DL, part 3: displays, new lists, targets, statements, loops, comprehensions -/
namespace DL
open PySem PySem.Spec PyProof.Rows L2
/-- a bound on lists -/
abbrev lim : Nat := 1000000
theorem lim_ok {n : Nat} (h : n ≤ lim) : n ≤ sizeLine := Nat.le_trans h (by decide)
theorem lim_lt {n : Nat} (h : n ≤ lim) : n < sizeLine := Nat.lt_of_le_of_lt h (by decide)
@[inline] def gd {α : Type} (b : Bool) (k : Option α) : Option α := match b with
  | true => k
  | false => none
@[simp] theorem gd_true {α : Type} (k : Option α) : gd true k = k := rfl
@[simp] theorem gd_false {α : Type} (k : Option α) : gd false k = none := rfl
theorem gd_eq {α : Type} {b : Bool} {k : Option α} {r : α} (h : gd b k = some r) : b = true ∧ k = some r := by
  cases b with
  | false => cases h
  | true => exact ⟨rfl, h⟩
section
variable {X : Cx} {a b c : Expr} {es : List Expr} {fa fb fc : Ex} {pos : Pos}

/-! ### new lists -/
def xFz (f : Fx) : Ex := fun e => bnd (f e) fun xs e1 => some (.val (.list xs), e1)
theorem tFz_of {K : KF} {f : Fx} {σ : St} {H : Hp} {Q : VK} (h : tH K (xFz f) σ H Q) : tF K f σ H Q := by
  obtain ⟨C, e, F, R, hd, e', h1, h2⟩ := h
  obtain ⟨xs, e1, q1, h1⟩ := bnd_eq h1
  cases h1
  refine ⟨C, e, F, R, xs, _, q1, fun p vs F1 H1 R1 s1 n1 w1 r1 h0 hf => ?_⟩
  obtain ⟨R2, s2⟩ := R1.adopt n1 w1 h0 hf
  exact h2 _ _ _ R2 (s1.trans s2) (Rp.lst upd_same (r1.mono s2))
theorem he_of_fe {f : Fx} (h : FE X a f) : HE X a (xFz f) := pe_mono h fun σ H Q q => tFz_of q
/-- a reading that makes a new list -/
theorem tF_new {K : KF} {C : CTX} {e : En} {σ : St} {F H : Hp} {Q : VK} {vs : List V} {xs : List D} {p : Addr} (R : Rel K C e σ F H) (r : RpA K F vs xs) (hp : H p = none)
    (h : ∀ a vs F' H', Rel K C e σ F' H' → Same F F' → F' a = none → H' a = some (.lst vs) → RpA K F' vs xs → (C.H0 a = none ∨ a ∈ C.mu) → (∀ (j : Nat) t, e[j]? = some t → t.cells ≠ none → σ[j]? ≠ some (some (V.ref a))) → Q (.ref a) H') :
    Q (.ref p) (upd H p (.lst vs)) :=
  h p vs F (upd H p (.lst vs)) (R.grow (Grow.idle R.sub hp)) (.refl _) (R.sub.free hp) upd_same r (R.h0 hp) (R.freeAt hp)
def yLst (fs : Exs) : Fx := fun e => bnd (fs e) fun hs e1 => bnd (escs hs e1) fun ds e2 => gd (decide (ds.length ≤ lim)) (some (ds, e2))
theorem fe_lst {fs : Exs} (h : HA X es fs) : FE X (.List es pos) (yLst fs) := by
  refine pe_mono (pe_lst h) fun σ H Q ⟨C, e, F, R, xs, e', h1, h2⟩ => ?_
  obtain ⟨hs, e1, q1, h1⟩ := bnd_eq h1
  obtain ⟨ds, e2, q2, h1⟩ := bnd_eq h1
  obtain ⟨q3, h1⟩ := gd_eq h1
  cases h1
  refine ⟨C, e, F, R, hs, e1, q1, fun vs F1 H1 R1 s1 r1 => ?_⟩
  obtain ⟨F2, R2, s2, r2⟩ := RpHs.escs R1 r1 q2
  refine ⟨by rw [r2.length]; exact lim_ok (of_decide_eq_true q3), fun p hp => ?_⟩
  exact tF_new R2 r2 hp fun a vs F' H' z1 z2 => h2 a vs F' H' z1 (s1.trans (s2.trans z2))
/-! a tuple, known to the object -/
def tTupF (t : TA) : TE := fun σ H Q => t σ H fun xs H1 => xs.length ≤ sizeLine ∧ ∀ p o, o.dict = none → H1 p = none → Q (.ref p) (upd H1 p (.frz o (.tup xs)))
theorem pe_tupF {t : TA} {x1} (h : PA X es t) : PE X (.Tuple es x1 pos) (tTupF t) := by
  constructor
  intro pins s σ H Q I hq
  refine wpAny_Tuple_spliced (thn (h.run pos pins s σ H _ I hq) ?_)
  rintro us s1 ⟨xs, H1, I1, r, z, q⟩
  refine ⟨by rw [← r.length]; exact z, ?_⟩
  have fr : H1 s1.heap.objs.size = none := I1.hok.fresh (Nat.le_refl _)
  have at0 := Heap.get?_push_size s1.heap (o := ({ cls := .type "tuple", data := .seq us.toArray } : Obj)) rfl
  refine ⟨.ref s1.heap.objs.size, _, I1.laid (t' := s1.toks) (o := .frz { cls := .type "tuple", data := .seq us.toArray } (.tup xs)) (fun c u w => Heap.get?_push_of_some _ w) (Nat.le_refl _) ?_, rfl, q _ _ rfl fr⟩
  exact ⟨at0, z, us, r, ⟨_, at0, rfl, _, rfl⟩⟩
def xTup (fs : Exs) : Ex := fun e => bnd (fs e) fun hs e1 => bnd (escs hs e1) fun ds e2 => gd (decide (ds.length ≤ lim)) (some (.val (.tuple ds), e2))
theorem grow_tup {F H : Hp} {p : Addr} {o : Obj} {vs : List V} (s : Same F H) (h : H p = none) : Grow F H (upd F p (.frz o (.tup vs))) (upd H p (.frz o (.tup vs))) := Grow.one s h
theorem he_tup {fs : Exs} {x1} (h : HA X es fs) : HE X (.Tuple es x1 pos) (xTup fs) := by
  refine pe_mono (pe_tupF h) fun σ H Q ⟨C, e, F, R, hd, e', h1, h2⟩ => ?_
  obtain ⟨hs, e1, q1, h1⟩ := bnd_eq h1
  obtain ⟨ds, e2, q2, h1⟩ := bnd_eq h1
  obtain ⟨q3, h1⟩ := gd_eq h1
  cases h1
  refine ⟨C, e, F, R, hs, e1, q1, fun vs F1 H1 R1 s1 r1 => ?_⟩
  obtain ⟨F2, R2, s2, r2⟩ := RpHs.escs R1 r1 q2
  refine ⟨by rw [r2.length]; exact lim_ok (of_decide_eq_true q3), fun p o ho hp => ?_⟩
  have g := Grow.one (o := .frz o (.tup vs)) R2.sub hp
  exact h2 _ _ _ (R2.grow g) (s1.trans (s2.trans g.ff)) (Rp.tup ⟨o, upd_same, ho⟩ (r2.mono g.ff))

/-! ### argument lists in which new lists may stand -/
inductive Ar where
  | h (x : Hd) | o (xs : List D)
abbrev Rx := En → Option (List Ar × En)
/-- a list that nobody holds yet -/
structure Pn (K : KF) (C : CTX) (e : En) (σ : St) (F H : Hp) (a : Addr) (ws : List V) (xs : List D) : Prop where
  n : F a = none
  at_ : H a = some (.lst ws)
  r : RpA K F ws xs
  h0 : C.H0 a = none ∨ a ∈ C.mu
  fr : ∀ (j : Nat) t, e[j]? = some t → t.cells ≠ none → σ[j]? ≠ some (some (V.ref a))
inductive RpRs (K : KF) (C : CTX) (e : En) (σ : St) (F H : Hp) : List Addr → List V → List Ar → Prop
  | nil : RpRs K C e σ F H [] [] []
  | h {v : V} {x : Hd} {l : List Addr} {vs : List V} {rs : List Ar} : RpH K F σ v x → RpRs K C e σ F H l vs rs → RpRs K C e σ F H l (v :: vs) (.h x :: rs)
  | o {a : Addr} {ws : List V} {xs : List D} {l : List Addr} {vs : List V} {rs : List Ar} : Pn K C e σ F H a ws xs → a ∉ l → RpRs K C e σ F H l vs rs → RpRs K C e σ F H (a :: l) (.ref a :: vs) (.o xs :: rs)
def tRs (K : KF) (f : Rx) : TA := fun σ H Q => ∃ C e F, Rel K C e σ F H ∧ ∃ rs e', f e = some (rs, e') ∧ ∀ l vs F' H', Rel K C e' σ F' H' → Same F F' → RpRs K C e' σ F' H' l vs rs → Q vs H'
abbrev HR (X : Cx) (es : List Expr) (f : Rx) : Prop := PA X es (tRs X.K f)
/-- what is pending stays while more is reckoned -/
theorem pend {K : KF} {C : CTX} {e e' : En} {σ σ' : St} {F H F' H' : Hp} {a : Addr} {o : HO} (R : Rel K C e σ F H) (hF : F a = none) (hH : H a = some o) (hf : ∀ (j : Nat) t, e[j]? = some t → t.cells ≠ none → σ[j]? ≠ some (some (V.ref a)))
    (R' : Rel K (C.sub e σ F H) e' σ' F' H') : F' a = none ∧ H' a = some o ∧ ∀ (j : Nat) t, e'[j]? = some t → t.cells ≠ none → σ'[j]? ≠ some (some (V.ref a)) := by
  have nm : a ∉ ownAddrs e σ := fun z => by
    obtain ⟨i, s, h1, h2, h3⟩ := of_ownAddrs z
    exact hf i s h1 h2 h3
  have hH0 : (C.sub e σ F H).H0 a = some o := hH
  refine ⟨?_, R'.frame a _ hH0 nm, fun j t h1 h2 h3 => ?_⟩
  · cases q : F' a with
    | none => rfl
    | some u =>
      rcases R'.new a (by rw [q]; simp) with z | z | z
      · exact absurd hF z
      · rw [hH0] at z
        cases z
      · exact absurd z nm
  · cases q : t.cells with
    | none => exact h2 q
    | some xs =>
      obtain ⟨b, vs, q1, q2, q3, q4, q5⟩ := R'.own j xs t h1 q
      rw [h3] at q1
      cases q1
      rcases q5 with z | z
      · rw [hH0] at z
        cases z
      · exact nm z
theorem RpRs.leave {K : KF} {C : CTX} {e e' : En} {σ : St} {F H F' H' : Hp} (R : Rel K C e σ F H) (l0 : ∀ b, (C.sub e σ F H).H0 b = none → C.H0 b = none ∨ b ∈ C.mu) (l1 : ∀ b ∈ ownAddrs e σ, C.H0 b = none ∨ b ∈ C.mu) :
    ∀ {l : List Addr} {vs : List V} {rs : List Ar}, RpRs K (C.sub e σ F H) e' σ F' H' l vs rs → RpRs K C e' σ F' H' l vs rs
  | _, _, _, .nil => .nil
  | _, _, _, RpRs.h r t => RpRs.h r (RpRs.leave R l0 l1 t)
  | _, _, _, .o p a6 t => .o ⟨p.n, p.at_, p.r, p.h0.elim (l0 _) (l1 _), p.fr⟩ a6 (RpRs.leave R l0 l1 t)
theorem Rel.l0 {K : KF} {C : CTX} {e : En} {σ : St} {F H : Hp} (R : Rel K C e σ F H) : ∀ b, H b = none → C.H0 b = none ∨ b ∈ C.mu := fun b h => R.h0 h
theorem Rel.l1 {K : KF} {C : CTX} {e : En} {σ : St} {F H : Hp} (R : Rel K C e σ F H) : ∀ b ∈ ownAddrs e σ, C.H0 b = none ∨ b ∈ C.mu := fun b hb => by
  obtain ⟨i, s, h1, h2, h3⟩ := of_ownAddrs hb
  cases q : s.cells with
  | none => exact absurd q h2
  | some xs =>
    obtain ⟨c, vs, q1, q2, q3, q4, q5⟩ := R.own i xs s h1 q
    rw [h3] at q1
    cases q1
    exact q5
theorem RpRs.addr {K : KF} {C : CTX} {e : En} {σ : St} {F H : Hp} : ∀ {l : List Addr} {vs : List V} {rs : List Ar}, RpRs K C e σ F H l vs rs → ∀ a ∈ l, C.H0 a = none ∨ a ∈ C.mu
  | _, _, _, .nil, a, hm => by cases hm
  | _, _, _, RpRs.h r t, a, hm => RpRs.addr t a hm
  | _, _, _, .o p a6 t, a, hm => by
    rcases List.mem_cons.mp hm with hm | hm
    · subst hm
      exact p.h0
    · exact RpRs.addr t a hm
def zNil : Rx := fun e => some ([], e)
def zCons (f : Ex) (g : Rx) : Rx := fun e => bnd (f e) fun h e1 => bnd (g e1) fun hs e2 => some (.h h :: hs, e2)
def zConsO (f : Fx) (g : Rx) : Rx := fun e => bnd (f e) fun xs e1 => bnd (g e1) fun hs e2 => some (.o xs :: hs, e2)
theorem hr_nil : HR X [] zNil := pa_mono pa_nil fun σ H Q ⟨C, e, F, R, hs, e', h1, h2⟩ => by
  cases h1
  exact h2 [] [] F H R (.refl _) .nil
theorem hr_cons {gs : Rx} (ha : HE X a fa) (hr : HR X es gs) (hs : starEach (a :: es) X.env = (false, eval a X.env) :: starEach es X.env := by rfl) : HR X (a :: es) (zCons fa gs) := by
  refine pa_mono (pa_cons ha hr hs) fun σ H Q ⟨C, e, F, R, hd, e', h1, h2⟩ => ?_
  obtain ⟨g1, e1, q1, h1⟩ := bnd_eq h1
  obtain ⟨g2, e2, q2, h1⟩ := bnd_eq h1
  cases h1
  exact ⟨C, e, F, R, g1, e1, q1, fun v F1 H1 R1 s1 r1 => ⟨C, e1, F1, R1, g2, _, q2, fun l vs F2 H2 R2 s2 r2 => h2 l _ F2 H2 R2 (s1.trans s2) (.h (r1.mono s2) r2)⟩⟩
theorem hr_consO {f : Fx} {gs : Rx} (ha : FE X a f) (hr : HR X es gs) (hs : starEach (a :: es) X.env = (false, eval a X.env) :: starEach es X.env := by rfl) : HR X (a :: es) (zConsO f gs) := by
  refine pa_mono (pa_cons ha hr hs) fun σ H Q ⟨C, e, F, R, hd, e', h1, h2⟩ => ?_
  obtain ⟨g1, e1, q1, h1⟩ := bnd_eq h1
  obtain ⟨g2, e2, q2, h1⟩ := bnd_eq h1
  cases h1
  refine ⟨C, e, F, R, g1, e1, q1, fun p ws F1 H1 R1 s1 n1 w1 r1 h0 hf => ?_⟩
  refine ⟨C.sub e1 σ F1 H1, e1, F1, R1.enter, g2, _, q2, fun l vs F2 H2 R2 s2 r2 => ?_⟩
  obtain ⟨y1, y2, y3⟩ := pend R1 n1 w1 hf R2
  refine h2 (p :: l) _ F2 H2 (R1.leave R2) (s1.trans s2) (.o ⟨y1, y2, r1.mono s2, h0, y3⟩ (fun z => ?_) (RpRs.leave R1 R1.l0 R1.l1 r2))
  rcases r2.addr p z with q | q
  · have q' : H1 p = none := q
    rw [w1] at q'
    cases q'
  · obtain ⟨i, s, z1, z2, z3⟩ := of_ownAddrs q
    exact hf i s z1 z2 z3

/-! ### targets -/
/-- what a loop hands on: a datum, or a pair to be taken apart -/
inductive Itm where
  | v (d : D) | p (d1 d2 : D)
def RpI (K : KF) (F H : Hp) (x : V) : Itm → Prop
  | .v d => Rp K F x d
  | .p d1 d2 => ∃ T v1 v2, x = .ref T ∧ SqT K H T [v1, v2] ∧ Rp K F v1 d1 ∧ Rp K F v2 d2
abbrev Tg := Itm → En → Option En
def Keeps (is : List Nat) (σ σ' : St) : Prop := σ'.length = σ.length ∧ ∀ vs : List Nat, (∀ i ∈ is, i ∈ vs) → wipe σ' vs = wipe σ vs
theorem wipe_set {σ : St} {i : Nat} {x : Option V} : ∀ {vs : List Nat}, i ∈ vs → wipe (σ.set i x) vs = wipe σ vs
  | [], h => by cases h
  | v :: vs, h => by
    unfold wipe
    by_cases e : i = v
    · subst e
      by_cases hm : i ∈ vs
      · rw [wipe_set hm]
      · have key : ∀ (us : List Nat), i ∉ us → wipe (σ.set i x) us = (wipe σ us).set i x := fun us => by
          induction us with
          | nil => intro _; rfl
          | cons u us ih =>
            intro hu
            have h1 : i ≠ u := fun z => hu (z ▸ List.mem_cons_self ..)
            have h2 : i ∉ us := fun z => hu (List.mem_cons_of_mem _ z)
            unfold wipe
            rw [ih h2, List.set_comm _ _ h1]
        rw [key vs hm, List.set_set]
    · rcases List.mem_cons.mp h with h | h
      · exact absurd h e
      · rw [wipe_set h]
theorem Keeps.refl (σ : St) : Keeps [] σ σ := ⟨rfl, fun _ _ => rfl⟩
def tG (K : KF) (is : List Nat) (t : Tg) : TG := fun x σ H Q => ∃ C e F, Rel K C e σ F H ∧ ∃ it e', RpI K F H x it ∧ t it e = some e' ∧ ∀ σ' F' H', Rel K C e' σ' F' H' → Same F F' → Keeps is σ σ' → Q σ' H'
abbrev HG (X : Cx) (tg : Expr) (is : List Nat) (t : Tg) : Prop := PG X tg (tG X.K is t)
theorem pg_mono {tg : Expr} {t t' : TG} (h : PG X tg t) (m : ∀ v σ H Q, t' v σ H Q → t v σ H Q) : PG X tg t' := ⟨fun pins s σ H v u Q I r q => h.run pins s σ H v u Q I r (m v σ H Q q)⟩
theorem pgs_mono {tg : List Expr} {t t' : TGs} (h : PGs X tg t) (m : ∀ v σ H Q, t' v σ H Q → t v σ H Q) : PGs X tg t' := ⟨fun pins s σ H v u Q I r q => h.run pins s σ H v u Q I r (m v σ H Q q)⟩
/-- a slot given something; not one that the caller owns -/
def putS (i : Nat) (s : Sl) (e : En) : Option En := match e[i]? with
  | none => none
  | some (.io _) => none
  | some _ => some (e.set i s)
theorem putS_eq {i : Nat} {s : Sl} {e e' : En} (h : putS i s e = some e') : e' = e.set i s ∧ ∃ t, e[i]? = some t ∧ ∀ zs, t ≠ .io zs := by
  unfold putS at h
  split at h
  · cases h
  · cases h
  · rename_i t h1 h2
    cases h
    exact ⟨rfl, t, h2, fun zs z => h1 zs z⟩
def gN (i : Nat) : Tg := fun it e => match it with
  | .v d => putS i (.fz d) e
  | .p _ _ => none
theorem hg_name {i : Nat} {x : Str} (h : PG X (.Name x pos) (gName i)) : HG X (.Name x pos) [i] (gN i) := by
  refine pg_mono h fun v σ H Q ⟨C, e, F, R, it, e', r, h1, h2⟩ => ?_
  cases it with
  | p _ _ => cases h1
  | v d =>
    obtain ⟨rfl, t, q1, q2⟩ := putS_eq h1
    have hl : i < σ.length := by rw [← R.len]; exact (List.getElem?_eq_some_iff.mp q1).1
    exact h2 _ F H (R.put q1 q2 hl r) (.refl _) ⟨List.length_set, fun vs hv => wipe_set (hv i (List.mem_singleton.mpr rfl))⟩
/-- several targets, with their data -/
abbrev Tgs := List D → En → Option En
def tGs (K : KF) (is : List Nat) (t : Tgs) : TGs := fun xs σ H Q => ∃ C e F, Rel K C e σ F H ∧ ∃ ds e', RpA K F xs ds ∧ t ds e = some e' ∧ ∀ σ' F' H', Rel K C e' σ' F' H' → Same F F' → Keeps is σ σ' → Q σ' H'
abbrev HGs (X : Cx) (ts : List Expr) (is : List Nat) (t : Tgs) : Prop := PGs X ts (tGs X.K is t)
def gsNil : Tgs := fun ds e => match ds with
  | [] => some e
  | _ => none
def gsCons (t : Tg) (ts : Tgs) : Tgs := fun ds e => match ds with
  | [] => none
  | d :: r => obn (t (.v d) e) fun e1 => ts r e1
theorem hgs_nil : HGs X [] [] gsNil := by
  refine pgs_mono pgs_nil fun xs σ H Q ⟨C, e, F, R, ds, e', r, h1, h2⟩ => ?_
  cases r with
  | cons _ _ => cases h1
  | nil =>
    cases h1
    exact ⟨rfl, h2 σ F H R (.refl _) (.refl _)⟩
theorem hgs_cons {tg : Expr} {ts : List Expr} {is js : List Nat} {t : Tg} {u : Tgs} (h1 : HG X tg is t) (h2 : HGs X ts js u) (hs : (assignEach (tg :: ts) X.env).map (·.2) = assign tg X.env :: (assignEach ts X.env).map (·.2) := by rfl) :
    HGs X (tg :: ts) (is ++ js) (gsCons t u) := by
  refine pgs_mono (pgs_cons h1 h2 hs) fun xs σ H Q ⟨C, e, F, R, ds, e', r, q1, q2⟩ => ?_
  cases r with
  | nil => cases q1
  | cons r rr =>
    obtain ⟨e1, w1, w2⟩ := obn_eq q1
    refine ⟨_, _, rfl, C, e, F, R, .v _, e1, r, w1, fun σ1 F1 H1 R1 s1 k1 => ?_⟩
    refine ⟨C, e1, F1, R1, _, e', rr.mono s1, w2, fun σ2 F2 H2 R2 s2 k2 => ?_⟩
    exact q2 σ2 F2 H2 R2 (s1.trans s2) ⟨k2.1.trans k1.1, fun vs hv => (k2.2 vs fun i hi => hv i (List.mem_append_right _ hi)).trans (k1.2 vs fun i hi => hv i (List.mem_append_left _ hi))⟩
def gT (n : Nat) (t : Tgs) : Tg := fun it e => match it with
  | .v (.tuple ds) => if ds.length = n then t ds e else none
  | .p d1 d2 => if n = 2 then t [d1, d2] e else none
  | _ => none
theorem hg_tup {ts : List Expr} {k : Nat} {is : List Nat} {t : Tgs} {n : Nat} (hc : X.calm = true) (h : HGs X ts is t) (hn : (assignEach ts X.env).length = n := by rfl) (hst : (assignEach ts X.env).findIdx? (·.1) = none := by rfl) :
    HG X (.Tuple ts k pos) is (gT n t) := by
  refine pg_mono (pg_tup hc h hn hst) fun v σ H Q ⟨C, e, F, R, it, e', r, q1, q2⟩ => ?_
  cases it with
  | v d =>
    cases d with
    | tuple ds =>
      have q1' : (if ds.length = n then t ds e else none) = some e' := q1
      split at q1'
      · rename_i hl
        have r' : Rp X.K F v (.tuple ds) := r
        cases r' with
        | tup w1 w2 =>
          exact ⟨_, _, rfl, (w1.mono R.sub).seq, by rw [w2.length]; exact hl, C, e, F, R, ds, e', w2, q1', q2⟩
      · cases q1'
    | _ => cases q1
  | p d1 d2 =>
    have q1' : (if n = 2 then t [d1, d2] e else none) = some e' := q1
    split at q1'
    · rename_i hl
      obtain ⟨T, v1, v2, rfl, w1, w2, w3⟩ := r
      exact ⟨T, [v1, v2], rfl, w1, hl.symm, C, e, F, R, [d1, d2], e', .cons w2 (.cons w3 .nil), q1', q2⟩
    · cases q1'
/-- slot i's own list, changed at a place -/
def setI (xs : List D) (k : D) (d : D) : Option (List D) := match k with
  | .int j => obn (ixN xs.length j) fun m => some (xs.set m d)
  | _ => none
def updS (i : Nat) (f : List D → Option (List D)) (e : En) : Option En := match e[i]? with
  | some (.ow xs) => obn (f xs) fun ys => some (e.set i (.ow ys))
  | some (.io xs) => obn (f xs) fun ys => some (e.set i (.io ys))
  | _ => none
theorem updS_eq {K : KF} {C : CTX} {σ : St} {F H : Hp} {i : Nat} {f : List D → Option (List D)} {e e' : En} (R : Rel K C e σ F H) (h : updS i f e = some e') :
    ∃ a vs xs ys, σ[i]? = some (some (V.ref a)) ∧ H a = some (.lst vs) ∧ RpA K F vs xs ∧ f xs = some ys ∧ ∀ ws, RpA K F ws ys → Rel K C e' σ F (upd H a (.lst ws)) := by
  unfold updS at h
  split at h
  · rename_i xs h1
    obtain ⟨ys, h2, h3⟩ := obn_eq h
    cases h3
    obtain ⟨a, vs, q1, q2, q3, q4, q5⟩ := R.own i xs _ h1 rfl
    exact ⟨a, vs, xs, ys, q1, q3, q4, h2, fun ws hw => R.change h1 rfl q1 hw rfl fun zs z => nomatch z⟩
  · rename_i xs h1
    obtain ⟨ys, h2, h3⟩ := obn_eq h
    cases h3
    obtain ⟨a, vs, q1, q2, q3, q4, q5⟩ := R.own i xs _ h1 rfl
    exact ⟨a, vs, xs, ys, q1, q3, q4, h2, fun ws hw => R.change h1 rfl q1 hw rfl fun zs z => ⟨_, rfl⟩⟩
  · cases h
/-- the slot holds a list of its own (or the caller's) -/
def hasC (i : Nat) (e : En) : Bool := match e[i]? with
  | some s => s.cells.isSome
  | none => false
theorem hasC_eq {K : KF} {C : CTX} {e : En} {σ : St} {F H : Hp} {i : Nat} (R : Rel K C e σ F H) (h : hasC i e = true) : ∃ a, σ[i]? = some (some (V.ref a)) := by
  unfold hasC at h
  split at h
  · rename_i s h1
    obtain ⟨xs, h2⟩ := Option.isSome_iff_exists.mp h
    obtain ⟨a, vs, q1, _⟩ := R.own i xs s h1 h2
    exact ⟨a, q1⟩
  · cases h
def gSubT (i : Nat) (f : Ex) : Tg := fun it e => match it with
  | .v d => gd (hasC i e) (bnd (f e) fun h e1 => obn (h.get e1) fun k => updS i (fun xs => setI xs k d) e1)
  | .p _ _ => none
theorem hg_sub {i : Nat} {x : Str} {p : Pos} (h : PE X (.Name x p) (tVar i)) (hb : HE X b fb) (ha : ∀ v, assign (.Subscript (.Name x p) b pos) X.env v = (do
      let ov ← holding [v] (eval (.Name x p) X.env)
      let iv ← holding [v, ov] (eval b X.env)
      standAt pos
      holding [v, ov, iv] (setItem ov iv v)
      release [v, ov, iv] []) := by intro _; rfl) : HG X (.Subscript (.Name x p) b pos) [] (gSubT i fb) := by
  refine pg_mono (pg_sub h hb set_list ha) fun v σ H Q ⟨C, e, F, R, it, e', r, q1, q2⟩ => ?_
  cases it with
  | p _ _ => cases q1
  | v d =>
    have q1' : gd (hasC i e) (bnd (fb e) fun h e1 => obn (h.get e1) fun k => updS i (fun xs => setI xs k d) e1) = some e' := q1
    obtain ⟨hc, q1'⟩ := gd_eq q1'
    obtain ⟨hd, e1, w1, q1'⟩ := bnd_eq q1'
    obtain ⟨k, w2, w3⟩ := obn_eq q1'
    obtain ⟨a0, hv⟩ := hasC_eq R hc
    refine ⟨_, hv, C, e, F, R, hd, e1, w1, fun kv F1 H1 R1 s1 r1 => ?_⟩
    obtain ⟨a, vs, xs, ys, y1, y2, y3, y4, y5⟩ := updS_eq R1 w3
    rw [hv] at y1
    cases y1
    have rk := r1.get R1 w2
    cases k with
    | int j =>
      obtain ⟨m, m1, m2⟩ := obn_eq (show obn (ixN xs.length j) (fun m => some (xs.set m d)) = some ys from y4)
      cases m2
      have ek : kv = .int j := by
        rcases rk with rk | ⟨_, _, _, _, z, _⟩
        · cases rk
          rfl
        · cases z
      refine ⟨_, vs, j, m, rfl, ek, y2, by rw [y3.length]; exact m1, ?_⟩
      exact q2 σ F1 _ (y5 _ (y3.set (Rp.mono s1 (show Rp X.K F v d from r)) m)) s1 (.refl σ)
    | _ => cases y4
end
end DL
end
section
set_option maxRecDepth 100000
set_option maxHeartbeats 4000000
/-! DL, part 4: statements, iteration, loops, comprehensions -/
namespace DL
open PySem PySem.Spec PyProof.Rows L2

/-! ### statements -/
inductive Fl where
  | nx | bk | ct | rt (d : D) | ro (xs : List D)
abbrev Sx := En → Option (Fl × En)
def SEnd (K : KF) (C : CTX) (σ : St) (F : Hp) (De : Ends) (e' : En) : Fl → Prop
  | .nx => ∀ σ' F' H', Rel K C e' σ' F' H' → Same F F' → De.nx σ' H'
  | .bk => ∀ σ' F' H', Rel K C e' σ' F' H' → Same F F' → De.bk σ' H'
  | .ct => ∀ σ' F' H', Rel K C e' σ' F' H' → Same F F' → De.ct σ' H'
  | .rt d => ∀ v σ' F' H', Rel K C e' σ' F' H' → Same F F' → Rp K F' v d → De.rt v H'
  | .ro xs => ∀ a vs σ' F' H', Rel K C e' σ' F' H' → Same F F' → F' a = none → H' a = some (.lst vs) → RpA K F' vs xs → (C.H0 a = none ∨ a ∈ C.mu) →
      (∀ (j : Nat) t, e'[j]? = some t → t.cells ≠ none → σ'[j]? ≠ some (some (V.ref a))) → De.rt (.ref a) H'
theorem SEnd.mono {K : KF} {C : CTX} {σ : St} {F F1 : Hp} {De : Ends} {e' : En} {fl : Fl} (s : Same F F1) (h : SEnd K C σ F De e' fl) (σ1 : St) : SEnd K C σ1 F1 De e' fl := by
  cases fl with
  | nx => exact fun σ' F' H' R q => h σ' F' H' R (s.trans q)
  | bk => exact fun σ' F' H' R q => h σ' F' H' R (s.trans q)
  | ct => exact fun σ' F' H' R q => h σ' F' H' R (s.trans q)
  | rt d => exact fun v σ' F' H' R q => h v σ' F' H' R (s.trans q)
  | ro xs => exact fun a vs σ' F' H' R q => h a vs σ' F' H' R (s.trans q)
def tS (K : KF) (g : Sx) : TS := fun De σ H => ∃ C e F, Rel K C e σ F H ∧ ∃ fl e', g e = some (fl, e') ∧ SEnd K C σ F De e' fl
abbrev HS (X : Cx) (st : Stmt) (g : Sx) : Prop := PS X st (tS X.K g)
abbrev HSs (X : Cx) (st : List Stmt) (g : Sx) : Prop := PSs X st (tS X.K g)
section
variable {X : Cx} {a b c : Expr} {es : List Expr} {fa fb fc : Ex} {pos : Pos} {st : Stmt} {rest : List Stmt} {g u : Sx}
def sSeq (g u : Sx) : Sx := fun e => bnd (g e) fun fl e1 => match fl with
  | .nx => u e1
  | fl => some (fl, e1)
def sNil : Sx := fun e => some (.nx, e)
theorem hss_nil : HSs X [] sNil := pss_mono pss_nil fun De σ H ⟨C, e, F, R, fl, e', h1, h2⟩ => by
  cases h1
  exact h2 σ F H R (.refl _)
theorem hss_cons (h1 : HS X st g) (h2 : HSs X rest u) : HSs X (st :: rest) (sSeq g u) := by
  refine pss_mono (pss_cons h1 h2) fun De σ H ⟨C, e, F, R, fl, e', q1, q2⟩ => ?_
  obtain ⟨f1, e1, w1, w2⟩ := bnd_eq q1
  refine ⟨C, e, F, R, f1, e1, w1, ?_⟩
  cases f1 with
  | nx => exact fun σ' F' H' R' s => ⟨C, e1, F', R', fl, e', w2, q2.mono s _⟩
  | bk =>
    cases w2
    exact q2
  | ct =>
    cases w2
    exact q2
  | rt d =>
    cases w2
    exact q2
  | ro xs =>
    cases w2
    exact q2
theorem hss_one (h1 : HS X st g) : HSs X [st] g := pss_one h1
theorem hs_pass : HS X (.Pass pos) sNil := ps_mono ps_pass fun De σ H ⟨C, e, F, R, fl, e', h1, h2⟩ => by
  cases h1
  exact h2 σ F H R (.refl _)
def sBk : Sx := fun e => some (.bk, e)
def sCt : Sx := fun e => some (.ct, e)
theorem hs_break : HS X (.Break pos) sBk := ps_mono ps_break fun De σ H ⟨C, e, F, R, fl, e', h1, h2⟩ => by
  cases h1
  exact h2 σ F H R (.refl _)
theorem hs_cont : HS X (.Continue pos) sCt := ps_mono ps_continue fun De σ H ⟨C, e, F, R, fl, e', h1, h2⟩ => by
  cases h1
  exact h2 σ F H R (.refl _)
def sNever : Sx := fun _ => none
theorem hs_never : HS X st sNever := ps_mono ps_never fun De σ H ⟨C, e, F, R, fl, e', h1, h2⟩ => nomatch h1
theorem hss_never {sts : List Stmt} : HSs X sts sNever := pss_mono pss_never fun De σ H ⟨C, e, F, R, fl, e', h1, h2⟩ => nomatch h1
def sDrop (f : Ex) : Sx := fun e => bnd (f e) fun _ e1 => some (.nx, e1)
theorem hs_expr (ha : HE X a fa) (hs : swapsWith a none pos.line X.env = pure false := by rfl) : HS X (.Expr a pos) (sDrop fa) := by
  refine ps_mono (ps_expr ha hs) fun De σ H ⟨C, e, F, R, fl, e', q1, q2⟩ => ?_
  obtain ⟨h1, e1, w1, w2⟩ := bnd_eq q1
  cases w2
  exact ⟨C, e, F, R, h1, _, w1, fun v F1 H1 R1 s1 r1 => q2 σ F1 H1 R1 s1⟩
def sRet (f : Ex) : Sx := fun e => bnd (f e) fun h e1 => bnd (esc h e1) fun d e2 => some (.rt d, e2)
theorem hs_ret (ha : HE X a fa) : HS X (.Return (some a) pos) (sRet fa) := by
  refine ps_mono (ps_ret ha) fun De σ H ⟨C, e, F, R, fl, e', q1, q2⟩ => ?_
  obtain ⟨h1, e1, w1, w2⟩ := bnd_eq q1
  obtain ⟨d, e2, w3, w4⟩ := bnd_eq w2
  cases w4
  refine ⟨C, e, F, R, h1, e1, w1, fun v F1 H1 R1 s1 r1 => ?_⟩
  obtain ⟨F2, R2, s2, r2⟩ := r1.esc R1 w3
  exact q2 v σ F2 H1 R2 (s1.trans s2) r2
def sRetO (f : Fx) : Sx := fun e => bnd (f e) fun xs e1 => some (.ro xs, e1)
theorem hs_retO {f : Fx} (ha : FE X a f) : HS X (.Return (some a) pos) (sRetO f) := by
  refine ps_mono (ps_ret ha) fun De σ H ⟨C, e, F, R, fl, e', q1, q2⟩ => ?_
  obtain ⟨xs, e1, w1, w2⟩ := bnd_eq q1
  cases w2
  exact ⟨C, e, F, R, xs, _, w1, fun p vs F1 H1 R1 s1 n1 y1 r1 h0 hf => q2 p vs σ F1 H1 R1 s1 n1 y1 r1 h0 hf⟩
def sRetN : Sx := fun e => some (.rt .none, e)
theorem hs_retN : HS X (.Return none pos) sRetN := ps_mono ps_retN fun De σ H ⟨C, e, F, R, fl, e', h1, h2⟩ => by
  cases h1
  exact h2 .non σ F H R (.refl _) .non
def sIf (t : Ts) (g u : Sx) : Sx := fun e => bnd (t e) fun k e1 => if k = true then g e1 else u e1
theorem hs_if {t : Ts} {l1 l2 : List Stmt} (hc : HT X c t) (h1 : HSs X l1 g) (h2 : HSs X l2 u) : HS X (.If c l1 l2 pos) (sIf t g u) := by
  refine ps_mono (ps_if hc h1 h2) fun De σ H ⟨C, e, F, R, fl, e', q1, q2⟩ => ?_
  obtain ⟨k, e1, w1, w2⟩ := bnd_eq q1
  refine ⟨C, e, F, R, k, e1, w1, fun F1 H1 R1 s1 => ?_⟩
  cases k with
  | true =>
    rw [if_pos rfl] at w2 ⊢
    exact ⟨C, e1, F1, R1, fl, e', w2, q2.mono s1 _⟩
  | false =>
    rw [if_neg Bool.false_ne_true] at w2 ⊢
    exact ⟨C, e1, F1, R1, fl, e', w2, q2.mono s1 _⟩
/-! stores -/
def sSet (i : Nat) (f : Ex) : Sx := fun e => bnd (f e) fun h e1 => bnd (esc h e1) fun d e2 => obn (putS i (.fz d) e2) fun e3 => some (.nx, e3)
theorem set_of {K : KF} {i : Nat} {f : Ex} {De : Ends} {σ : St} {H : Hp} (h : tS K (sSet i f) De σ H) : tAsg (tH K f) (gName i) De σ H := by
  obtain ⟨C, e, F, R, fl, e', q1, q2⟩ := h
  obtain ⟨h1, e1, w1, w2⟩ := bnd_eq q1
  obtain ⟨d, e2, w3, w4⟩ := bnd_eq w2
  obtain ⟨e3, w5, w6⟩ := obn_eq w4
  cases w6
  refine ⟨C, e, F, R, h1, e1, w1, fun v F1 H1 R1 s1 r1 => ?_⟩
  obtain ⟨F2, R2, s2, r2⟩ := r1.esc R1 w3
  obtain ⟨rfl, t, y1, y2⟩ := putS_eq w5
  have hl : i < σ.length := by rw [← R2.len]; exact (List.getElem?_eq_some_iff.mp y1).1
  exact q2 _ F2 H1 (R2.put y1 y2 hl r2) (s1.trans s2)
theorem hs_set {i : Nat} {x : Str} {pos' : Pos} (hN : X.N.Nodup) (hi : X.N[i]? = some x) (hx : Loc X.env.scope x) (ha : HE X a fa) (hs : swapsWith a (some (.Name x pos')) pos.line X.env = pure false := by rfl)
    (hf : X.fn x = true ∨ X.env.scope.names.lookup x = some .local := by first | exact .inl rfl | exact .inr rfl | assumption) : HS X (.Assign [.Name x pos'] a pos) (sSet i fa) :=
  ps_mono (ps_set hN hi hx ha hs hf) fun De σ H h => set_of h
def sSetO (i : Nat) (f : Fx) : Sx := fun e => bnd (f e) fun xs e1 => obn (putS i (.ow xs) e1) fun e2 => some (.nx, e2)
theorem setO_of {K : KF} {i : Nat} {f : Fx} {De : Ends} {σ : St} {H : Hp} (h : tS K (sSetO i f) De σ H) : tAsg (tF K f) (gName i) De σ H := by
  obtain ⟨C, e, F, R, fl, e', q1, q2⟩ := h
  obtain ⟨xs, e1, w1, w2⟩ := bnd_eq q1
  obtain ⟨e3, w5, w6⟩ := obn_eq w2
  cases w6
  refine ⟨C, e, F, R, xs, e1, w1, fun p vs F1 H1 R1 s1 n1 v1 r1 h0 hf => ?_⟩
  obtain ⟨rfl, t, y1, y2⟩ := putS_eq w5
  have hl : i < σ.length := by rw [← R1.len]; exact (List.getElem?_eq_some_iff.mp y1).1
  exact q2 _ F1 H1 (R1.putO y1 y2 hl n1 v1 r1 h0 hf) s1
theorem hs_setO {i : Nat} {x : Str} {pos' : Pos} {f : Fx} (hN : X.N.Nodup) (hi : X.N[i]? = some x) (hx : Loc X.env.scope x) (ha : FE X a f) (hs : swapsWith a (some (.Name x pos')) pos.line X.env = pure false := by rfl)
    (hf : X.fn x = true ∨ X.env.scope.names.lookup x = some .local := by first | exact .inl rfl | exact .inr rfl | assumption) : HS X (.Assign [.Name x pos'] a pos) (sSetO i f) :=
  ps_mono (ps_set hN hi hx ha hs hf) fun De σ H h => setO_of h
/-- a target that is taken apart -/
def sAsg (f : Ex) (t : Tg) : Sx := fun e => bnd (f e) fun h e1 => bnd (esc h e1) fun d e2 => obn (t (.v d) e2) fun e3 => some (.nx, e3)
theorem hs_asg {tg : Expr} {is : List Nat} {t : Tg} (ha : HE X a fa) (hg : HG X tg is t) (hs : swapsWithSole [tg] a pos.line X.env = pure false := by rfl) (hw : swappedStores [tg] a X.env = pure none := by rfl)
    (h1 : (assignEach [tg] X.env).map (·.2) = [assign tg X.env] := by rfl) : HS X (.Assign [tg] a pos) (sAsg fa t) := by
  refine ps_mono (ps_asg ha hg hs hw h1) fun De σ H ⟨C, e, F, R, fl, e', q1, q2⟩ => ?_
  obtain ⟨h1, e1, w1, w2⟩ := bnd_eq q1
  obtain ⟨d, e2, w3, w4⟩ := bnd_eq w2
  obtain ⟨e3, w5, w6⟩ := obn_eq w4
  cases w6
  refine ⟨C, e, F, R, h1, e1, w1, fun v F1 H1 R1 s1 r1 => ?_⟩
  obtain ⟨F2, R2, s2, r2⟩ := r1.esc R1 w3
  exact ⟨C, e2, F2, R2, .v d, _, r2, w5, fun σ' F' H' R' s' k' => q2 σ' F' H' R' (s1.trans (s2.trans s'))⟩
/-- a, b = x, y with two (three) local names: no tuple; new lists may be given -/
def putA (i : Nat) (r : Ar) (e : En) : Option En := match r with
  | .h (.val d) => putS i (.fz d) e
  | .h (.sl _) => none
  | .o xs => putS i (.ow xs) e
/-- the handles made data, from the left -/
def escR : List Ar → En → Option (List Ar × En)
  | [], e => some ([], e)
  | .h x :: rs, e => bnd (esc x e) fun d e1 => bnd (escR rs e1) fun ds e2 => some (.h (.val d) :: ds, e2)
  | .o xs :: rs, e => bnd (escR rs e) fun ds e2 => some (.o xs :: ds, e2)
theorem esc1 {K : KF} {C : CTX} {e e' : En} {σ : St} {F H : Hp} {x : Hd} {v : V} {d : D} (R : Rel K C e σ F H) (r : RpH K F σ v x) (g : esc x e = some (d, e')) :
    ∃ F', Rel K C e' σ F' H ∧ Same F F' ∧ Rp K F' v d ∧ ∀ a ws xs, Pn K C e σ F H a ws xs → Pn K C e' σ F' H a ws xs := by
  cases x with
  | val d' =>
    cases g
    exact ⟨F, R, .refl _, r, fun _ _ _ p => p⟩
  | sl i =>
    have r' : σ[i]? = some (some v) := r
    unfold DL.esc at g
    simp only at g
    split at g
    · rename_i d' h1
      cases g
      obtain ⟨v', q1, q2⟩ := R.fz i _ h1
      rw [r'] at q1
      cases q1
      exact ⟨F, R, .refl _, q2, fun _ _ _ p => p⟩
    · rename_i xs h1
      cases g
      obtain ⟨a, vs, q1, q2, q3, q4, q5⟩ := R.own i xs _ h1 rfl
      rw [r'] at q1
      cases q1
      obtain ⟨z1, z2, z3⟩ := R.freeze h1 r' q3
      have hi : i < e.length := (List.getElem?_eq_some_iff.mp h1).1
      refine ⟨_, z1, z2, z3, fun b ws ys p => ⟨?_, p.at_, p.r.mono z2, p.h0, fun j t y1 y2 => ?_⟩⟩
      · have ne : b ≠ a := fun z => p.fr i _ h1 (by simp) (z ▸ r')
        rw [upd_ne ne]
        exact p.n
      · by_cases hj : j = i
        · subst hj
          rw [List.getElem?_set_self hi] at y1
          cases y1
          simp at y2
        · rw [List.getElem?_set_ne (Ne.symm hj)] at y1
          exact p.fr j t y1 y2
    · cases g
theorem RpRs.map {K : KF} {C : CTX} {e e' : En} {σ : St} {F F' H : Hp} (s : Same F F') (m : ∀ a ws xs, Pn K C e σ F H a ws xs → Pn K C e' σ F' H a ws xs) : ∀ {l : List Addr} {vs : List V} {rs : List Ar}, RpRs K C e σ F H l vs rs → RpRs K C e' σ F' H l vs rs
  | _, _, _, .nil => .nil
  | _, _, _, RpRs.h r t => RpRs.h (r.mono s) (RpRs.map s m t)
  | _, _, _, .o p a6 t => .o (m _ _ _ p) a6 (RpRs.map s m t)
theorem RpRs.esc {K : KF} {C : CTX} {σ : St} {H : Hp} : ∀ {rs rs' : List Ar} {l : List Addr} {vs : List V} {e e' : En} {F : Hp}, Rel K C e σ F H → RpRs K C e σ F H l vs rs → escR rs e = some (rs', e') →
    ∃ F', Rel K C e' σ F' H ∧ Same F F' ∧ RpRs K C e' σ F' H l vs rs' ∧ ∀ a ws xs, Pn K C e σ F H a ws xs → Pn K C e' σ F' H a ws xs
  | [], _, _, _, e, _, F, R, .nil, g => by
    cases g
    exact ⟨F, R, .refl _, .nil, fun _ _ _ p => p⟩
  | .h x :: rs, _, l, _, e, e', F, R, RpRs.h (v := v) r t, g => by
    obtain ⟨d, e1, h1, h2⟩ := bnd_eq g
    obtain ⟨ds, e2, h3, h4⟩ := bnd_eq h2
    cases h4
    obtain ⟨F1, R1, s1, r1, m1⟩ := esc1 R r h1
    obtain ⟨F2, R2, s2, t2, m2⟩ := RpRs.esc R1 (t.map s1 m1) h3
    exact ⟨F2, R2, s1.trans s2, RpRs.h (x := .val d) (Rp.mono s2 r1) t2, fun a ws xs p => m2 a ws xs (m1 a ws xs p)⟩
  | .o xs :: rs, _, _, _, e, e', F, R, .o p a6 t, g => by
    obtain ⟨ds, e2, h3, h4⟩ := bnd_eq g
    cases h4
    obtain ⟨F2, R2, s2, t2, m2⟩ := RpRs.esc R t h3
    exact ⟨F2, R2, s2, .o (m2 _ _ _ p) a6 t2, m2⟩
theorem escR_val : ∀ {rs rs' : List Ar} {e e' : En}, escR rs e = some (rs', e') → ∀ q ∈ rs', ∀ j, q ≠ Ar.h (.sl j)
  | [], _, _, _, g, q, hq => by
    cases g
    cases hq
  | .h x :: rs, _, _, _, g, q, hq => by
    obtain ⟨d, e1, h1, h2⟩ := bnd_eq g
    obtain ⟨ds, e2, h3, h4⟩ := bnd_eq h2
    cases h4
    rcases List.mem_cons.mp hq with hq | hq
    · subst hq
      exact fun j z => nomatch z
    · exact escR_val h3 q hq
  | .o xs :: rs, _, _, _, g, q, hq => by
    obtain ⟨ds, e2, h3, h4⟩ := bnd_eq g
    cases h4
    rcases List.mem_cons.mp hq with hq | hq
    · subst hq
      exact fun j z => nomatch z
    · exact escR_val h3 q hq
theorem RpRs.move {K : KF} {C : CTX} {e e' : En} {σ σ' : St} {F H : Hp} : ∀ {l : List Addr} {vs : List V} {rs : List Ar}, RpRs K C e σ F H l vs rs → (∀ q ∈ rs, ∀ j, q ≠ Ar.h (.sl j)) → (∀ b ws ys, b ∈ l → Pn K C e σ F H b ws ys → Pn K C e' σ' F H b ws ys) →
    RpRs K C e' σ' F H l vs rs
  | _, _, _, .nil, _, _ => .nil
  | _, _, _, RpRs.h (x := .sl j) r t, hv, m => absurd rfl (hv _ (List.mem_cons_self ..) j)
  | _, _, _, RpRs.h (v := v) (x := .val d) r t, hv, m => RpRs.h (x := .val d) (show Rp K F v d from r) (RpRs.move t (fun q hq => hv q (List.mem_cons_of_mem _ hq)) m)
  | _, _, _, .o p a6 t, hv, m => .o (m _ _ _ (List.mem_cons_self ..) p) a6 (RpRs.move t (fun q hq => hv q (List.mem_cons_of_mem _ hq)) (fun b ws ys hb => m b ws ys (List.mem_cons_of_mem _ hb)))
/-- a slot is given one of them -/
theorem putA_ok {K : KF} {C : CTX} {e e' : En} {σ : St} {F H : Hp} {i : Nat} {r : Ar} {v : V} {l : List Addr} {vs : List V} {rs : List Ar} (R : Rel K C e σ F H) (hv : ∀ q ∈ r :: rs, ∀ j, q ≠ Ar.h (.sl j)) (t : RpRs K C e σ F H l (v :: vs) (r :: rs)) (h : putA i r e = some e') :
    Rel K C e' (σ.set i (some v)) F H ∧ ∃ l3, RpRs K C e' (σ.set i (some v)) F H l3 vs rs := by
  cases t with
  | h r1 t1 =>
    rename_i x
    cases x with
    | sl j => cases h
    | val d =>
      obtain ⟨rfl, s, y1, y2⟩ := putS_eq h
      have hi : i < e.length := (List.getElem?_eq_some_iff.mp y1).1
      have hl : i < σ.length := by rw [← R.len]; exact hi
      refine ⟨R.put y1 y2 hl r1, _, RpRs.move t1 (fun q hq => hv q (List.mem_cons_of_mem _ hq)) (fun b ws ys hb p => ⟨p.n, p.at_, p.r, p.h0, fun j t q1 q2 => ?_⟩)⟩
      by_cases hj : j = i
      · subst hj
        rw [List.getElem?_set_self hi] at q1
        cases q1
        simp at q2
      · rw [List.getElem?_set_ne (Ne.symm hj)] at q1 ⊢
        exact p.fr j t q1 q2
  | o p a6 t1 =>
    rename_i a ws xs l
    obtain ⟨rfl, s, y1, y2⟩ := putS_eq h
    have hi : i < e.length := (List.getElem?_eq_some_iff.mp y1).1
    have hl : i < σ.length := by rw [← R.len]; exact hi
    refine ⟨R.putO y1 y2 hl p.n p.at_ p.r p.h0 p.fr, _, RpRs.move t1 (fun q hq => hv q (List.mem_cons_of_mem _ hq)) (fun b ws ys hb p' => ⟨p'.n, p'.at_, p'.r, p'.h0, fun j t q1 q2 => ?_⟩)⟩
    by_cases hj : j = i
    · subst hj
      rw [List.getElem?_set_self hl]
      intro z
      cases z
      exact a6 hb
    · rw [List.getElem?_set_ne (Ne.symm hj)] at q1 ⊢
      exact p'.fr j t q1 q2
def sPar (i j : Nat) (f : Rx) : Sx := fun e => bnd (f e) fun rs e1 => bnd (escR rs e1) fun qs e2 => match qs with
  | [r1, r2] => obn (putA i r1 e2) fun e3 => obn (putA j r2 e3) fun e4 => some (.nx, e4)
  | _ => none
theorem hs_par {f : Rx} {i j : Nat} {x y : Str} {px py pt : Pos} {kt k2 pt2} (hc : X.calm = true) (hN : X.N.Nodup) (hi : X.N[i]? = some x) (hj : X.N[j]? = some y) (hij : i ≠ j)
    (hx : X.env.scope.names.lookup x = some .local) (hy : X.env.scope.names.lookup y = some .local) (ha : HR X [a, b] f)
    (hw : swappedStores [.Tuple [.Name x px, .Name y py] kt pt] (.Tuple [a, b] k2 pt2) X.env = pure (some [x, y]))
    (hs : swapsWithSole [.Tuple [.Name x px, .Name y py] kt pt] (.Tuple [a, b] k2 pt2) pos.line X.env = pure false := by rfl) :
    HS X (.Assign [.Tuple [.Name x px, .Name y py] kt pt] (.Tuple [a, b] k2 pt2) pos) (sPar i j f) := by
  refine ps_mono (ps_par hc hN hi hj hij hx hy ha hw hs) fun De σ H ⟨C, e, F, R, fl, e', q1, q2⟩ => ?_
  obtain ⟨rs, e1, w1, w2⟩ := bnd_eq q1
  obtain ⟨qs, e2, w3, w4⟩ := bnd_eq w2
  refine ⟨C, e, F, R, rs, e1, w1, fun l vs F1 H1 R1 s1 t1 => ?_⟩
  obtain ⟨F2, R2, s2, t2, _⟩ := RpRs.esc R1 t1 w3
  have hv := escR_val w3
  match qs, w4, t2, hv with
  | [r1, r2], w4, t2, hv =>
    obtain ⟨e3, w5, w6⟩ := obn_eq w4
    obtain ⟨e4, w7, w8⟩ := obn_eq w6
    cases w8
    have lv : ∃ v w, vs = [v, w] := by
      cases t2 with
      | h _ t => cases t with
        | h _ t => cases t; exact ⟨_, _, rfl⟩
        | o _ _ t => cases t; exact ⟨_, _, rfl⟩
      | o _ _ t => cases t with
        | h _ t => cases t; exact ⟨_, _, rfl⟩
        | o _ _ t => cases t; exact ⟨_, _, rfl⟩
    obtain ⟨v, w, rfl⟩ := lv
    obtain ⟨R3, l3, t3⟩ := putA_ok R2 hv t2 w5
    obtain ⟨R4, l4, t4⟩ := putA_ok R3 (fun q hq => hv q (List.mem_cons_of_mem _ hq)) t3 w7
    exact ⟨v, w, rfl, q2 _ F2 H1 R4 (s1.trans s2)⟩
def sPar3 (i j k : Nat) (f : Rx) : Sx := fun e => bnd (f e) fun rs e1 => bnd (escR rs e1) fun qs e2 => match qs with
  | [r1, r2, r3] => obn (putA i r1 e2) fun e3 => obn (putA j r2 e3) fun e4 => obn (putA k r3 e4) fun e5 => some (.nx, e5)
  | _ => none
end

/-! ### what is walked -/
def ItOk (K : KF) (F : Hp) (items : List Itm) (J : It) : Prop := ∀ C e σ F1 H1, Same F F1 → Rel K C e σ F1 H1 → ∀ i : Nat,
  (items.length ≤ i → J.stop i H1) ∧ ∀ it, items[i]? = some it → J.go i H1 ∧ ∀ x H', J.yld i H1 x H' → Grow F1 H1 F1 H' ∧ RpI K F1 H' x it
abbrev Srx := En → Option (List Itm × En)
def tI (K : KF) (src : Srx) : TI := fun σ H Q => ∃ C e F, Rel K C e σ F H ∧ ∃ items e', src e = some (items, e') ∧ ∀ J F' H', Rel K C e' σ F' H' → Same F F' → ItOk K F' items J → Q J H'
abbrev HI (X : Cx) (tg iter : Expr) (src : Srx) : Prop := PI X tg iter (tI X.K src)
theorem pi_mono {X : Cx} {tg e : Expr} {t t' : TI} (h : PI X tg e t) (m : ∀ σ H Q, t' σ H Q → t σ H Q) : PI X tg e t' := ⟨fun pins s σ H R I q => h.run pins s σ H R I (m σ H R q)⟩

/-! ### for -/
def forGo (t : Tg) (b : Sx) : List Itm → En → Option (Fl × En)
  | [], e => some (.nx, e)
  | it :: its, e => obn (t it e) fun e1 => bnd (b e1) fun fl e2 => match fl with
    | .nx => forGo t b its e2
    | .ct => forGo t b its e2
    | .bk => some (.nx, e2)
    | fl => some (fl, e2)
def sFor (src : Srx) (t : Tg) (b : Sx) : Sx := fun e => bnd (src e) fun its e1 => forGo t b its e1
section
variable {X : Cx} {pos : Pos}
theorem hs_for {tg iter : Expr} {body : List Stmt} {src : Srx} {is : List Nat} {t : Tg} {b : Sx} (hp : PassesOwn (model X.prog X.w) X.A X.env X.xe) (hc : X.calm = true) (hi : HI X tg iter src) (hg : HG X tg is t) (hb : HSs X body b)
    (hs : ∀ x, foldedSetIterable iter X.env x = pure x := by intro _; rfl) : HS X (.For tg iter body [] pos) (sFor src t b) := by
  refine ps_mono (ps_for hp hc hi hg hb hs) fun De σ H ⟨C, e, F, R, fl, e', q1, q2⟩ => ?_
  obtain ⟨its, e1, w1, w2⟩ := bnd_eq q1
  refine ⟨C, e, F, R, its, e1, w1, fun J F1 H1 R1 s1 ok => ?_⟩
  refine ⟨fun i m σ2 H2 => m = its.length - i ∧ i ≤ its.length ∧ ∃ e2 F2, Rel X.K C e2 σ2 F2 H2 ∧ Same F1 F2 ∧ forGo t b (its.drop i) e2 = some (fl, e'), ⟨its.length, by simp, Nat.zero_le _, e1, F1, R1, .refl _, w2⟩, ?_⟩
  rintro i m σ2 H2 ⟨rfl, hle, e2, F2, R2, s2, go⟩
  by_cases hlt : i < its.length
  · refine .inr ?_
    obtain ⟨_, ok2⟩ := ok C e2 σ2 F2 H2 s2 R2 i
    obtain ⟨g1, g2⟩ := ok2 _ (List.getElem?_eq_getElem hlt)
    rw [List.drop_eq_getElem_cons hlt] at go
    obtain ⟨e3, v1, v2⟩ := obn_eq go
    obtain ⟨f4, e4, v3, v4⟩ := bnd_eq v2
    refine ⟨g1, fun σ5 H5 => ∃ e5 F5, Rel X.K C e5 σ5 F5 H5 ∧ Same F1 F5 ∧ forGo t b (its.drop (i + 1)) e5 = some (fl, e'), fun σ' H' h => ⟨its.length - (i + 1), by omega, rfl, hlt, h⟩, fun x H3 hy => ?_⟩
    obtain ⟨gr, ri⟩ := g2 x H3 hy
    refine ⟨C, e2, F2, R2.grow gr, its[i], e3, ri, v1, fun σ4 F4 H4 R4 s4 k4 => ?_⟩
    refine ⟨C, e3, F4, R4, f4, e4, v3, ?_⟩
    cases f4 with
    | nx => exact fun σ' F' H' R' s' => ⟨e4, F', R', s2.trans (s4.trans s'), v4⟩
    | ct => exact fun σ' F' H' R' s' => ⟨e4, F', R', s2.trans (s4.trans s'), v4⟩
    | bk =>
      cases v4
      exact fun σ' F' H' R' s' => q2 σ' F' H' R' (s1.trans (s2.trans (s4.trans s')))
    | rt d =>
      cases v4
      exact fun v σ' F' H' R' s' r' => q2 v σ' F' H' R' (s1.trans (s2.trans (s4.trans s'))) r'
    | ro xs =>
      cases v4
      exact fun a vs σ' F' H' R' s' => q2 a vs σ' F' H' R' (s1.trans (s2.trans (s4.trans s')))
  · have ei : i = its.length := by omega
    subst ei
    obtain ⟨ok1, _⟩ := ok C e2 σ2 F2 H2 s2 R2 its.length
    refine .inl ⟨ok1 (Nat.le_refl _), ?_⟩
    rw [List.drop_length] at go
    cases go
    exact q2 σ2 F2 H2 R2 (s1.trans s2)

/-! ### while -/
def whileGo (t : Ts) (b : Sx) : Nat → En → Option (Fl × En)
  | 0, _ => none
  | n + 1, e => bnd (t e) fun k e1 => if k = true then bnd (b e1) fun fl e2 => match fl with
      | .nx => whileGo t b n e2
      | .ct => whileGo t b n e2
      | .bk => some (.nx, e2)
      | fl => some (fl, e2) else some (.nx, e1)
/-- n: how many turns at the most, told of the state -/
def sWhile (n : En → Nat) (t : Ts) (b : Sx) : Sx := fun e => whileGo t b (n e) e
theorem hs_while {c : Expr} {body : List Stmt} {t : Ts} {b : Sx} (n : En → Nat) (hp : PassesOwn (model X.prog X.w) X.A X.env X.xe) (hc : HT X c t) (hb : HSs X body b) : HS X (.While c body [] pos) (sWhile n t b) := by
  refine ps_mono (ps_while hp hc hb) fun De σ H ⟨C, e, F, R, fl, e', q1, q2⟩ => ?_
  refine ⟨fun m σ2 H2 => ∃ e2 F2, Rel X.K C e2 σ2 F2 H2 ∧ Same F F2 ∧ whileGo t b m e2 = some (fl, e'), ⟨n e, e, F, R, .refl _, q1⟩, ?_⟩
  rintro m σ2 H2 ⟨e2, F2, R2, s2, go⟩
  cases m with
  | zero => cases go
  | succ m =>
    obtain ⟨k, e3, w1, w2⟩ := bnd_eq go
    refine ⟨C, e2, F2, R2, k, e3, w1, fun F3 H3 R3 s3 => ?_⟩
    cases k with
    | false =>
      rw [if_neg Bool.false_ne_true] at w2 ⊢
      cases w2
      exact q2 σ2 F3 H3 R3 (s2.trans s3)
    | true =>
      rw [if_pos rfl] at w2 ⊢
      obtain ⟨f4, e4, w3, w4⟩ := bnd_eq w2
      refine ⟨fun σ5 H5 => ∃ e5 F5, Rel X.K C e5 σ5 F5 H5 ∧ Same F F5 ∧ whileGo t b m e5 = some (fl, e'), fun σ' H' h => ⟨m, Nat.lt_succ_self _, h⟩, C, e3, F3, R3, f4, e4, w3, ?_⟩
      cases f4 with
      | nx => exact fun σ' F' H' R' s' => ⟨e4, F', R', s2.trans (s3.trans s'), w4⟩
      | ct => exact fun σ' F' H' R' s' => ⟨e4, F', R', s2.trans (s3.trans s'), w4⟩
      | bk =>
        cases w4
        exact fun σ' F' H' R' s' => q2 σ' F' H' R' (s2.trans (s3.trans s'))
      | rt d =>
        cases w4
        exact fun v σ' F' H' R' s' r' => q2 v σ' F' H' R' (s2.trans (s3.trans s')) r'
      | ro xs =>
        cases w4
        exact fun a vs σ' F' H' R' s' => q2 a vs σ' F' H' R' (s2.trans (s3.trans s'))
end
end DL
end
section
set_option maxRecDepth 100000
set_option maxHeartbeats 4000000
/-! DL, part 5: comprehensions -/
namespace DL
open PySem PySem.Spec PyProof.Rows L2
def wipeE : List Nat → En → Option En
  | [], e => some e
  | v :: vs, e => obn (wipeE vs e) fun e1 => putS v .em e1
theorem Rel.wipe {K : KF} {C : CTX} {σ : St} {F H : Hp} {e : En} (R : Rel K C e σ F H) : ∀ {vs : List Nat} {e' : En}, wipeE vs e = some e' → Rel K C e' (L2.wipe σ vs) F H ∧ ∀ i ∈ vs, e'[i]? = some Sl.em
  | [], _, h => by
    cases h
    exact ⟨R, fun i hi => by cases hi⟩
  | v :: vs, _, h => by
    obtain ⟨e1, h1, h2⟩ := obn_eq h
    obtain ⟨R1, m1⟩ := Rel.wipe R h1
    obtain ⟨rfl, t, y1, y2⟩ := putS_eq h2
    have hi : v < e1.length := (List.getElem?_eq_some_iff.mp y1).1
    refine ⟨R1.wipe1 y1 y2, fun i hm => ?_⟩
    by_cases hv : i = v
    · subst hv
      rw [List.getElem?_set_self hi]
    · rw [List.getElem?_set_ne (Ne.symm hv)]
      rcases List.mem_cons.mp hm with z | z
      · exact absurd z hv
      · exact m1 i z
theorem wipe_get {σ : St} {i : Nat} : ∀ {vs : List Nat}, i ∉ vs → (L2.wipe σ vs)[i]? = σ[i]?
  | [], _ => rfl
  | v :: vs, h => by
    have h1 : i ≠ v := fun z => h (z ▸ List.mem_cons_self ..)
    unfold L2.wipe
    rw [List.getElem?_set_ne (Ne.symm h1)]
    exact wipe_get fun z => h (List.mem_cons_of_mem _ z)
theorem wipe_wipe {σ : St} : ∀ (us vs : List Nat), (∀ i ∈ us, i ∈ vs) → L2.wipe (L2.wipe σ us) vs = L2.wipe σ vs
  | [], _, _ => rfl
  | u :: us, vs, h => by
    show L2.wipe ((L2.wipe σ us).set u none) vs = _
    rw [wipe_set (h u (List.mem_cons_self ..)), wipe_wipe us vs fun i hi => h i (List.mem_cons_of_mem _ hi)]
/-- the block's own slots are nothing to the def -/
theorem Rel.unwipe {K : KF} {C : CTX} {σ : St} {F H : Hp} {e : En} {vs : List Nat} (R : Rel K C e (L2.wipe σ vs) F H) (h : ∀ i ∈ vs, e[i]? = some Sl.em) : Rel K C e σ F H := by
  have key : ∀ (i : Nat) s, e[i]? = some s → s ≠ .em → (L2.wipe σ vs)[i]? = σ[i]? := fun i s h1 h2 => wipe_get fun hi => by
    rw [h i hi] at h1
    cases h1
    exact h2 rfl
  refine ⟨R.sub, R.ext, R.new, R.frame, fun i d h1 => ?_, fun i xs s h1 h2 => ?_, fun i j s t a h1 h2 h3 h4 h5 h6 => ?_, fun p hp => ?_, fun i ns h1 => ?_, by rw [R.len, wipe_length]⟩
  · rw [← key i _ h1 (by simp)]
    exact R.fz i d h1
  · rw [← key i _ h1 (fun z => by subst z; simp at h2)]
    exact R.own i xs s h1 h2
  · rw [← key i _ h1 (fun z => by subst z; simp at h3)] at h5
    rw [← key j _ h2 (fun z => by subst z; simp at h4)] at h6
    exact R.sep i j s t a h1 h2 h3 h4 h5 h6
  · obtain ⟨zs, z1, z2⟩ := R.ioa p hp
    refine ⟨zs, z1, ?_⟩
    rw [← key _ _ z1 (by simp)]
    exact z2
  · rw [← key i _ h1 (by simp)]
    exact R.scr i ns h1
/-- an object that nobody owns is changed -/
theorem Rel.idleUpd {K : KF} {C : CTX} {σ : St} {F H : Hp} {e : En} {a : Addr} {o : HO} (R : Rel K C e σ F H) (hF : F a = none) (h0 : C.H0 a = none ∨ a ∈ C.mu) (hf : ∀ (j : Nat) t, e[j]? = some t → t.cells ≠ none → σ[j]? ≠ some (some (V.ref a))) :
    Rel K C e σ F (upd H a o) := by
  refine ⟨fun b u h => ?_, R.ext, R.new, fun b u h hm => ?_, R.fz, fun i xs s h1 h2 => ?_, R.sep, R.ioa, R.scr, R.len⟩
  · rw [upd_ne (fun z => by rw [z, hF] at h; cases h)]
    exact R.sub b u h
  · rw [upd_ne (fun z => by
      subst z
      rcases h0 with q | q
      · rw [q] at h
        cases h
      · exact hm q)]
    exact R.frame b u h hm
  · obtain ⟨b, vs, q1, q2, q3, q4, q5⟩ := R.own i xs s h1 h2
    refine ⟨b, vs, q1, q2, ?_, q4, q5⟩
    have hb : b ≠ a := fun z => hf i s h1 (by rw [h2]; simp) (by rw [z] at q1; exact q1)
    rw [upd_ne hb]
    exact q3
def lcGo (own : List Nat) (t : Tg) (k : Ts) (f : Ex) : List Itm → En → Option (List D × En)
  | [], e => some ([], e)
  | it :: its, e => obn (t it e) fun e1 => bnd (k e1) fun b e2 => if b = true then
      bnd (f e2) fun h e3 => bnd (esc h e3) fun d e4 => obn (wipeE own e4) fun e5 => bnd (lcGo own t k f its e5) fun ds e6 => some (d :: ds, e6)
    else obn (wipeE own e2) fun e5 => lcGo own t k f its e5
def yLc (own : List Nat) (src : Srx) (t : Tg) (k : Ts) (f : Ex) : Fx := fun e => bnd (src e) fun its e1 => gd (decide (its.length ≤ lim)) (obn (wipeE own e1) fun e2 => lcGo own t k f its e2)
theorem tLc_of {K : KF} {own is : List Nat} {src : Srx} {t : Tg} {k : Ts} {f : Ex} {σ : St} {H : Hp} {Q : VK} (his : ∀ i ∈ is, i ∈ own) (h : tF K (yLc own src t k f) σ H Q) : tLc (tI K src) (tG K is t) (tTe K k) (tH K f) own σ H Q := by
  obtain ⟨C, e, F, R, xs, e', q1, q2⟩ := h
  obtain ⟨its, e1, w1, w2⟩ := bnd_eq q1
  obtain ⟨w3, w4⟩ := gd_eq w2
  obtain ⟨e2, w5, w6⟩ := obn_eq w4
  have hlim := of_decide_eq_true w3
  refine ⟨C, e, F, R, its, e1, w1, fun J F1 H1 R1 s1 ok L hL => ?_⟩
  have R1' := (R1.grow (Grow.idle (o := .lst []) R1.sub hL)).wipe w5
  have h0 := R1.h0 hL
  have fr0 : ∀ (j : Nat) t, e2[j]? = some t → t.cells ≠ none → (L2.wipe σ own)[j]? ≠ some (some (V.ref L)) := fun j t a1 a2 a3 => by
    cases q : t.cells with
    | none => exact a2 q
    | some ys =>
      obtain ⟨b, vs, z1, z2, z3, z4, z5⟩ := R1'.1.own j ys t a1 q
      rw [a3] at z1
      cases z1
      have z3' : upd H1 L (.lst []) L = some (.lst vs) := z3
      rcases (R1'.1.own j ys t a1 q) with ⟨b, vs, z1, z2, z3, z4, z5⟩
      rw [a3] at z1
      cases z1
      -- an owned address stands in H1, L does not
      have hj : j ∉ own := fun hm => by
        rw [R1'.2 j hm] at a1
        cases a1
        exact a2 rfl
      have e1j : ∃ s, e1[j]? = some s ∧ s.cells = some ys := by
        have key : ∀ {vs : List Nat} {e3 : En}, wipeE vs e1 = some e3 → j ∉ vs → e3[j]? = e1[j]? := fun {vs} => by
          induction vs with
          | nil =>
            intro e3 hw _
            cases hw
            rfl
          | cons v vs ih =>
            intro e3 hw hn
            obtain ⟨e4, hw1, hw2⟩ := obn_eq hw
            obtain ⟨rfl, _⟩ := putS_eq hw2
            have hv : v ≠ j := fun z => hn (by rw [z]; exact List.mem_cons_self ..)
            rw [List.getElem?_set_ne hv]
            exact ih hw1 fun z => hn (List.mem_cons_of_mem _ z)
        rw [key w5 hj] at a1
        exact ⟨t, a1, q⟩
      obtain ⟨s, e1j, cs⟩ := e1j
      obtain ⟨b, us, y1, y2, y3, _⟩ := R1.own j ys s e1j cs
      rw [wipe_get hj, y1] at a3
      cases a3
      rw [hL] at y3
      cases y3
  refine ⟨fun i m H2 => m = its.length - i ∧ i ≤ its.length ∧ ∃ e3 F3 ws ds rest, Rel K C e3 (L2.wipe σ own) F3 H2 ∧ Same F1 F3 ∧ Pn K C e3 (L2.wipe σ own) F3 H2 L ws ds ∧ (∀ j ∈ own, e3[j]? = some Sl.em) ∧
      lcGo own t k f (its.drop i) e3 = some (rest, e') ∧ xs = ds ++ rest ∧ ws.length ≤ i, ⟨its.length, by simp, Nat.zero_le _, e2, F1, [], [], xs, R1'.1, .refl _, ⟨R1.sub.free hL, upd_same, .nil, h0, fr0⟩, R1'.2, w6, rfl, Nat.le_refl _⟩, ?_⟩
  rintro i m H2 ⟨rfl, hle, e3, F3, ws, ds, rest, R3, s3, pn, em3, go, ex, hw⟩
  by_cases hlt : i < its.length
  · refine .inr ?_
    rw [List.drop_eq_getElem_cons hlt] at go
    obtain ⟨e4, v1, v2⟩ := obn_eq go
    obtain ⟨b, e5, v3, v4⟩ := bnd_eq v2
    have R3e := R3.enter
    obtain ⟨_, ok2⟩ := ok (C.sub e3 (L2.wipe σ own) F3 H2) e3 (L2.wipe σ own) F3 H2 s3 R3e i
    obtain ⟨g1, g2⟩ := ok2 _ (List.getElem?_eq_getElem hlt)
    refine ⟨g1, fun H' => ∃ e6 F6 ws6 ds6 rest6, Rel K C e6 (L2.wipe σ own) F6 H' ∧ Same F1 F6 ∧ Pn K C e6 (L2.wipe σ own) F6 H' L ws6 ds6 ∧ (∀ j ∈ own, e6[j]? = some Sl.em) ∧
      lcGo own t k f (its.drop (i + 1)) e6 = some (rest6, e') ∧ xs = ds6 ++ rest6 ∧ ws6.length ≤ i + 1, fun H' hh => ⟨its.length - (i + 1), by omega, rfl, hlt, hh⟩, fun x H4 hy => ?_⟩
    obtain ⟨gr, ri⟩ := g2 x H4 hy
    refine ⟨C.sub e3 (L2.wipe σ own) F3 H2, e3, F3, R3e.grow gr, its[i], e4, ri, v1, fun σ5 F5 H5 R5 s5 k5 => ?_⟩
    have hσ5 : L2.wipe σ5 own = L2.wipe σ own := (k5.2 own his).trans (wipe_wipe own own fun _ h => h)
    refine ⟨hσ5, C.sub e3 (L2.wipe σ own) F3 H2, e4, F5, R5, b, e5, v3, fun F6 H6 R6 s6 => ?_⟩
    cases b with
    | false =>
      rw [if_neg Bool.false_ne_true] at v4 ⊢
      obtain ⟨e7, v5, v6⟩ := obn_eq v4
      obtain ⟨y1, y2, y3⟩ := pend R3 pn.n pn.at_ pn.fr R6
      have R7 := R3.leave R6
      obtain ⟨R8, em8⟩ := R7.wipe v5
      rw [hσ5] at R8
      refine ⟨e7, F6, ws, ds, rest, R8, s3.trans (s5.trans s6), ⟨y1, y2, pn.r.mono (s5.trans s6), pn.h0, fun j t a1 a2 a3 => ?_⟩, em8, v6, ex, by omega⟩
      obtain ⟨b, us, z1, z2, z3, z4, z5⟩ := R8.own j _ t a1 (Option.some_get (Option.isSome_iff_ne_none.mpr a2)).symm
      rw [a3] at z1
      cases z1
      have q5 := (R6.wipe v5).1
      rw [hσ5] at q5
      exact (pend R3 pn.n pn.at_ pn.fr q5).2.2 j t a1 a2 a3
    | true =>
      rw [if_pos rfl] at v4 ⊢
      obtain ⟨hd, e7, v5, v6⟩ := bnd_eq v4
      obtain ⟨d, e8, v7, v8⟩ := bnd_eq v6
      obtain ⟨e9, v9, v10⟩ := obn_eq v8
      obtain ⟨rs, e10, v11, v12⟩ := bnd_eq v10
      cases v12
      refine ⟨C.sub e3 (L2.wipe σ own) F3 H2, e5, F6, R6, hd, e7, v5, fun y F7 H7 R7 s7 r7 => ?_⟩
      obtain ⟨F8, R8, s8, r8⟩ := r7.esc R7 v7
      obtain ⟨y1, y2, y3⟩ := pend R3 pn.n pn.at_ pn.fr R8
      refine ⟨ws, y2, Nat.lt_of_le_of_lt hw (Nat.lt_of_lt_of_le hlt (lim_ok hlim)), ?_⟩
      have q9 := (R8.wipe v9).1
      rw [hσ5] at q9
      have fr9 := (pend R3 pn.n pn.at_ pn.fr q9).2.2
      obtain ⟨R9, em9⟩ := (R3.leave R8).wipe v9
      rw [hσ5] at R9
      have sF : Same F3 F8 := s5.trans (s6.trans (s7.trans s8))
      refine ⟨e9, F8, ws ++ [y], ds ++ [d], rs, R9.idleUpd y1 pn.h0 fr9, s3.trans sF, ⟨y1, upd_same, (pn.r.mono sF).append (.cons r8 .nil), pn.h0, fr9⟩, em9, v11, ?_, ?_⟩
      · rw [ex]
        simp
      · rw [List.length_append, List.length_singleton]
        omega
  · have ei : i = its.length := by omega
    subst ei
    obtain ⟨ok1, _⟩ := ok C e3 (L2.wipe σ own) F3 H2 s3 R3 its.length
    refine .inl ⟨ok1 (Nat.le_refl _), ?_⟩
    rw [List.drop_length] at go
    cases go
    rw [List.append_nil] at ex
    subst ex
    have Ru := R3.unwipe em3
    refine q2 L ws F3 H2 Ru (s1.trans s3) pn.n pn.at_ pn.r pn.h0 fun j t a1 a2 a3 => ?_
    have hj : j ∉ own := fun hm => by
      rw [em3 j hm] at a1
      cases a1
      exact a2 rfl
    exact pn.fr j t a1 a2 (by rw [wipe_get hj]; exact a3)
section
variable {X : Cx} {pos : Pos}
theorem fe_lc {elt tg iter : Expr} {ifs : List Expr} {scope : Scope} {own : List (Str × Nat)} {src : Srx} {is : List Nat} {t : Tg} {k : Ts} {f : Ex} (hc : X.calm = true) (hN : X.N.Nodup) (hi : HI X tg iter src) (ok : BlkOk X.N X.env.scope scope own) (his : ∀ i ∈ is, i ∈ own.map (·.2))
    (hg : ∀ (s : Shared) (H : Hp) (A : Addr) (cl : List (Str × Addr)) (fp : List Addr), HG (X.blk s H scope (compEnvC scope cl A X.env) fp) tg is t)
    (ht : ∀ (s : Shared) (H : Hp) (A : Addr) (cl : List (Str × Addr)) (fp : List Addr), PTs (X.blk s H scope (compEnvC scope cl A X.env) fp) ifs (tTe X.K k))
    (he : ∀ (s : Shared) (H : Hp) (A : Addr) (cl : List (Str × Addr)) (fp : List Addr), HE (X.blk s H scope (compEnvC scope cl A X.env) fp) elt f) (hs : ∀ x, foldedSetIterable iter X.env x = pure x := by intro _; rfl) :
    FE X (.ListComp elt [⟨tg, iter, ifs, 0⟩] scope pos) (yLc (own.map (·.2)) src t k f) :=
  pe_mono (pe_lc hc hN hi ok hg ht he hs) fun σ H Q h => tLc_of his h
theorem hs_setLcO {i : Nat} {y : Str} {py spos : Pos} {elt tg iter : Expr} {ifs : List Expr} {scope : Scope} {own : List (Str × Nat)} {src : Srx} {is : List Nat} {t : Tg} {k : Ts} {f : Ex} (hc : X.calm = true) (hN : X.N.Nodup) (hy : X.N[i]? = some y) (hyl : X.env.scope.names.lookup y = some .local)
    (hsw : swapsWith (.ListComp elt [⟨tg, iter, ifs, 0⟩] scope pos) (some (.Name y py)) spos.line X.env = pure true) (hi : HI X tg iter src) (ok : BlkOk X.N X.env.scope scope own) (his : ∀ i ∈ is, i ∈ own.map (·.2))
    (hg : ∀ (s : Shared) (H : Hp) (A : Addr) (cl : List (Str × Addr)) (fp : List Addr), HG (X.blk s H scope (compEnvC scope cl A X.env) fp) tg is t)
    (ht : ∀ (s : Shared) (H : Hp) (A : Addr) (cl : List (Str × Addr)) (fp : List Addr), PTs (X.blk s H scope (compEnvC scope cl A X.env) fp) ifs (tTe X.K k))
    (he : ∀ (s : Shared) (H : Hp) (A : Addr) (cl : List (Str × Addr)) (fp : List Addr), HE (X.blk s H scope (compEnvC scope cl A X.env) fp) elt f) (hs : ∀ x, foldedSetIterable iter X.env x = pure x := by intro _; rfl) :
    HS X (.Assign [.Name y py] (.ListComp elt [⟨tg, iter, ifs, 0⟩] scope pos) spos) (sSetO i (yLc (own.map (·.2)) src t k f)) :=
  ps_mono (ps_setLc hc hN hy hyl hsw hi ok hg ht he hs) fun De σ H h => by
    obtain ⟨C, e, F, R, fl, e', q1, q2⟩ := setO_of h
    exact tLc_of his ⟨C, e, F, R, fl, e', q1, q2⟩
theorem hs_setLc {i : Nat} {y : Str} {py spos : Pos} {elt tg iter : Expr} {ifs : List Expr} {scope : Scope} {own : List (Str × Nat)} {src : Srx} {is : List Nat} {t : Tg} {k : Ts} {f : Ex} (hc : X.calm = true) (hN : X.N.Nodup) (hy : X.N[i]? = some y) (hyl : X.env.scope.names.lookup y = some .local)
    (hsw : swapsWith (.ListComp elt [⟨tg, iter, ifs, 0⟩] scope pos) (some (.Name y py)) spos.line X.env = pure true) (hi : HI X tg iter src) (ok : BlkOk X.N X.env.scope scope own) (his : ∀ i ∈ is, i ∈ own.map (·.2))
    (hg : ∀ (s : Shared) (H : Hp) (A : Addr) (cl : List (Str × Addr)) (fp : List Addr), HG (X.blk s H scope (compEnvC scope cl A X.env) fp) tg is t)
    (ht : ∀ (s : Shared) (H : Hp) (A : Addr) (cl : List (Str × Addr)) (fp : List Addr), PTs (X.blk s H scope (compEnvC scope cl A X.env) fp) ifs (tTe X.K k))
    (he : ∀ (s : Shared) (H : Hp) (A : Addr) (cl : List (Str × Addr)) (fp : List Addr), HE (X.blk s H scope (compEnvC scope cl A X.env) fp) elt f) (hs : ∀ x, foldedSetIterable iter X.env x = pure x := by intro _; rfl) :
    HS X (.Assign [.Name y py] (.ListComp elt [⟨tg, iter, ifs, 0⟩] scope pos) spos) (sSet i (xFz (yLc (own.map (·.2)) src t k f))) :=
  ps_mono (ps_setLc hc hN hy hyl hsw hi ok hg ht he hs) fun De σ H h => by
    obtain ⟨C, e, F, R, fl, e', q1, q2⟩ := set_of h
    exact tLc_of his (tFz_of ⟨C, e, F, R, fl, e', q1, q2⟩)
def sYes : Ts := fun e => some (true, e)
theorem hts_nil : PTs X [] (tTe X.K sYes) := ⟨fun pins s σ H Q I ⟨C, e, F, R, b, e', h1, h2⟩ => by
  cases h1
  exact pts_nil.run pins s σ H Q I (h2 F H R (.refl _))⟩
theorem hts_one {c : Expr} {t : Ts} (h : HT X c t) : PTs X [c] (tTe X.K t) := pts_one h
end
end DL
end
section
set_option maxRecDepth 100000
set_option maxHeartbeats 4000000
/-! DL, part 6: what loops walk; lists changed by their methods -/
namespace DL
open PySem PySem.Spec PyProof.Rows L2
section
variable {X : Cx} {tg e₁ : Expr} {pos : Pos}
theorem pi_or {w1 w2 : TI} (h1 : PI X tg e₁ w1) (h2 : PI X tg e₁ w2) : PI X tg e₁ (fun σ H R => w1 σ H R ∨ w2 σ H R) :=
  ⟨fun pins s σ H R I h => h.elim (h1.run pins s σ H R I) (h2.run pins s σ H R I)⟩
def seqD : D → Option (List D)
  | .list ds => some ds
  | .tuple ds => some ds
  | _ => none
def srcSeq (f : Ex) : Srx := fun e => bnd (f e) fun h e1 => bnd (esc h e1) fun d e2 => obn (seqD d) fun ds => some (ds.map Itm.v, e2)
theorem itOk_list {K : KF} {F : Hp} {a : Addr} {vs : List V} {ds : List D} (hF : F a = some (.lst vs)) (r : RpA K F vs ds) : ItOk K F (ds.map Itm.v) (Itl K a) := by
  intro C e σ F1 H1 s R i
  have hq : SqL K H1 a vs := .of (R.sub _ _ (s _ _ hF))
  refine ⟨fun h => ⟨vs, hq, by rw [List.length_map] at h; rw [r.length]; exact h⟩, fun it h => ?_⟩
  rw [List.getElem?_map] at h
  obtain ⟨d, h1, rfl⟩ := Option.map_eq_some_iff.mp h
  obtain ⟨v, h2, h3⟩ := r.get h1
  refine ⟨⟨vs, v, hq, h2⟩, fun x H' y => ?_⟩
  obtain ⟨rfl, y⟩ := y
  have ex := (y vs hq).symm.trans h2
  cases ex
  exact ⟨Grow.refl R.sub, h3.mono s⟩
theorem itOk_tup {K : KF} {F : Hp} {a : Addr} {vs : List V} {ds : List D} (hF : TupF F a vs) (r : RpA K F vs ds) : ItOk K F (ds.map Itm.v) (Itt K a) := by
  intro C e σ F1 H1 s R i
  have hq : SqT K H1 a vs := ((hF.mono s).mono R.sub).seq
  refine ⟨fun h => ⟨vs, hq, by rw [List.length_map] at h; rw [r.length]; exact h⟩, fun it h => ?_⟩
  rw [List.getElem?_map] at h
  obtain ⟨d, h1, rfl⟩ := Option.map_eq_some_iff.mp h
  obtain ⟨v, h2, h3⟩ := r.get h1
  refine ⟨⟨vs, v, hq, h2⟩, fun x H' y => ?_⟩
  obtain ⟨rfl, y⟩ := y
  have ex := (y vs hq).symm.trans h2
  cases ex
  exact ⟨Grow.refl R.sub, h3.mono s⟩
theorem hi_seq {f : Ex} (h : HE X e₁ f) : HI X tg e₁ (srcSeq f) := by
  refine pi_mono (pi_or (pi_list h) (pi_tup h)) fun σ H Q ⟨C, e, F, R, its, e', q1, q2⟩ => ?_
  obtain ⟨hd, e1, w1, w2⟩ := bnd_eq q1
  obtain ⟨d, e2, w3, w4⟩ := bnd_eq w2
  obtain ⟨ds, w5, w6⟩ := obn_eq w4
  cases w6
  cases d with
  | list xs =>
    cases w5
    refine .inl ⟨C, e, F, R, hd, e1, w1, fun v F1 H1 R1 s1 r1 => ?_⟩
    obtain ⟨F2, R2, s2, r2⟩ := r1.esc R1 w3
    cases r2 with
    | lst y1 y2 => exact ⟨_, rfl, ⟨_, .of (R2.sub _ _ y1)⟩, q2 _ F2 H1 R2 (s1.trans s2) (itOk_list y1 y2)⟩
  | tuple xs =>
    cases w5
    refine .inr ⟨C, e, F, R, hd, e1, w1, fun v F1 H1 R1 s1 r1 => ?_⟩
    obtain ⟨F2, R2, s2, r2⟩ := r1.esc R1 w3
    cases r2 with
    | tup y1 y2 => exact ⟨_, rfl, ⟨_, (y1.mono R2.sub).seq⟩, q2 _ F2 H1 R2 (s1.trans s2) (itOk_tup y1 y2)⟩
  | _ => cases w5
/-! ranges -/
def rgI (lo : Int) (n : Nat) : List Itm := (List.range n).map fun i : Nat => Itm.v (.int (lo + (i : Int)))
abbrev big : Int := 1000000000
def inB (j : Int) : Bool := decide (-big ≤ j) && decide (j ≤ big)
theorem inB_ok {j : Int} (h : inB j = true) : -(2 ^ 62) ≤ j ∧ j < 2 ^ 62 := by
  have h' := Bool.and_eq_true_iff.mp h
  have h1 := of_decide_eq_true h'.1
  have h2 := of_decide_eq_true h'.2
  have : (big : Int) = 1000000000 := rfl
  omega
def srcR1 (f : Ex) : Srx := fun e => bnd (f e) fun h e1 => obn (h.get e1) fun d => match d with
  | .int j => gd (inB j) (some (rgI 0 j.toNat, e1))
  | _ => none
def srcR2 (f g : Ex) : Srx := fun e => bnd (f e) fun h e1 => bnd (g e1) fun h' e2 => obn (h.get e2) fun d => obn (h'.get e2) fun d' => match d, d' with
  | .int i, .int j => gd (inB i && inB j) (some (rgI i (j - i).toNat, e2))
  | _, _ => none
theorem itOk_range {K : KF} {F : Hp} {lo : Int} {n : Nat} : ItOk K F (rgI lo n) (Itr lo n) := by
  intro C e σ F1 H1 s R i
  refine ⟨fun h => ?_, fun it h => ?_⟩
  · unfold rgI at h
    rw [List.length_map, List.length_range] at h
    exact h
  · unfold rgI at h
    rw [List.getElem?_map] at h
    obtain ⟨j, h1, rfl⟩ := Option.map_eq_some_iff.mp h
    obtain ⟨h2, h3⟩ := List.getElem?_eq_some_iff.mp h1
    rw [List.length_range] at h2
    rw [List.getElem_range] at h3
    subst h3
    refine ⟨h2, fun x H' y => ?_⟩
    obtain ⟨rfl, rfl⟩ := y
    exact ⟨Grow.refl R.sub, Rp.int _⟩
theorem RpT.int {K : KF} {F H : Hp} {v : V} {j : Int} (r : RpT K F H v (.int j)) : v = .int j := by
  rcases r with r | ⟨_, _, _, _, e, _⟩
  · cases r
    rfl
  · cases e
theorem hi_range1 {a : Expr} {f : Ex} {p : Pos} (hg : Gl X "range") (hm : X.mg "range" = none) (ha : HE X a f) (hs : starEach [a] X.env = [(false, eval a X.env)] := by rfl) : HI X tg (.Call (.Name "range" p) [a] [] pos) (srcR1 f) := by
  refine pi_mono (pi_range1 hg hm (pa_cons ha pa_nil (hs.trans rfl)) hs) fun σ H Q ⟨C, e, F, R, its, e', q1, q2⟩ => ?_
  obtain ⟨hd, e1, w1, w2⟩ := bnd_eq q1
  obtain ⟨d, w3, w4⟩ := obn_eq w2
  refine ⟨C, e, F, R, hd, e1, w1, fun v F1 H1 R1 s1 r1 => ?_⟩
  cases d with
  | int j =>
    obtain ⟨w5, w6⟩ := gd_eq (show gd (inB j) (some (rgI 0 j.toNat, e1)) = some (its, e') from w4)
    cases w6
    have ev := (r1.get R1 w3).int
    subst ev
    obtain ⟨b1, b2⟩ := inB_ok w5
    exact ⟨j, rfl, b1, b2, q2 _ F1 H1 R1 s1 itOk_range⟩
  | _ => cases w4
theorem hi_range2 {a b : Expr} {f g : Ex} {p : Pos} (hg : Gl X "range") (hm : X.mg "range" = none) (ha : HE X a f) (hb : HE X b g) (hs : starEach [a, b] X.env = [(false, eval a X.env), (false, eval b X.env)] := by rfl) (hs2 : starEach [b] X.env = [(false, eval b X.env)] := by rfl) :
    HI X tg (.Call (.Name "range" p) [a, b] [] pos) (srcR2 f g) := by
  refine pi_mono (pi_range2 hg hm (pa_cons ha (pa_cons hb pa_nil (hs2.trans rfl)) (by rw [hs, hs2])) hs hs2) fun σ H Q ⟨C, e, F, R, its, e', q1, q2⟩ => ?_
  obtain ⟨hd, e1, w1, w2⟩ := bnd_eq q1
  obtain ⟨hd', e2, w1', w2⟩ := bnd_eq w2
  obtain ⟨d, w3, w4⟩ := obn_eq w2
  obtain ⟨d', w3', w4⟩ := obn_eq w4
  refine ⟨C, e, F, R, hd, e1, w1, fun v F1 H1 R1 s1 r1 => ⟨C, e1, F1, R1, hd', e2, w1', fun v' F2 H2 R2 s2 r2 => ?_⟩⟩
  cases d with
  | int i =>
    cases d' with
    | int j =>
      obtain ⟨w5, w6⟩ := gd_eq (show gd (inB i && inB j) (some (rgI i (j - i).toNat, e2)) = some (its, e') from w4)
      cases w6
      have ev := ((r1.mono s2).get R2 w3).int
      have ev' := (r2.get R2 w3').int
      subst ev
      subst ev'
      obtain ⟨b1, b2⟩ := Bool.and_eq_true_iff.mp w5
      exact ⟨i, j, rfl, ⟨(inB_ok b1).1, (inB_ok b1).2, (inB_ok b2).1, (inB_ok b2).2⟩, q2 _ F2 H2 R2 (s1.trans s2) itOk_range⟩
    | _ => cases w4
  | _ => cases w4
end
/-! enumerate of a tuple -/
theorem meets_enumerate_newT (l : Addr) (items : Array Value) : Meets (Builtin.«enumerate.__new__» ⟨[.type "enumerate", .ref l], []⟩) (fun _ R s => s.heap.IsTuple l items ∧
      R (.ok (.ret (.ref (s.heap.push { cls := .type "tuple_iterator", data := .fields #[.ref l, .int 0 0] }).objs.size)))
        { s with heap := (s.heap.push { cls := .type "tuple_iterator", data := .fields #[.ref l, .int 0 0] }).push { cls := .type "enumerate", data := .fields #[.none, .bool false, .ref s.heap.objs.size, rawInt 0, .none, .none] } }) := by
  refine .of_wp fun prog w A R s h => ?_
  obtain ⟨h0, g0, d0, t0, o0⟩ := s
  obtain ⟨ht, h⟩ := h
  have hsub := sub_enumerate
  wp_walk
  refine wpAny_stack_any fun below => wpAny_pure ?_
  split
  · rename_i c _ _ _ _ _
    cases (c == Value.type "enumerate")
    · wp_walk using wpAny_pyIter_tuple ht
      exact ⟨_, rfl, h⟩
    · wp_walk using wpAny_pyIter_tuple ht
      exact ⟨_, rfl, h⟩
  · wp_walk using wpAny_pyIter_tuple ht
    exact ⟨_, rfl, h⟩
section
variable {prog : Program} {w : World} {A : Around} {E : Value → Shared → Prop} {s : Shared}
theorem call_enumerate_tuple {l : Addr} {items : Array Value} {Q : Value → Shared → Prop} (ht : s.heap.IsTuple l items)
    (h : ∀ h', IsEnum h' (s.heap.objs.size + 1) s.heap.objs.size 0 .none → h'.IsTupleIter s.heap.objs.size l 0 → h'.objs.size = s.heap.objs.size + 2 →
      (∀ b o, s.heap.get? b = some o → h'.get? b = some o) → Q (.ref (s.heap.objs.size + 1)) { s with heap := h' }) : wpAny (model prog w) A (call (.type "enumerate") [.ref l]) Q E s := by
  refine callType_new F.called_enumerate (by decide) (F.typeCall_enumerate_1 _) (F.newCall_enumerate_1 _) (fun ob => F.args_object_init_2 ob _) F.entry_enumerate_new (meets_enumerate_newT l items) ⟨ht, ?_⟩
  have z1 : (s.heap.push { cls := .type "tuple_iterator", data := .fields #[.ref l, .int 0 0] }).objs.size = s.heap.objs.size + 1 := Heap.size_push ..
  show _ ∧ _
  rw [z1]
  have en : IsEnum ((s.heap.push { cls := .type "tuple_iterator", data := .fields #[.ref l, .int 0 0] }).push
      { cls := .type "enumerate", data := .fields #[.none, .bool false, .ref s.heap.objs.size, rawInt 0, .none, .none] }) (s.heap.objs.size + 1) s.heap.objs.size 0 .none := by
    have q := Heap.get?_push_size (s.heap.push { cls := .type "tuple_iterator", data := .fields #[.ref l, .int 0 0] }) (o := { cls := .type "enumerate", data := .fields #[.none, .bool false, .ref s.heap.objs.size, rawInt 0, .none, .none] }) rfl
    rw [z1] at q
    exact q
  refine ⟨⟨_, en, rfl⟩, h _ en ⟨_, Heap.get?_push_of_some _ (Heap.get?_push_size _ rfl), rfl, rfl⟩ (by rw [Heap.size_push, z1]) fun b o q => Heap.get?_push_of_some _ (Heap.get?_push_of_some _ q)⟩
end
/-- the tuple at a, each item in a new pair with its place -/
def IteT (K : PySem.W.Frag) (a : Addr) (n : Nat) : It where
  go := fun i H => ∃ (xs : List V) (x : V), SqT K H a xs ∧ xs.length = n ∧ xs[i]? = some x
  yld := fun i H v H' => ∃ T x, v = .ref T ∧ H T = none ∧ H' = upd H T (.tup [.int (i : Nat), x]) ∧ ∀ xs, SqT K H a xs → xs[i]? = some x
  stop := fun i H => ∃ xs : List V, SqT K H a xs ∧ xs.length = n ∧ n ≤ i
theorem turn_enumT {P : Program} {w : World} {K : PySem.W.Frag} {elts : List Expr} {kk : Nat} {tpos : Pos} (a en it : Addr) (n : Nat) :
    Turn P w K (.Tuple elts kk tpos) (IteT K a n) [en, it] en (fun i h => (∃ old, IsEnum h en it ((i : Nat) : Int) old) ∧ h.IsTupleIter it a i ∧ en ≠ it ∧ a ≠ it ∧ a ≠ en ∧ i ≤ n) where
  mem := by simp
  obj := fun i h st b hb => by
    obtain ⟨⟨old, q1⟩, ⟨o, q2, q3, q4⟩, _⟩ := st
    rcases (show b = en ∨ b = it by simpa using hb) with z | z
    · subst z
      exact ⟨_, q1, fun v q => nomatch q⟩
    · subst z
      exact ⟨o, q2, fun v q => by rw [q4] at q; cases q⟩
  keep := fun i h h' st k => let ⟨⟨old, q1⟩, q2, q3, q4⟩ := st; ⟨⟨old, k en (by simp) _ q1⟩, q2.at fun o q => k it (by simp) o q, q3, q4⟩
  item := by
    intro X hP hw hK hc i pins s σ H E I hf st hg
    subst hP hw hK
    obtain ⟨⟨old, q1⟩, q2, q3, q4, q5, q6⟩ := st
    obtain ⟨xs, x, hq, hn, hx⟩ := hg
    obtain ⟨us, rv, ht, hz⟩ := I.tuple hq
    obtain ⟨u, hu, ru⟩ := rv.get hx
    have l1 : en < s.heap.objs.size := Heap.lt_size q1
    have l2 : it < s.heap.objs.size := by obtain ⟨_, q, _⟩ := q2; exact Heap.lt_size q
    have tup : s.heap.IsTuple a us.toArray := ht
    have hlt : i < us.toArray.size := by
      rw [List.size_toArray]
      exact (List.getElem?_eq_some_iff.mp hu).1
    refine wpAny_pyNext_enum_itemD (Draws.tuple (prog := X.prog) (w := X.w) (A := X.A.in1) (I.ok.hd hc) it a q4 us.toArray) q1 ⟨q2, tup⟩ hlt q3 (by simp [q3, Ne.symm q5]) fun y h' tk hy ho st' hT hsz hk => ?_
    have ey : y = u := by
      have z : us[i]? = some y := by simpa using hy
      rw [hu] at z
      exact (Option.some.inj z).symm
    subst ey
    refine ⟨_, rfl, wpAny_letOwnedTupleGo_enum (s := { s with heap := h', toks := tk + 1 }) ho fun h2 he2 sb => ?_⟩
    have hT2 := (sb.2 _ (Nat.ne_of_gt l1)).trans hT
    have new : ObjOk X.prog X.w (upd H s.heap.objs.size (.tup [.int (i : Nat), x])) h2 s.heap.objs.size (.tup [.int (i : Nat), x]) :=
      ⟨by show 2 ≤ sizeLine; decide, [.int i tk, y], .cons ⟨_, rfl⟩ (.cons ru .nil), ⟨_, hT2, rfl, _, rfl⟩⟩
    have I1 : Inv X pins σ (upd H s.heap.objs.size (.tup [.int (i : Nat), x])) { s with heap := h2, toks := tk + 1 } :=
      I.turnedNew (ch := [en, it]) (fun b ob hb q => (sb.2 b (fun z => hb (by simp [z]))).trans (hk b ob (fun z => hb (by simp [z])) (fun z => hb (by simp [z])) q)) hf (Nat.le_refl _) new
    refine ⟨.ref s.heap.objs.size, _, I1, rfl, ⟨_, x, rfl, I.hok.fresh (Nat.le_refl _), rfl, fun ys hy => by rw [I.tuple_inj hy hq]; exact hx⟩, ⟨⟨y, ?_⟩, st'.1.at fun o q => (sb.2 it (Ne.symm q3)).trans q, q3, q4, q5, by rw [← hn]; exact (List.getElem?_eq_some_iff.mp hx).1⟩, fun b hb => ?_⟩
    · have e1 : ((i + 1 : Nat) : Int) = (i : Int) + 1 := by omega
      rw [e1]
      exact he2
    · have hb' : b < s.heap.objs.size := by
        rcases (show b = en ∨ b = it by simpa using hb) with z | z
        · rw [z]
          exact l1
        · rw [z]
          exact l2
      rw [upd_ne (Nat.ne_of_lt hb')]
      exact (hf b hb).1
  done := by
    intro X hP hw hK hc i pins s σ H E I hf st hg
    subst hP hw hK
    obtain ⟨⟨old, q1⟩, q2, q3, q4, q5, q6⟩ := st
    obtain ⟨xs, hq, hn, hx⟩ := hg
    obtain ⟨us, rv, ht, hz⟩ := I.tuple hq
    obtain ⟨f0, f1, f2, f3, f4, f5⟩ := hf it (by simp)
    have ei : i = us.toArray.size := by
      rw [List.size_toArray, ← rv.length, hn]
      omega
    have st0 : s.heap.IsTupleIter it a us.toArray.size := by
      rw [← ei]
      exact q2
    exact wpAny_pyNext_enum_endD (Draws.tuple (prog := X.prog) (w := X.w) (A := X.A.in1) (I.ok.hd hc) it a q4 us.toArray) q1 ⟨st0, ht⟩ fun h' eb => ⟨rfl, I.turned (t' := s.toks) (fun b o hb q => eb b o hb q) f0 f1 f3 f4 f5⟩
  self := fun A i s Q E st h => let ⟨⟨_, q⟩, _⟩ := st; wpAny_pyIter_enum q h
def iEnumT (K : PySem.W.Frag) (ta : TA) : TI := fun σ H R => ta σ H fun vs H1 => ∃ a xs, vs = [.ref a] ∧ SqT K H1 a xs ∧ R (IteT K a xs.length) H1
theorem pi_enumT {X : Cx} {e : Expr} {ta : TA} {p pos tpos : Pos} {elts : List Expr} {kk : Nat} (hg : Gl X "enumerate") (hm : X.mg "enumerate" = none) (ha : PA X [e] ta) (hs : starEach [e] X.env = [(false, eval e X.env)] := by rfl) :
    PI X (.Tuple elts kk tpos) (.Call (.Name "enumerate" p) [e] [] pos) (iEnumT X.K ta) := by
  constructor
  intro pins s σ H R I h
  refine Call_ (ld_blt I hg hm boot_enumerate (PyProof.Rows.callWith_type1 (thn (ha.run pos pins s σ H _ I h) ?_) hs rfl))
  rintro us s1 ⟨vs, H1, I1, r1, a, xs, rfl, hq, q⟩
  cases r1 with
  | cons r rr =>
    cases rr
    cases r
    obtain ⟨ws, rv, ht, hz⟩ := I1.tuple hq
    have la : a < s1.heap.objs.size := by obtain ⟨o, e1, _⟩ := ht; exact Heap.lt_size e1
    refine call_enumerate_tuple (show s1.heap.IsTuple a ws.toArray from ht) fun h' h1 h2 h3 h4 => wpAny_pyIter_enum h1 ?_
    have I2 : Inv X pins σ H1 { s1 with heap := h' } := I1.kept (t' := s1.toks) h4
    refine ⟨s1.heap.objs.size + 1, [s1.heap.objs.size + 1, s1.heap.objs.size], _, _, H1, rfl, I2, turn_enumT a (s1.heap.objs.size + 1) s1.heap.objs.size xs.length, ⟨⟨.none, h1⟩, h2, Nat.succ_ne_self _, Nat.ne_of_lt la, Nat.ne_of_lt (Nat.lt_succ_of_lt la), Nat.zero_le _⟩, fun b hb => ?_, q⟩
    have lb : s1.heap.objs.size ≤ b := by
      rcases (show b = s1.heap.objs.size + 1 ∨ b = s1.heap.objs.size by simpa using hb) with z | z
      · rw [z]
        exact Nat.le_add_right _ _
      · rw [z]
        exact Nat.le_refl _
    exact I1.fpOk lb (I1.hok.fresh lb)

/-! enumerate, zip -/
section
variable {X : Cx} {pos : Pos}
def prs (xs ys : List D) : List Itm := List.zipWith Itm.p xs ys
def srcEn (f : Ex) : Srx := fun e => bnd (f e) fun h e1 => bnd (esc h e1) fun d e2 => obn (seqD d) fun ds => some (prs ((List.range ds.length).map fun i : Nat => PyData.int (i : Int)) ds, e2)
theorem prs_get {xs ys : List D} {i : Nat} {it : Itm} (h : (prs xs ys)[i]? = some it) : ∃ x y, xs[i]? = some x ∧ ys[i]? = some y ∧ it = .p x y := by
  unfold prs at h
  rw [List.getElem?_zipWith] at h
  split at h
  · rename_i x y h1 h2
    cases h
    exact ⟨x, y, h1, h2, rfl⟩
  · cases h
theorem prs_len (xs ys : List D) : (prs xs ys).length = min xs.length ys.length := List.length_zipWith
theorem en_get {n i : Nat} {x : D} (h : ((List.range n).map fun i : Nat => PyData.int (i : Int))[i]? = some x) : x = .int (i : Int) := by
  rw [List.getElem?_map] at h
  obtain ⟨j, h1, rfl⟩ := Option.map_eq_some_iff.mp h
  obtain ⟨h2, h3⟩ := List.getElem?_eq_some_iff.mp h1
  rw [List.getElem_range] at h3
  rw [h3]
theorem itOk_en {K : KF} {F : Hp} {a : Addr} {vs : List V} {ds : List D} (hF : F a = some (.lst vs)) (r : RpA K F vs ds) : ItOk K F (prs ((List.range ds.length).map fun i : Nat => PyData.int (i : Int)) ds) (Ite K a) := by
  intro C e σ F1 H1 s R i
  have hq : SqL K H1 a vs := .of (R.sub _ _ (s _ _ hF))
  refine ⟨fun h => ⟨vs, hq, ?_⟩, fun it h => ?_⟩
  · rw [prs_len, List.length_map, List.length_range, Nat.min_self] at h
    rw [r.length]
    exact h
  obtain ⟨x, y, h1, h2, rfl⟩ := prs_get h
  have ex := en_get h1
  subst ex
  obtain ⟨v, h3, h4⟩ := r.get h2
  refine ⟨⟨vs, v, hq, h3⟩, fun z H' y => ?_⟩
  obtain ⟨T, x, rfl, hT, rfl, y⟩ := y
  have ex := (y vs hq).symm.trans h3
  cases ex
  exact ⟨Grow.idle R.sub hT, T, _, _, rfl, .of upd_same, .int _, h4.mono s⟩
theorem itOk_enT {K : KF} {F : Hp} {a : Addr} {vs : List V} {ds : List D} (hF : TupF F a vs) (r : RpA K F vs ds) : ItOk K F (prs ((List.range ds.length).map fun i : Nat => PyData.int (i : Int)) ds) (IteT K a vs.length) := by
  intro C e σ F1 H1 s R i
  have hq : SqT K H1 a vs := ((hF.mono s).mono R.sub).seq
  refine ⟨fun h => ⟨vs, hq, rfl, ?_⟩, fun it h => ?_⟩
  · rw [prs_len, List.length_map, List.length_range, Nat.min_self] at h
    rw [r.length]
    exact h
  obtain ⟨x, y, h1, h2, rfl⟩ := prs_get h
  have ex := en_get h1
  subst ex
  obtain ⟨v, h3, h4⟩ := r.get h2
  refine ⟨⟨vs, v, hq, rfl, h3⟩, fun z H' y => ?_⟩
  obtain ⟨T, x, rfl, hT, rfl, y⟩ := y
  have ex := (y vs hq).symm.trans h3
  cases ex
  exact ⟨Grow.idle R.sub hT, T, _, _, rfl, .of upd_same, .int _, h4.mono s⟩
theorem hi_enum {a : Expr} {f : Ex} {p tpos : Pos} {elts : List Expr} {kk : Nat} (hg : Gl X "enumerate") (hm : X.mg "enumerate" = none) (ha : HE X a f) (hs : starEach [a] X.env = [(false, eval a X.env)] := by rfl) :
    HI X (.Tuple elts kk tpos) (.Call (.Name "enumerate" p) [a] [] pos) (srcEn f) := by
  have pa : PA X [a] (tCons (tH X.K f) tNil) := pa_cons ha pa_nil (hs.trans rfl)
  refine pi_mono (pi_or (pi_enum hg hm pa hs) (pi_enumT hg hm pa hs)) fun σ H Q ⟨C, e, F, R, its, e', q1, q2⟩ => ?_
  obtain ⟨hd, e1, w1, w2⟩ := bnd_eq q1
  obtain ⟨d, e2, w3, w4⟩ := bnd_eq w2
  obtain ⟨ds, w5, w6⟩ := obn_eq w4
  cases w6
  cases d with
  | list xs =>
    cases w5
    refine .inl ⟨C, e, F, R, hd, e1, w1, fun v F1 H1 R1 s1 r1 => ?_⟩
    obtain ⟨F2, R2, s2, r2⟩ := r1.esc R1 w3
    cases r2 with
    | lst y1 y2 => exact ⟨_, _, rfl, .of (R2.sub _ _ y1), q2 _ F2 H1 R2 (s1.trans s2) (itOk_en y1 y2)⟩
  | tuple xs =>
    cases w5
    refine .inr ⟨C, e, F, R, hd, e1, w1, fun v F1 H1 R1 s1 r1 => ?_⟩
    obtain ⟨F2, R2, s2, r2⟩ := r1.esc R1 w3
    cases r2 with
    | tup y1 y2 => exact ⟨_, _, rfl, (y1.mono R2.sub).seq, q2 _ F2 H1 R2 (s1.trans s2) (itOk_enT y1 y2)⟩
  | _ => cases w5
def srcZip (f g : Ex) : Srx := fun e => bnd (f e) fun h e1 => bnd (g e1) fun h' e2 => bnd (esc h e2) fun d e3 => bnd (esc h' e3) fun d' e4 => match d, d' with
  | .list xs, .list ys => some (prs xs ys, e4)
  | .tuple xs, .tuple ys => some (prs xs ys, e4)
  | _, _ => none
theorem itOk_zip {K : KF} {F : Hp} {a b : Addr} {vs us : List V} {xs ys : List D} (hF : F a = some (.lst vs)) (r : RpA K F vs xs) (hG : F b = some (.lst us)) (r' : RpA K F us ys) : ItOk K F (prs xs ys) (Itz K a b) := by
  intro C e σ F1 H1 s R i
  have hq : SqL K H1 a vs := .of (R.sub _ _ (s _ _ hF))
  have hq' : SqL K H1 b us := .of (R.sub _ _ (s _ _ hG))
  refine ⟨fun h => ⟨vs, us, hq, hq', ?_⟩, fun it h => ?_⟩
  · rw [prs_len] at h
    rw [r.length, r'.length]
    omega
  obtain ⟨x, y, h1, h2, rfl⟩ := prs_get h
  obtain ⟨v, h3, h4⟩ := r.get h1
  obtain ⟨v', h3', h4'⟩ := r'.get h2
  refine ⟨⟨vs, us, v, v', hq, hq', h3, h3'⟩, fun z H' y => ?_⟩
  obtain ⟨T, x, x', rfl, hT, rfl, y, y'⟩ := y
  have ex := (y vs hq).symm.trans h3
  cases ex
  have ex := (y' us hq').symm.trans h3'
  cases ex
  exact ⟨Grow.idle R.sub hT, T, _, _, rfl, .of upd_same, h4.mono s, h4'.mono s⟩
theorem itOk_zipT {K : KF} {F : Hp} {a b : Addr} {vs us : List V} {xs ys : List D} (hF : TupF F a vs) (r : RpA K F vs xs) (hG : TupF F b us) (r' : RpA K F us ys) : ItOk K F (prs xs ys) (RZ.ItzT K a b) := by
  intro C e σ F1 H1 s R i
  have hq : SqT K H1 a vs := ((hF.mono s).mono R.sub).seq
  have hq' : SqT K H1 b us := ((hG.mono s).mono R.sub).seq
  refine ⟨fun h => ⟨vs, us, hq, hq', ?_⟩, fun it h => ?_⟩
  · rw [prs_len] at h
    rw [r.length, r'.length]
    omega
  obtain ⟨x, y, h1, h2, rfl⟩ := prs_get h
  obtain ⟨v, h3, h4⟩ := r.get h1
  obtain ⟨v', h3', h4'⟩ := r'.get h2
  refine ⟨⟨vs, us, v, v', hq, hq', h3, h3'⟩, fun z H' y => ?_⟩
  obtain ⟨T, x, x', rfl, hT, rfl, y, y'⟩ := y
  have ex := (y vs hq).symm.trans h3
  cases ex
  have ex := (y' us hq').symm.trans h3'
  cases ex
  exact ⟨Grow.idle R.sub hT, T, _, _, rfl, .of upd_same, h4.mono s, h4'.mono s⟩
theorem hi_zip {a b : Expr} {f g : Ex} {p tpos : Pos} {elts : List Expr} {kk : Nat} (hg : Gl X "zip") (hm : X.mg "zip" = none) (ha : HE X a f) (hb : HE X b g)
    (hs : starEach [a, b] X.env = (false, eval a X.env) :: starEach [b] X.env := by rfl) (hs2 : starEach [b] X.env = (false, eval b X.env) :: starEach [] X.env := by rfl) (hpl : (backTo pos (starEach [b] X.env)).any (·.1) = false := by rfl) :
    HI X (.Tuple elts kk tpos) (.Call (.Name "zip" p) [a, b] [] pos) (srcZip f g) := by
  refine pi_mono (RZ.pi_zipA hg hm (pa_cons ha (pa_cons hb pa_nil hs2) hs) hs hpl) fun σ H Q ⟨C, e, F, R, its, e', q1, q2⟩ => ?_
  obtain ⟨h1, e1, w1, q1⟩ := bnd_eq q1
  obtain ⟨h2, e2, w2, q1⟩ := bnd_eq q1
  obtain ⟨d, e3, w3, q1⟩ := bnd_eq q1
  obtain ⟨d', e4, w4, q1⟩ := bnd_eq q1
  refine ⟨C, e, F, R, h1, e1, w1, fun v F1 H1 R1 s1 r1 => ⟨C, e1, F1, R1, h2, e2, w2, fun v' F2 H2 R2 s2 r2 => ?_⟩⟩
  obtain ⟨F3, R3, s3, r3⟩ := (r1.mono s2).esc R2 w3
  obtain ⟨F4, R4, s4, r4⟩ := (r2.mono s3).esc R3 w4
  have r3 := r3.mono s4
  cases d with
  | list xs =>
    cases d' with
    | list ys =>
      cases q1
      cases r3 with
      | lst y1 y2 => cases r4 with
        | lst y3 y4 => exact ⟨_, _, _, _, rfl, .inl ⟨.of (R4.sub _ _ y1), .of (R4.sub _ _ y3), q2 _ F4 H2 R4 (s1.trans (s2.trans (s3.trans s4))) (itOk_zip y1 y2 y3 y4)⟩⟩
    | _ => cases q1
  | tuple xs =>
    cases d' with
    | tuple ys =>
      cases q1
      cases r3 with
      | tup y1 y2 => cases r4 with
        | tup y3 y4 => exact ⟨_, _, _, _, rfl, .inr ⟨(y1.mono R4.sub).seq, (y3.mono R4.sub).seq, q2 _ F4 H2 R4 (s1.trans (s2.trans (s3.trans s4))) (itOk_zipT y1 y2 y3 y4)⟩⟩
    | _ => cases q1
  | _ => cases q1
end

/-! ### a list of one's own, changed by its methods -/
section
variable {X : Cx} {a : Expr} {f : Ex} {pos cpos apos : Pos} {i : Nat} {x : Str} {p : Pos}
theorem own_ty {K : KF} {C : CTX} {e : En} {σ : St} {F H : Hp} (R : Rel K C e σ F H) (h : hasC i e = true) : ∃ b vs, σ[i]? = some (some (V.ref b)) ∧ H b = some (.lst vs) ∧ tyV K "list" (.ref b) H := by
  unfold hasC at h
  split at h
  · rename_i s h1
    obtain ⟨xs, h2⟩ := Option.isSome_iff_exists.mp h
    obtain ⟨b, vs, q1, _, q3, _⟩ := R.own i xs s h1 h2
    exact ⟨b, vs, q1, q3, .inl ⟨rfl, vs, .of q3⟩⟩
  · cases h
def sApp (i : Nat) (f : Ex) : Sx := fun e => gd (hasC i e) (bnd (f e) fun h e1 => bnd (esc h e1) fun d e2 => obn (updS i (fun xs => gd (decide (xs.length < lim)) (some (xs ++ [d]))) e2) fun e3 => some (.nx, e3))
theorem hs_append (h : PE X (.Name x p) (tVar i)) (ha : HE X a f) (hbase : attributeBase (.Name x p) "append" X.env (eval (.Name x p) X.env) = eval (.Name x p) X.env := by rfl)
    (hfew : ((backTo cpos (starEach [a] X.env)).all (fun x => !x.1) && (backToKw cpos (keywordEach [] X.env)).all (fun x => x.1.isSome)
      && decide ([a].length + ([] : List Keyword).length + (if ([] : List Keyword).isEmpty then 0 else 1) < 30)) = true := by rfl)
    (hline : (apos.endLine == cpos.line) = true := by rfl) (hs : starEach [a] X.env = (false, eval a X.env) :: starEach [] X.env := by rfl) (hplain : (backTo cpos (starEach [] X.env)).any (·.1) = false := by rfl)
    (hsw : swapsWith (.Call (.Attribute (.Name x p) "append" apos) [a] [] cpos) none pos.line X.env = pure false := by rfl) :
    HS X (.Expr (.Call (.Attribute (.Name x p) "append" apos) [a] [] cpos) pos) (sApp i f) := by
  refine ps_mono (ps_expr (pe_bm PySem.F.plainAttrs_list PySem.F.slot_list_append PySem.F.type_list_append mt_append h (pa_cons ha pa_nil hs) hbase hfew hline hs hplain) hsw) fun De σ H ⟨C, e, F, R, fl, e', q1, q2⟩ => ?_
  obtain ⟨w0, q1⟩ := gd_eq q1
  obtain ⟨hd, e1, w1, q1⟩ := bnd_eq q1
  obtain ⟨d, e2, w2, q1⟩ := bnd_eq q1
  obtain ⟨e3, w3, w4⟩ := obn_eq q1
  cases w4
  obtain ⟨b, vs, y1, y2, y3⟩ := own_ty R w0
  refine ⟨_, y1, y3, C, e, F, R, hd, e1, w1, fun v F1 H1 R1 s1 r1 => ?_⟩
  obtain ⟨F2, R2, s2, r2⟩ := r1.esc R1 w2
  obtain ⟨b', ws, xs, ys, z1, z2, z3, z4, z5⟩ := updS_eq R2 w3
  rw [y1] at z1
  cases z1
  obtain ⟨z6, z7⟩ := gd_eq z4
  cases z7
  refine ⟨b, ws, v, rfl, rfl, z2, by rw [z3.length]; exact Nat.lt_of_lt_of_le (of_decide_eq_true z6) (lim_ok (Nat.le_refl _)), ?_⟩
  exact q2 σ F2 _ (z5 _ (z3.append (.cons r2 .nil))) (s1.trans s2)
def listD : D → Option (List D)
  | .list ds => some ds
  | _ => none
theorem RpT.list {K : KF} {F H : Hp} {v : V} {ds : List D} (s : Same F H) (r : RpT K F H v (.list ds)) : ∃ b vs, v = .ref b ∧ H b = some (.lst vs) ∧ RpA K F vs ds := by
  rcases r with r | ⟨b, vs, xs, e1, e2, h1, h2⟩
  · cases r with
    | lst h1 h2 => exact ⟨_, _, rfl, s _ _ h1, h2⟩
  · cases e2
    exact ⟨b, vs, e1, h1, h2⟩
theorem RpT.tuple {K : KF} {F H : Hp} {v : V} {ds : List D} (s : Same F H) (r : RpT K F H v (.tuple ds)) : ∃ b vs, v = .ref b ∧ TupF H b vs ∧ RpA K F vs ds := by
  rcases r with r | ⟨b, vs, xs, e1, e2, h1, h2⟩
  · cases r with
    | tup h1 h2 => exact ⟨_, _, rfl, h1.mono s, h2⟩
  · cases e2
def sExt (i : Nat) (f : Ex) : Sx := fun e => gd (hasC i e) (bnd (f e) fun h e1 => obn (h.get e1) fun d => obn (listD d) fun ds => obn (updS i (fun xs => gd (decide (xs.length + ds.length ≤ lim)) (some (xs ++ ds))) e1) fun e3 => some (.nx, e3))
theorem hs_extend (h : PE X (.Name x p) (tVar i)) (ha : HE X a f) (hbase : attributeBase (.Name x p) "extend" X.env (eval (.Name x p) X.env) = eval (.Name x p) X.env := by rfl)
    (hfew : ((backTo cpos (starEach [a] X.env)).all (fun x => !x.1) && (backToKw cpos (keywordEach [] X.env)).all (fun x => x.1.isSome)
      && decide ([a].length + ([] : List Keyword).length + (if ([] : List Keyword).isEmpty then 0 else 1) < 30)) = true := by rfl)
    (hline : (apos.endLine == cpos.line) = true := by rfl) (hs : starEach [a] X.env = (false, eval a X.env) :: starEach [] X.env := by rfl) (hplain : (backTo cpos (starEach [] X.env)).any (·.1) = false := by rfl)
    (hsw : swapsWith (.Call (.Attribute (.Name x p) "extend" apos) [a] [] cpos) none pos.line X.env = pure false := by rfl) :
    HS X (.Expr (.Call (.Attribute (.Name x p) "extend" apos) [a] [] cpos) pos) (sExt i f) := by
  refine ps_mono (ps_expr (pe_bm PySem.F.plainAttrs_list PySem.F.slot_list_extend PySem.F.type_list_extend mt_extend h (pa_cons ha pa_nil hs) hbase hfew hline hs hplain) hsw) fun De σ H ⟨C, e, F, R, fl, e', q1, q2⟩ => ?_
  obtain ⟨w0, q1⟩ := gd_eq q1
  obtain ⟨hd, e1, w1, q1⟩ := bnd_eq q1
  obtain ⟨d, w2, q1⟩ := obn_eq q1
  obtain ⟨ds, w5, q1⟩ := obn_eq q1
  obtain ⟨e3, w3, w4⟩ := obn_eq q1
  cases w4
  obtain ⟨b, vs, y1, y2, y3⟩ := own_ty R w0
  refine ⟨_, y1, y3, C, e, F, R, hd, e1, w1, fun v F1 H1 R1 s1 r1 => ?_⟩
  cases d with
  | list zs =>
    cases w5
    obtain ⟨b2, us, rfl, x1, x2⟩ := (r1.get R1 w2).list R1.sub
    obtain ⟨b', ws, xs, ys, z1, z2, z3, z4, z5⟩ := updS_eq R1 w3
    rw [y1] at z1
    cases z1
    obtain ⟨z6, z7⟩ := gd_eq z4
    cases z7
    refine ⟨b, b2, ws, us, rfl, rfl, z2, x1, by rw [z3.length, x2.length]; exact lim_ok (of_decide_eq_true z6), ?_⟩
    exact q2 σ F1 _ (z5 _ (z3.append x2)) s1
  | _ => cases w5
/-- pop at a place, as a value -/
def popI (xs : List D) (j : Int) : Option (D × List D) := obn (ixN xs.length j) fun m => obn xs[m]? fun d => some (d, xs.eraseIdx m)
def popS (i : Nat) (j : Int) (e : En) : Option (D × En) := match e[i]? with
  | some (.ow xs) => obn (popI xs j) fun r => some (r.1, e.set i (.ow r.2))
  | some (.io xs) => obn (popI xs j) fun r => some (r.1, e.set i (.io r.2))
  | _ => none
theorem popI_eq {xs : List D} {j : Int} {r : D × List D} (h : popI xs j = some r) : ∃ m, ixN xs.length j = some m ∧ xs[m]? = some r.1 ∧ r.2 = xs.eraseIdx m := by
  obtain ⟨m, h1, h2⟩ := obn_eq h
  obtain ⟨d, h3, h4⟩ := obn_eq h2
  cases h4
  exact ⟨m, h1, h3, rfl⟩
theorem popS_eq {K : KF} {C : CTX} {σ : St} {F H : Hp} {j : Int} {d : D} {e e' : En} (R : Rel K C e σ F H) (h : popS i j e = some (d, e')) :
    ∃ a vs xs m, σ[i]? = some (some (V.ref a)) ∧ H a = some (.lst vs) ∧ RpA K F vs xs ∧ ixN xs.length j = some m ∧ xs[m]? = some d ∧ Rel K C e' σ F (upd H a (.lst (vs.eraseIdx m))) := by
  unfold popS at h
  split at h
  · rename_i xs h1
    obtain ⟨r, h2, h3⟩ := obn_eq h
    cases h3
    obtain ⟨m, h4, h5, h6⟩ := popI_eq h2
    obtain ⟨b, vs, q1, q2, q3, q4, q5⟩ := R.own i xs _ h1 rfl
    refine ⟨b, vs, xs, m, q1, q3, q4, h4, h5, R.change h1 rfl q1 ?_ rfl fun zs z => nomatch z⟩
    rw [h6]
    exact q4.eraseIdx m
  · rename_i xs h1
    obtain ⟨r, h2, h3⟩ := obn_eq h
    cases h3
    obtain ⟨m, h4, h5, h6⟩ := popI_eq h2
    obtain ⟨b, vs, q1, q2, q3, q4, q5⟩ := R.own i xs _ h1 rfl
    refine ⟨b, vs, xs, m, q1, q3, q4, h4, h5, R.change h1 rfl q1 ?_ rfl fun zs z => ⟨_, rfl⟩⟩
    rw [h6]
    exact q4.eraseIdx m
  · cases h
def xPop (i : Nat) (f : Ex) : Ex := fun e => gd (hasC i e) (bnd (f e) fun h e1 => obn (h.get e1) fun k => match k with
  | .int j => gd (inB j) (bnd (popS i j e1) fun d e2 => some (.val d, e2))
  | _ => none)
theorem he_pop (h : PE X (.Name x p) (tVar i)) (ha : HE X a f) (hbase : attributeBase (.Name x p) "pop" X.env (eval (.Name x p) X.env) = eval (.Name x p) X.env := by rfl)
    (hfew : ((backTo cpos (starEach [a] X.env)).all (fun x => !x.1) && (backToKw cpos (keywordEach [] X.env)).all (fun x => x.1.isSome)
      && decide ([a].length + ([] : List Keyword).length + (if ([] : List Keyword).isEmpty then 0 else 1) < 30)) = true := by rfl)
    (hline : (apos.endLine == cpos.line) = true := by rfl) (hs : starEach [a] X.env = (false, eval a X.env) :: starEach [] X.env := by rfl) (hplain : (backTo cpos (starEach [] X.env)).any (·.1) = false := by rfl) :
    HE X (.Call (.Attribute (.Name x p) "pop" apos) [a] [] cpos) (xPop i f) := by
  refine pe_mono (pe_bm PySem.F.plainAttrs_list PySem.F.slot_list_pop PySem.F.type_list_pop mt_popAt h (pa_cons ha pa_nil hs) hbase hfew hline hs hplain) fun σ H Q ⟨C, e, F, R, hd', e', q1, q2⟩ => ?_
  obtain ⟨w0, q1⟩ := gd_eq q1
  obtain ⟨hd, e1, w1, q1⟩ := bnd_eq q1
  obtain ⟨k, w2, q1⟩ := obn_eq q1
  obtain ⟨b, vs, y1, y2, y3⟩ := own_ty R w0
  refine ⟨_, y1, y3, C, e, F, R, hd, e1, w1, fun v F1 H1 R1 s1 r1 => ?_⟩
  cases k with
  | int j =>
    obtain ⟨wb, q1⟩ := gd_eq (show gd (inB j) (bnd (popS i j e1) fun d e2 => some (Hd.val d, e2)) = some (hd', e') from q1)
    obtain ⟨d, e2, w5, w6⟩ := bnd_eq q1
    cases w6
    have ev := (r1.get R1 w2).int
    subst ev
    obtain ⟨b', ws, xs, m, z1, z2, z3, z4, z5, z6⟩ := popS_eq R1 w5
    rw [y1] at z1
    cases z1
    obtain ⟨y, x1, x2⟩ := z3.get z5
    obtain ⟨n1, n2, n3, n4⟩ := ixN_seq z4
    obtain ⟨b1, b2⟩ := inB_ok wb
    exact ⟨b, ws, j, m, y, rfl, rfl, z2, by omega, by omega, by rw [z3.length]; exact n1, x1, q2 y F1 _ z6 s1 x2⟩
  | _ => cases q1
end
end DL
end
section
set_option maxRecDepth 100000
set_option maxHeartbeats 4000000
/-! DL, part 7: defs and their calls; the law's own call -/
namespace DL
open PySem PySem.Spec PyProof.Rows L2

/-! ### a def that is called where no repr and no sort runs -/
structure FnG (P : Program) (w : World) (K : KF) (mg : Str → Option Value) (base : Heap) (CX : CXT) (k : Nat) (f : Addr) (fd : FuncData) (ps : List Str) (sp : Sp) : Prop where
  len : ∀ vs H Q E, sp vs H Q E → vs.length = ps.length
  run : ∀ (A : Around) (outer : List Env) (s : Shared) (H : Hp) (args : Args) (us : List Value) (vs : List V) (Q : VK) (E : XK), Room k A → A.guards = some [] → Env0 P w K mg base A outer s H → BindsTo s fd args (ps.zip us) →
    Vals vs us → sp vs H Q E → codeAny (model P w) A (.call (.ref f) args) (CR CX outer P w H s Q E) s
theorem FnG.mono {P : Program} {w : World} {K : KF} {mg : Str → Option Value} {base : Heap} {CX : CXT} {j k : Nat} {f : Addr} {fd : FuncData} {ps : List Str} {sp : Sp} (F : FnG P w K mg base CX j f fd ps sp) (h : j ≤ k) : FnG P w K mg base CX k f fd ps sp :=
  ⟨F.len, fun A outer s H args us vs Q E r => F.run A outer s H args us vs Q E (r.mono h)⟩
theorem FnG.imp {P : Program} {w : World} {K : KF} {mg : Str → Option Value} {base : Heap} {CX : CXT} {k : Nat} {f : Addr} {fd : FuncData} {ps : List Str} {sp sp' : Sp} (F : FnG P w K mg base CX k f fd ps sp) (h : ∀ vs H Q E, sp' vs H Q E → sp vs H Q E) :
    FnG P w K mg base CX k f fd ps sp' :=
  ⟨fun vs H Q E q => F.len vs H Q E (h _ _ _ _ q), fun A outer s H args us vs Q E r g e b v q => F.run A outer s H args us vs Q E r g e b v (h _ _ _ _ q)⟩
theorem fn_ofG {CX : CXT} {P : Program} {w : World} {K : KF} {mg : Str → Option Value} {base : Heap} {k : Nat} {f : Addr} {name qual : Str} {params : Arguments} {body : List Stmt} {scope : Scope} {dV kV doc pm cdv ct oc : Value} {an od : Option Addr}
    {osl : Array (Option Value)} {N ps : List Str} {sp : Sp} (lk : K.lookup f = some ⟨oc, od, .func (PySem.W.fnOf name qual params body scope dV kV doc pm an cdv ct), osl⟩) (hcd : PySem.W.codeIn K cdv qual = true) (S : FnScope N ps scope)
    (len : ∀ vs H Q E, sp vs H Q E → vs.length = ps.length)
    (body_ok : ∀ (A : Around) (outer : List Env) (s : Shared) (H : Hp) (vs : List V) (Q : VK) (E : XK), Room k (A.deeper (envOfC qual scope s.heap.objs.size f cdv)) → A.guards = some [] → sp vs H Q E →
      ∃ t, PSs (cxOf CX P w K mg base N qual scope f cdv A outer s H E) body t ∧ t { nx := fun _ H' => Q .non H', rt := Q } (L2.start N vs) H) :
    FnG P w K mg base CX (k + 1) f (PySem.W.fnOf name qual params body scope dV kV doc pm an cdv ct) ps sp := by
  constructor
  · exact len
  intro A outer s H args us vs Q E room gu en0 bi rv q
  have inK : K.In s.heap := en0.mod.kin.keeps fun b o z => (en0.bs b o z).1
  have kinds : ∀ y ∈ ps.zip us, scope.names.lookup y.1 = some .local ∨ (scope.names.lookup y.1 = some .cell ∧ ((cellsFrom (s.heap.objs.size + 1) scope.names []).lookup y.1).isSome = true) := by
    rintro ⟨n, v⟩ hy
    rcases S.par n (List.of_mem_zip hy).1 with z | z
    · exact Or.inl z
    · exact Or.inr ⟨z, PySem.W.cellsFrom_some _ _ _ (Or.inl z)⟩
  refine codeAny_call_function room.depth (inK _ _ lk) rfl S.co S.gen rfl (PySem.W.codeRec_of inK hcd) (bi _ _ _ _ (wpAny_newFunctionEnv_cells S.kind kinds ?_))
  rintro env rfl s1 x
  have nl : s.heap.NoLimit := en0.mod.nolimit.keeps fun b o z => (en0.bs b o z).1
  refine ⟨nl.keeps x.toInCall.keep, codeAny_func ?_⟩
  obtain ⟨t, ht, hq⟩ := body_ok A outer s H vs Q E (room.deeper _) gu q
  have I0 := inv_start (CX := CX) (P := P) (E := E) S room.hd en0 (len _ _ _ _ q) rv x
  refine wpAny_mono (ht.run [] s1 (L2.start N vs) H _ I0 hq) ?_ (fun e s' hs => hs)
  intro fl s' hs
  cases fl with
  | ret u =>
    obtain ⟨v, σ', H', J, r, z⟩ := hs
    exact ⟨v, H', J.os, J.bare, J.base, J.hok, r, z⟩
  | next =>
    obtain ⟨σ', H', J, z⟩ := hs
    exact ⟨.non, H', J.os, J.bare, J.base, J.hok, rfl, z⟩
  | brk => exact hs.elim fun _ h => h.elim fun _ h => h.2.elim
  | cont => exact hs.elim fun _ h => h.elim fun _ h => h.2.elim
section
variable {X : Cx} {CX : CXT} {k : Nat} {f : Addr} {fd : FuncData} {ps : List Str} {sp : Sp} {E : XK}
theorem run_G {pins : List (Addr × Obj)} {σ : St} {H : Hp} {s : Shared} {Q : VK} {us ws : List Value} {vs : List V} {kw : List (Str × Value)} (F : FnG X.prog X.w X.K X.mg X.base CX k f fd ps sp) (hr : Room k X.A) (hG : X.A.guards = some []) (hb : BindsTo s fd ⟨us, kw⟩ (ps.zip ws)) (hx : Passes CX X E)
    (I : Inv X pins σ H s) (r : Vals vs ws) (h : sp vs H Q E) : wpAny (model X.prog X.w) X.A (call (.ref f) us kw) (EP X pins σ Q) X.xe s := by
  refine wpAny_call (codeAny_mono (F.run X.A X.stack s H _ ws vs Q E hr hG I.env0 hb r h) ?_)
  intro res s' hq
  match res, hq with
  | .error e, hq => exact hx pins σ H s e s' I hq
  | .ok (.ret u), hq => exact I.after hq
end

/-! ### a def as a function of data -/
inductive Rt where
  | v (d : D) | o (xs : List D)
/-- from the parameters' slots: what is handed back, and the list that the caller owns as it is behind -/
abbrev Fn := List Sl → Option (Rt × Option (List D))
/-- the arguments; at most one list that the caller owns -/
inductive ArgR (K : KF) (F H : Hp) : Option Addr → List V → List Sl → Prop
  | nil : ArgR K F H none [] []
  | fz {v : V} {d : D} {l : Option Addr} {vs : List V} {ss : List Sl} : Rp K F v d → ArgR K F H l vs ss → ArgR K F H l (v :: vs) (.fz d :: ss)
  | io {a : Addr} {ws : List V} {xs : List D} {vs : List V} {ss : List Sl} : F a = none → H a = some (.lst ws) → RpA K F ws xs → ArgR K F H none vs ss → ArgR K F H (some a) (.ref a :: vs) (.io xs :: ss)
  | sc {a : Addr} {ns : List Int} {l : Option Addr} {vs : List V} {ss : List Sl} : SqL K F a (ns.map V.int) → ArgR K F H l vs ss → ArgR K F H l (.ref a :: vs) (.sc ns :: ss)
theorem ArgR.length {K : KF} {F H : Hp} : ∀ {l : Option Addr} {vs : List V} {ss : List Sl}, ArgR K F H l vs ss → vs.length = ss.length
  | _, _, _, .nil => rfl
  | _, _, _, .fz _ t => congrArg Nat.succ t.length
  | _, _, _, .io _ _ _ t => congrArg Nat.succ t.length
  | _, _, _, .sc _ t => congrArg Nat.succ t.length
def OutR (K : KF) (F' H' : Hp) : Option Addr → Option (List D) → Prop
  | none, none => True
  | some a, some xs => F' a = none ∧ ∃ ws, H' a = some (.lst ws) ∧ RpA K F' ws xs
  | _, _ => False
def RetR (K : KF) (F' H H' : Hp) (v : V) : Rt → Prop
  | .v d => Rp K F' v d
  | .o xs => ∃ a ws, v = .ref a ∧ F' a = none ∧ H' a = some (.lst ws) ∧ RpA K F' ws xs ∧ H a = none
/-- what a call leaves -/
structure Aft (F H F' H' : Hp) (l : Option Addr) : Prop where
  ff : Same F F'
  sub : Same F' H'
  new : ∀ b, F' b ≠ none → F b ≠ none ∨ H b = none
  keep : ∀ b o, H b = some o → some b ≠ l → H' b = some o
def spD (K : KF) (n : Nat) (Fm : Fn) : Sp := fun vs H Q _ => vs.length = n ∧ ∃ F l ss, Same F H ∧ ArgR K F H l vs ss ∧ ∃ rt out, Fm ss = some (rt, out) ∧
  ∀ v F' H', Aft F H F' H' l → OutR K F' H' l out → RetR K F' H H' v rt → Q v H'
/-- the list that the caller owns, behind the body -/
def outOf : List Sl → En → Option (Option (List D))
  | [], _ => some none
  | .io _ :: ss, .io xs :: _ => some (some xs)
  | .io _ :: _, _ => none
  | _ :: ss, _ :: es => outOf ss es
  | _ :: _, [] => none
/-- n slots, the first pn parameters; the body -/
def mkFn (n pn : Nat) (g : Sx) : Fn := fun ss => if ss.length = pn then bnd (g (ss ++ List.replicate (n - pn) .em)) fun fl e => obn (outOf ss e) fun out => match fl with
    | .rt d => some (.v d, out)
    | .ro xs => some (.o xs, out)
    | .nx => some (.v .none, out)
    | _ => none else none
def ioP : Nat → List Sl → Option Addr → List (Nat × Addr)
  | _, [], _ => []
  | i, .io _ :: ss, some a => [(i, a)]
  | i, _ :: ss, l => ioP (i + 1) ss l
theorem ArgR.at {K : KF} {F H : Hp} : ∀ {l : Option Addr} {vs : List V} {ss : List Sl} {i : Nat} {s : Sl}, ArgR K F H l vs ss → ss[i]? = some s → ∃ v, vs[i]? = some v ∧
    ((∃ d, s = .fz d ∧ Rp K F v d) ∨ (∃ a ws xs, s = .io xs ∧ l = some a ∧ v = .ref a ∧ F a = none ∧ H a = some (.lst ws) ∧ RpA K F ws xs) ∨ ∃ a ns, s = .sc ns ∧ v = .ref a ∧ SqL K F a (ns.map V.int))
  | _, _, _, i, s, .nil, h => by simp at h
  | _, _, _, 0, s, .fz r t, h => by
    simp at h
    subst h
    exact ⟨_, rfl, .inl ⟨_, rfl, r⟩⟩
  | _, _, _, 0, s, .io a b c t, h => by
    simp at h
    subst h
    exact ⟨_, rfl, .inr (.inl ⟨_, _, _, rfl, rfl, rfl, a, b, c⟩)⟩
  | _, _, _, 0, s, .sc r t, h => by
    simp at h
    subst h
    exact ⟨_, rfl, .inr (.inr ⟨_, _, rfl, rfl, r⟩)⟩
  | _, _, _, i + 1, s, .fz r t, h => by
    obtain ⟨v, h1, h2⟩ := ArgR.at (i := i) (s := s) t (by simpa using h)
    exact ⟨v, by simpa using h1, h2⟩
  | _, _, _, i + 1, s, .sc r t, h => by
    obtain ⟨v, h1, h2⟩ := ArgR.at (i := i) (s := s) t (by simpa using h)
    exact ⟨v, by simpa using h1, h2⟩
  | _, _, _, i + 1, s, .io a b c t, h => by
    obtain ⟨v, h1, h2⟩ := ArgR.at (i := i) (s := s) t (by simpa using h)
    refine ⟨v, by simpa using h1, ?_⟩
    rcases h2 with h2 | ⟨_, _, _, _, z, _⟩ | h2
    · exact .inl h2
    · cases z
    · exact .inr (.inr h2)
theorem ArgR.io1 {K : KF} {F H : Hp} : ∀ {l : Option Addr} {vs : List V} {ss : List Sl} {i j : Nat} {xs ys : List D}, ArgR K F H l vs ss → ss[i]? = some (.io xs) → ss[j]? = some (.io ys) → i = j
  | _, _, _, i, j, _, _, .nil, h, _ => by simp at h
  | _, _, _, i, j, _, _, .fz r t, h, h' => by
    cases i with
    | zero => simp at h
    | succ i => cases j with
      | zero => simp at h'
      | succ j => exact congrArg Nat.succ (ArgR.io1 t (by simpa using h) (by simpa using h'))
  | _, _, _, i, j, _, _, .sc r t, h, h' => by
    cases i with
    | zero => simp at h
    | succ i => cases j with
      | zero => simp at h'
      | succ j => exact congrArg Nat.succ (ArgR.io1 t (by simpa using h) (by simpa using h'))
  | _, _, _, i, j, _, _, .io a b c t, h, h' => by
    have no : ∀ (m : Nat) zs, ¬ (_ : List Sl)[m]? = some (.io zs) := fun m zs hm => by
      obtain ⟨v, _, h2⟩ := ArgR.at t hm
      rcases h2 with ⟨_, z, _⟩ | ⟨_, _, _, _, z, _⟩ | ⟨_, _, z, _⟩ <;> cases z
    cases i with
    | zero => cases j with
      | zero => rfl
      | succ j => exact absurd (by simpa using h') (no j _)
    | succ i => exact absurd (by simpa using h) (no i _)
theorem ioP_mem {K : KF} {F H : Hp} : ∀ {l : Option Addr} {vs : List V} {ss : List Sl} {m : Nat} {p : Nat × Addr}, ArgR K F H l vs ss → p ∈ ioP m ss l → ∃ i xs, p.1 = m + i ∧ l = some p.2 ∧ ss[i]? = some (.io xs) ∧ vs[i]? = some (.ref p.2)
  | _, _, _, m, p, .nil, h => by cases h
  | l, _, _, m, p, .fz (ss := ss) r t, h => by
    have h' : p ∈ ioP (m + 1) ss l := by
      cases l <;> exact h
    obtain ⟨i, xs, h1, h2, h3, h4⟩ := ioP_mem t h'
    exact ⟨i + 1, xs, by omega, h2, by simpa using h3, by simpa using h4⟩
  | l, _, _, m, p, .sc (ss := ss) r t, h => by
    have h' : p ∈ ioP (m + 1) ss l := by
      cases l <;> exact h
    obtain ⟨i, xs, h1, h2, h3, h4⟩ := ioP_mem t h'
    exact ⟨i + 1, xs, by omega, h2, by simpa using h3, by simpa using h4⟩
  | _, _, _, m, p, .io a b c t, h => by
    have e : p = (m, _) := List.mem_singleton.mp h
    subst e
    exact ⟨0, _, rfl, rfl, rfl, rfl⟩
theorem ioP_of {K : KF} {F H : Hp} : ∀ {l : Option Addr} {vs : List V} {ss : List Sl} {m : Nat} {a : Addr}, ArgR K F H l vs ss → l = some a → ∃ i xs, (m + i, a) ∈ ioP m ss l ∧ ss[i]? = some (.io xs)
  | _, _, _, m, a, .nil, h => by cases h
  | _, _, _, m, a, .fz r t, h => by
    obtain ⟨i, xs, h1, h2⟩ := ioP_of (m := m + 1) t h
    subst h
    exact ⟨i + 1, xs, by have e : m + (i + 1) = m + 1 + i := by omega
                         rw [e]; exact h1, by simpa using h2⟩
  | _, _, _, m, a, .sc r t, h => by
    obtain ⟨i, xs, h1, h2⟩ := ioP_of (m := m + 1) t h
    subst h
    exact ⟨i + 1, xs, by have e : m + (i + 1) = m + 1 + i := by omega
                         rw [e]; exact h1, by simpa using h2⟩
  | _, _, _, m, a, .io _ _ _ t, h => by
    cases h
    exact ⟨0, _, List.mem_singleton.mpr rfl, rfl⟩
theorem start_get {N : List Str} {vs : List V} {i : Nat} (h : i < vs.length) : (L2.start N vs)[i]? = (vs[i]?).map some := by
  unfold L2.start
  rw [List.getElem?_append_left (by rw [List.length_map]; exact h), List.getElem?_map]
theorem start_len {N : List Str} {vs : List V} (h : vs.length ≤ N.length) : (L2.start N vs).length = N.length := by
  unfold L2.start
  rw [List.length_append, List.length_map, List.length_replicate]
  omega
abbrev CTX.fn (F H : Hp) (l : Option Addr) (ss : List Sl) : CTX := ⟨F, H, l.toList, ioP 0 ss l⟩
/-- the relation at a def's entry -/
theorem rel_start {K : KF} {F H : Hp} {l : Option Addr} {vs : List V} {ss : List Sl} {N : List Str} (s : Same F H) (r : ArgR K F H l vs ss) (hn : ss.length ≤ N.length) :
    Rel K (CTX.fn F H l ss) (ss ++ List.replicate (N.length - ss.length) .em) (L2.start N vs) F H := by
  have hl := r.length
  have get : ∀ (i : Nat) s, (ss ++ List.replicate (N.length - ss.length) Sl.em)[i]? = some s → s ≠ .em → ss[i]? = some s ∧ (L2.start N vs)[i]? = (vs[i]?).map some := fun i s h hs => by
    by_cases hi : i < ss.length
    · rw [List.getElem?_append_left hi] at h
      exact ⟨h, start_get (by rw [hl]; exact hi)⟩
    · rw [List.getElem?_append_right (by omega), List.getElem?_replicate] at h
      split at h
      · cases h
        exact absurd rfl hs
      · cases h
  refine ⟨s, .refl _, fun b h => .inl h, fun b o h _ => h, fun i d h => ?_, fun i xs t h1 h2 => ?_, fun i j t u a h1 h2 h3 h4 h5 h6 => ?_, fun p hp => ?_, fun i ns h => ?_, ?_⟩
  · obtain ⟨h1, h2⟩ := get i _ h (by simp)
    obtain ⟨v, h3, h4⟩ := r.at h1
    rcases h4 with ⟨d', z, h4⟩ | ⟨_, _, _, z, _⟩ | ⟨_, _, z, _⟩
    · cases z
      exact ⟨v, by rw [h2, h3]; rfl, h4⟩
    · cases z
    · cases z
  · obtain ⟨h3, h4⟩ := get i _ h1 (fun z => by subst z; simp at h2)
    obtain ⟨v, h5, h6⟩ := r.at h3
    rcases h6 with ⟨d', z, _⟩ | ⟨a, ws, ys, z, y1, y2, y3, y4, y5⟩ | ⟨_, _, z, _⟩
    · subst z
      simp at h2
    · subst z
      simp at h2
      subst h2
      refine ⟨a, ws, by rw [h4, h5, y2]; rfl, y3, y4, y5, .inr ?_⟩
      rw [y1]
      exact List.mem_singleton.mpr rfl
    · subst z
      simp at h2
  · obtain ⟨w1, w2⟩ := get i _ h1 (fun z => by subst z; simp at h3)
    obtain ⟨w3, w4⟩ := get j _ h2 (fun z => by subst z; simp at h4)
    have k1 : ∃ xs, t = .io xs := by
      obtain ⟨v, _, h6⟩ := r.at w1
      rcases h6 with ⟨d', z, _⟩ | ⟨a, ws, ys, z, _⟩ | ⟨_, _, z, _⟩
      · subst z
        simp at h3
      · exact ⟨ys, z⟩
      · subst z
        simp at h3
    have k2 : ∃ xs, u = .io xs := by
      obtain ⟨v, _, h6⟩ := r.at w3
      rcases h6 with ⟨d', z, _⟩ | ⟨a, ws, ys, z, _⟩ | ⟨_, _, z, _⟩
      · subst z
        simp at h4
      · exact ⟨ys, z⟩
      · subst z
        simp at h4
    obtain ⟨xs, rfl⟩ := k1
    obtain ⟨ys, rfl⟩ := k2
    exact r.io1 w1 w3
  · obtain ⟨i, xs, h1, h2, h3, h4⟩ := ioP_mem r hp
    have hi := (List.getElem?_eq_some_iff.mp h3).1
    rw [Nat.zero_add] at h1
    refine ⟨xs, by rw [h1, List.getElem?_append_left hi]; exact h3, ?_⟩
    rw [h1, start_get (by rw [hl]; exact hi), h4]
    rfl
  · obtain ⟨h1, h2⟩ := get i _ h (by simp)
    obtain ⟨v, h3, h4⟩ := r.at h1
    rcases h4 with ⟨d', z, h4⟩ | ⟨_, _, _, z, _⟩ | ⟨a, ns', z, y1, y2⟩
    · cases z
    · cases z
    · cases z
      exact ⟨a, by rw [h2, h3, y1]; rfl, y2⟩
  · rw [List.length_append, List.length_replicate, start_len (by omega)]
    omega
/-- at the end: what the caller sees -/
theorem rel_end {K : KF} {F H F' H' : Hp} {l : Option Addr} {vs : List V} {ss : List Sl} {e' : En} {σ' : St} {out : Option (List D)} (r : ArgR K F H l vs ss) (R : Rel K (CTX.fn F H l ss) e' σ' F' H') (ho : outOf ss e' = some out) : Aft F H F' H' l ∧ OutR K F' H' l out := by
  have own : ∀ a, l = some a → F' a = none ∧ ∃ i xs ws, ss[i]? = some (Sl.io xs) ∧ σ'[i]? = some (some (V.ref a)) ∧ ∃ ys, e'[i]? = some (Sl.io ys) ∧ H' a = some (.lst ws) ∧ RpA K F' ws ys := fun a ha => by
    obtain ⟨i, xs, h1, h2⟩ := ioP_of (m := 0) r ha
    obtain ⟨ys, h3, h4⟩ := R.ioa _ h1
    obtain ⟨b, ws, q1, q2, q3, q4, _⟩ := R.own _ ys _ h3 rfl
    have h4' : σ'[0 + i]? = some (some (V.ref a)) := h4
    have h3' : e'[0 + i]? = some (.io ys) := h3
    have q1' : σ'[0 + i]? = some (some (V.ref b)) := q1
    rw [h4'] at q1'
    cases q1'
    rw [Nat.zero_add] at h3' h4'
    exact ⟨q2, i, xs, ws, h2, h4', ys, h3', q3, q4⟩
  refine ⟨⟨R.ext, R.sub, fun b h => ?_, fun b o h hb => R.frame b o h fun z => ?_⟩, ?_⟩
  · rcases R.new b h with z | z | z
    · exact .inl z
    · exact .inr z
    · have : l = some b := by
        cases l with
        | none => cases z
        | some a => rw [List.mem_singleton.mp z]
      exact absurd (own b this).1 h
  · have : l = some b := by
      cases l with
      | none => cases z
      | some a => rw [List.mem_singleton.mp z]
    exact hb this.symm
  · -- the out list
    have go : ∀ {l : Option Addr} {vs : List V} {ss : List Sl} {e' : En} {out : Option (List D)}, ArgR K F H l vs ss → outOf ss e' = some out → (l = none ∧ out = none) ∨ ∃ (a : Addr) (i : Nat) (xs ys : List D), l = some a ∧ ss[i]? = some (Sl.io xs) ∧ e'[i]? = some (Sl.io ys) ∧ out = some ys := by
      intro l vs ss
      induction ss generalizing l vs with
      | nil =>
        intro e' out r h
        cases r
        cases h
        exact .inl ⟨rfl, rfl⟩
      | cons s ss ih =>
        intro e' out r h
        cases r with
        | fz r t =>
          cases e' with
          | nil => cases h
          | cons x es =>
            rcases ih t h with h | ⟨a, i, xs, ys, h1, h2, h3, h4⟩
            · exact .inl h
            · exact .inr ⟨a, i + 1, xs, ys, h1, by simpa using h2, by simpa using h3, h4⟩
        | sc r t =>
          cases e' with
          | nil => cases h
          | cons x es =>
            rcases ih t h with h | ⟨a, i, xs, ys, h1, h2, h3, h4⟩
            · exact .inl h
            · exact .inr ⟨a, i + 1, xs, ys, h1, by simpa using h2, by simpa using h3, h4⟩
        | io a b c t =>
          cases e' with
          | nil => cases h
          | cons x es =>
            cases x with
            | io ys =>
              cases h
              exact .inr ⟨_, 0, _, ys, rfl, rfl, rfl, rfl⟩
            | _ => cases h
    rcases go r ho with ⟨h1, h2⟩ | ⟨a, i, xs, ys, h1, h2, h3, h4⟩
    · rw [h1, h2]
      trivial
    · obtain ⟨q0, j, xs', ws, q1, q2, ys', q3, q4, q5⟩ := own a h1
      have ej := r.io1 q1 h2
      subst ej
      rw [h3] at q3
      cases q3
      rw [h1, h4]
      exact ⟨q0, ws, q4, q5⟩
/-- THE RULE for a def: its body as a function of data -/
theorem okG {P : Program} {w : World} {K : KF} {mg : Str → Option Value} {base : Heap} {x qual : Str} {st : Stmt} {f : Addr} {fd : FuncData} {N ps : List Str} {k : Nat} {g : Sx} (F : Fun K x qual st f fd) (S : FnScope N ps (defScope st))
    (hbody : ∀ (cdv : Value) (A : Around) (outer : List Env) (s : Shared) (H : Hp), Room k (A.deeper (envOfC qual (defScope st) s.heap.objs.size f cdv)) → A.guards = some [] →
      HSs (cxOf CX0 P w K mg base N qual (defScope st) f cdv A outer s H E0).nox (defBody st) g) : FnG P w K mg base CX0 (k + 1) f fd ps (spD K ps.length (mkFn N.length ps.length g)) := by
  obtain ⟨oc, od, kV, doc, pm, an, cdv, ct, osl, rfl, lk, hcd⟩ := F.ex
  refine fn_ofG lk hcd S (fun vs H Q E h => h.1) fun A outer s H vs Q E hr hG h => ?_
  obtain ⟨hl, Fz, l, ss, sF, ra, rt, out, hf, hq⟩ := h
  have pl : ps.length ≤ N.length := by
    have z := congrArg List.length S.pre
    rw [List.length_take] at z
    omega
  refine ⟨tS K g, PSs.nox ((hbody cdv A outer s H hr hG)), ?_⟩
  have hss : ss.length = ps.length := by rw [← ra.length]; exact hl
  unfold mkFn at hf
  rw [if_pos hss] at hf
  obtain ⟨fl, e', h1, h2⟩ := bnd_eq hf
  obtain ⟨out', h3, h4⟩ := obn_eq h2
  have R0 := rel_start (N := N) sF ra (by omega)
  rw [hss] at R0
  refine ⟨_, _, Fz, R0, fl, e', h1, ?_⟩
  cases fl with
  | rt d =>
    cases h4
    exact fun v σ' F' H' R' s' r' => hq v F' H' (rel_end ra R' h3).1 (rel_end ra R' h3).2 r'
  | nx =>
    cases h4
    exact fun σ' F' H' R' s' => hq .non F' H' (rel_end ra R' h3).1 (rel_end ra R' h3).2 Rp.non
  | ro xs =>
    cases h4
    intro a ws σ' F' H' R' s' n1 w1 r1 h0 hfr
    refine hq _ F' H' (rel_end ra R' h3).1 (rel_end ra R' h3).2 ⟨a, ws, rfl, n1, w1, r1, ?_⟩
    rcases h0 with z | z
    · exact z
    · have hla : l = some a := by
        cases l with
        | none => cases z
        | some b => rw [List.mem_singleton.mp z]
      obtain ⟨i, xs', q1, q2⟩ := ioP_of (m := 0) ra hla
      obtain ⟨ys, q3, q4⟩ := R'.ioa _ q1
      exact absurd q4 (hfr _ _ q3 (by simp))
  | bk => cases h4
  | ct => cases h4

/-! ### calls -/
/-- how an argument is handed on: as data; a list that may be changed; the script -/
inductive Md where
  | vl | mu | sc
def noMu : List Md → Bool
  | [] => true
  | .mu :: _ => false
  | _ :: ms => noMu ms
def oneMu : List Md → Bool
  | [] => true
  | .mu :: ms => noMu ms
  | _ :: ms => oneMu ms
def escA : List Md → List Ar → En → Option (List Ar × En)
  | [], [], e => some ([], e)
  | .vl :: ms, .h x :: rs, e => bnd (esc x e) fun d e1 => bnd (escA ms rs e1) fun qs e2 => some (.h (.val d) :: qs, e2)
  | .mu :: ms, r :: rs, e => bnd (escA ms rs e) fun qs e2 => some (r :: qs, e2)
  | .sc :: ms, r :: rs, e => bnd (escA ms rs e) fun qs e2 => some (r :: qs, e2)
  | _, _, _ => none
def resA (e : En) : List Md → List Ar → Option (List Sl)
  | [], [] => some []
  | .vl :: ms, .h (.val d) :: rs => obn (resA e ms rs) fun ss => some (.fz d :: ss)
  | .mu :: ms, .h (.sl i) :: rs => obn (obn e[i]? Sl.cells) fun xs => obn (resA e ms rs) fun ss => some (.io xs :: ss)
  | .mu :: ms, .o xs :: rs => obn (resA e ms rs) fun ss => some (.io xs :: ss)
  | .sc :: ms, .h (.sl i) :: rs => match e[i]? with
    | some (.sc ns) => obn (resA e ms rs) fun ss => some (.sc ns :: ss)
    | _ => none
  | _, _ => none
def setC (i : Nat) (xs : List D) (e : En) : Option En := match e[i]? with
  | some (.ow _) => some (e.set i (.ow xs))
  | some (.io _) => some (e.set i (.io xs))
  | _ => none
def backA : List Md → List Ar → Option (List D) → En → Option En
  | [], [], none, e => some e
  | .vl :: ms, _ :: rs, out, e => backA ms rs out e
  | .sc :: ms, _ :: rs, out, e => backA ms rs out e
  | .mu :: _, .h (.sl i) :: _, some xs, e => setC i xs e
  | .mu :: _, .o _ :: _, some _, e => some e
  | _, _, _, _ => none
section
variable {K : KF} {C : CTX} {e : En} {σ : St} {F H : Hp}
theorem argsN (R : Rel K C e σ F H) : ∀ {ms : List Md} {qs : List Ar} {l : List Addr} {vs : List V} {ss : List Sl}, noMu ms = true → RpRs K C e σ F H l vs qs → resA e ms qs = some ss → ArgR K F H none vs ss
  | [], [], _, _, _, _, .nil, h => by
    cases h
    exact .nil
  | .vl :: ms, .h (.val d) :: qs, _, _, _, hn, RpRs.h r t, h => by
    obtain ⟨ss, h1, h2⟩ := obn_eq h
    cases h2
    exact .fz r (argsN R (show noMu ms = true from hn) t h1)
  | .sc :: ms, .h (.sl i) :: qs, _, _, ss0, hn, RpRs.h (v := v) r t, h => by
    have h' : (match e[i]? with
      | some (Sl.sc ns) => obn (resA e ms qs) fun ss => some (.sc ns :: ss)
      | _ => none) = some ss0 := h
    split at h'
    · rename_i ns h1
      obtain ⟨ss, h3, h4⟩ := obn_eq h'
      cases h4
      obtain ⟨a, y1, y2⟩ := R.scr i ns h1
      have r' : σ[i]? = some (some v) := r
      rw [r'] at y1
      cases y1
      exact .sc y2 (argsN R (show noMu ms = true from hn) t h3)
    · cases h'
theorem Aft.grow {F' H' : Hp} (s : Same F H) (a : Aft F H F' H' none) : Grow F H F' H' := ⟨a.ff, fun b o h => a.keep b o h (by simp), a.sub, a.new⟩
theorem callD (R : Rel K C e σ F H) : ∀ {ms : List Md} {qs : List Ar} {l : List Addr} {vs : List V} {ss : List Sl}, oneMu ms = true → RpRs K C e σ F H l vs qs → resA e ms qs = some ss →
    ∃ la, ArgR K F H la vs ss ∧ ∀ F' H' out e3, Aft F H F' H' la → OutR K F' H' la out → backA ms qs out e = some e3 → Rel K C e3 σ F' H'
  | [], [], _, _, _, _, .nil, h => by
    cases h
    refine ⟨none, .nil, fun F' H' out e3 a o b => ?_⟩
    cases out with
    | none =>
      cases b
      exact R.grow (a.grow R.sub)
    | some xs => cases b
  | .vl :: ms, .h (.val d) :: qs, _, _, _, hn, RpRs.h r t, h => by
    obtain ⟨ss, h1, h2⟩ := obn_eq h
    cases h2
    obtain ⟨la, h3, h4⟩ := callD R (show oneMu ms = true from hn) t h1
    exact ⟨la, .fz r h3, fun F' H' out e3 a o b => h4 F' H' out e3 a o b⟩
  | .sc :: ms, .h (.sl i) :: qs, _, _, ss0, hn, RpRs.h (v := v) r t, h => by
    have h' : (match e[i]? with
      | some (Sl.sc ns) => obn (resA e ms qs) fun ss => some (.sc ns :: ss)
      | _ => none) = some ss0 := h
    split at h'
    · rename_i ns h1
      obtain ⟨ss, h3, h4⟩ := obn_eq h'
      cases h4
      obtain ⟨a, y1, y2⟩ := R.scr i ns h1
      have r' : σ[i]? = some (some v) := r
      rw [r'] at y1
      cases y1
      obtain ⟨la, h5, h6⟩ := callD R (show oneMu ms = true from hn) t h3
      exact ⟨la, .sc y2 h5, fun F' H' out e3 a o b => h6 F' H' out e3 a o b⟩
    · cases h'
  | .mu :: ms, .h (.sl i) :: qs, _, _, _, hn, RpRs.h (v := v) r t, h => by
    obtain ⟨xs, h1, h2⟩ := obn_eq h
    obtain ⟨ss, h3, h4⟩ := obn_eq h2
    cases h4
    obtain ⟨s, h5, h6⟩ := obn_eq h1
    obtain ⟨a, ws, y1, y2, y3, y4, y5⟩ := R.own i xs s h5 h6
    have r' : σ[i]? = some (some v) := r
    rw [r'] at y1
    cases y1
    refine ⟨some a, .io y2 y3 y4 (argsN R hn t h3), fun F' H' out e3 af o b => ?_⟩
    cases out with
    | none => cases o
    | some ys =>
      obtain ⟨o1, us, o2, o3⟩ := o
      -- first all that grew, a as it was; then a
      have g : Grow F H F' (upd H' a (.lst ws)) := by
        refine ⟨af.ff, fun c u hc => ?_, fun c u hc => ?_, af.new⟩
        · by_cases hca : c = a
          · subst hca
            rw [upd_same, ← y3]
            exact hc
          · rw [upd_ne hca]
            exact af.keep c u hc (fun z => hca (Option.some.inj z))
        · rw [upd_ne (fun z => by rw [z, o1] at hc; cases hc)]
          exact af.sub c u hc
      have R1 := R.grow g
      have b' : setC i ys e = some e3 := b
      have eH : upd (upd H' a (.lst ws)) a (.lst us) = H' := by
        rw [upd_upd]
        funext c
        by_cases hca : c = a
        · subst hca
          rw [upd_same, o2]
        · rw [upd_ne hca]
      unfold setC at b'
      split at b'
      · rename_i zs q1
        cases b'
        have q := R1.change (s' := .ow ys) q1 rfl r' o3 rfl fun zs z => nomatch z
        rw [eH] at q
        exact q
      · rename_i zs q1
        cases b'
        have q := R1.change (s' := .io ys) q1 rfl r' o3 rfl fun zs z => ⟨_, rfl⟩
        rw [eH] at q
        exact q
      · cases b'
  | .mu :: ms, .o xs :: qs, _, _, _, hn, .o (a := a) (ws := ws) p a6 t, h => by
    obtain ⟨ss, h3, h4⟩ := obn_eq h
    cases h4
    refine ⟨some a, .io p.n p.at_ p.r (argsN R hn t h3), fun F' H' out e3 af o b => ?_⟩
    cases out with
    | none => cases o
    | some ys =>
      cases b
      obtain ⟨o1, us, o2, o3⟩ := o
      have R1 := R.idleUpd (o := .lst us) p.n p.h0 p.fr
      refine R1.grow ⟨af.ff, fun c u hc => ?_, af.sub, fun c hc => ?_⟩
      · by_cases hca : c = a
        · subst hca
          rw [upd_same] at hc
          rw [o2]
          exact hc
        · rw [upd_ne hca] at hc
          exact af.keep c u hc (fun z => hca (Option.some.inj z))
      · by_cases hca : c = a
        · subst hca
          exact absurd o1 hc
        · rw [upd_ne hca]
          exact af.new c hc
theorem escA_ok : ∀ {ms : List Md} {rs qs : List Ar} {l : List Addr} {vs : List V} {e e' : En} {F : Hp}, Rel K C e σ F H → RpRs K C e σ F H l vs rs → escA ms rs e = some (qs, e') →
    ∃ F', Rel K C e' σ F' H ∧ Same F F' ∧ RpRs K C e' σ F' H l vs qs ∧ ∀ a ws xs, Pn K C e σ F H a ws xs → Pn K C e' σ F' H a ws xs
  | [], [], _, _, _, e, _, F, R, .nil, g => by
    cases g
    exact ⟨F, R, .refl _, .nil, fun _ _ _ p => p⟩
  | .vl :: ms, .h x :: rs, _, _, _, e, e', F, R, RpRs.h r t, g => by
    obtain ⟨d, e1, h1, h2⟩ := bnd_eq g
    obtain ⟨ds, e2, h3, h4⟩ := bnd_eq h2
    cases h4
    obtain ⟨F1, R1, s1, r1, m1⟩ := esc1 R r h1
    obtain ⟨F2, R2, s2, t2, m2⟩ := escA_ok R1 (t.map s1 m1) h3
    exact ⟨F2, R2, s1.trans s2, RpRs.h (x := .val d) (Rp.mono s2 r1) t2, fun a ws xs p => m2 a ws xs (m1 a ws xs p)⟩
  | .mu :: ms, .h x :: rs, _, _, _, e, e', F, R, RpRs.h r t, g => by
    obtain ⟨ds, e2, h3, h4⟩ := bnd_eq g
    cases h4
    obtain ⟨F2, R2, s2, t2, m2⟩ := escA_ok R t h3
    exact ⟨F2, R2, s2, RpRs.h (r.mono s2) t2, m2⟩
  | .sc :: ms, .h x :: rs, _, _, _, e, e', F, R, RpRs.h r t, g => by
    obtain ⟨ds, e2, h3, h4⟩ := bnd_eq g
    cases h4
    obtain ⟨F2, R2, s2, t2, m2⟩ := escA_ok R t h3
    exact ⟨F2, R2, s2, RpRs.h (r.mono s2) t2, m2⟩
  | .mu :: ms, .o xs :: rs, _, _, _, e, e', F, R, .o p a6 t, g => by
    obtain ⟨ds, e2, h3, h4⟩ := bnd_eq g
    cases h4
    obtain ⟨F2, R2, s2, t2, m2⟩ := escA_ok R t h3
    exact ⟨F2, R2, s2, .o (m2 _ _ _ p) a6 t2, m2⟩
  | .sc :: ms, .o xs :: rs, _, _, _, e, e', F, R, .o p a6 t, g => by
    obtain ⟨ds, e2, h3, h4⟩ := bnd_eq g
    cases h4
    obtain ⟨F2, R2, s2, t2, m2⟩ := escA_ok R t h3
    exact ⟨F2, R2, s2, .o (m2 _ _ _ p) a6 t2, m2⟩
end
/-- the data of a call: what comes back, and the slots behind -/
def xRun (ms : List Md) (Fm : Fn) (rs : List Ar) (e1 : En) : Option (Rt × En) := bnd (escA ms rs e1) fun qs e2 => obn (resA e2 ms qs) fun ss => obn (Fm ss) fun r => obn (backA ms qs r.2 e2) fun e3 => some (r.1, e3)
def xCall (ms : List Md) (Fm : Fn) (fs : Rx) : Ex := fun e => bnd (fs e) fun rs e1 => bnd (xRun ms Fm rs e1) fun r e3 => match r with
  | .v d => some (.val d, e3)
  | .o _ => none
def yCall (ms : List Md) (Fm : Fn) (fs : Rx) : Fx := fun e => bnd (fs e) fun rs e1 => bnd (xRun ms Fm rs e1) fun r e3 => match r with
  | .v _ => none
  | .o xs => some (xs, e3)
theorem xRun_ok {K : KF} {C : CTX} {e1 e3 : En} {σ : St} {F H : Hp} {ms : List Md} {Fm : Fn} {rs : List Ar} {l : List Addr} {vs : List V} {r : Rt} {n : Nat} {Q : VK} (ho : oneMu ms = true) (R : Rel K C e1 σ F H) (t : RpRs K C e1 σ F H l vs rs) (h : xRun ms Fm rs e1 = some (r, e3)) (hn : vs.length = n)
    (q : ∀ v F' H', Rel K C e3 σ F' H' → Same F F' → RetR K F' H H' v r → Q v H') : spD K n Fm vs H Q E0 := by
  obtain ⟨qs, e2, h1, h2⟩ := bnd_eq h
  obtain ⟨ss, h3, h4⟩ := obn_eq h2
  obtain ⟨r', h5, h6⟩ := obn_eq h4
  obtain ⟨e4, h7, h8⟩ := obn_eq h6
  cases h8
  obtain ⟨F2, R2, s2, t2, _⟩ := escA_ok R t h1
  obtain ⟨la, ar, k⟩ := callD R2 ho t2 h3
  refine ⟨hn, F2, la, ss, R2.sub, ar, _, _, h5, fun v F' H' af o rr => ?_⟩
  exact q v F' H' (k F' H' _ _ af o h7) (s2.trans af.ff) rr
theorem esc_cells {x : Hd} {e e' : En} {d : D} (h : esc x e = some (d, e')) : ∀ (j : Nat) s, e'[j]? = some s → s.cells ≠ none → e[j]? = some s := by
  cases x with
  | val d' =>
    cases h
    exact fun j s h1 _ => h1
  | sl i =>
    unfold DL.esc at h
    simp only at h
    split at h
    · cases h
      exact fun j s h1 _ => h1
    · rename_i xs h0
      cases h
      intro j s h1 h2
      have hi : i < e.length := (List.getElem?_eq_some_iff.mp h0).1
      by_cases hj : j = i
      · subst hj
        rw [List.getElem?_set_self hi] at h1
        cases h1
        simp at h2
      · rw [List.getElem?_set_ne (Ne.symm hj)] at h1
        exact h1
    · cases h
theorem escA_cells : ∀ {ms : List Md} {rs qs : List Ar} {e e' : En}, escA ms rs e = some (qs, e') → ∀ (j : Nat) s, e'[j]? = some s → s.cells ≠ none → e[j]? = some s
  | [], [], _, _, _, g => by
    cases g
    exact fun j s h1 _ => h1
  | .vl :: ms, .h x :: rs, _, _, _, g => by
    obtain ⟨d, e1, h1, h2⟩ := bnd_eq g
    obtain ⟨ds, e2, h3, h4⟩ := bnd_eq h2
    cases h4
    exact fun j s q1 q2 => esc_cells h1 j s (escA_cells h3 j s q1 q2) q2
  | .mu :: ms, r :: rs, _, _, _, g => by
    obtain ⟨ds, e2, h3, h4⟩ := bnd_eq g
    cases h4
    exact escA_cells h3
  | .sc :: ms, r :: rs, _, _, _, g => by
    obtain ⟨ds, e2, h3, h4⟩ := bnd_eq g
    cases h4
    exact escA_cells h3
theorem backA_cells : ∀ {ms : List Md} {qs : List Ar} {out : Option (List D)} {e e' : En}, backA ms qs out e = some e' → ∀ (j : Nat) s, e'[j]? = some s → s.cells ≠ none → ∃ s', e[j]? = some s' ∧ s'.cells ≠ none
  | [], [], none, _, _, g => by
    cases g
    exact fun j s h1 h2 => ⟨s, h1, h2⟩
  | [], [], some _, _, _, g => by cases g
  | .vl :: ms, _ :: rs, out, e, _, g => backA_cells (ms := ms) (qs := rs) (out := out) (e := e) g
  | .sc :: ms, _ :: rs, out, e, _, g => backA_cells (ms := ms) (qs := rs) (out := out) (e := e) g
  | .mu :: _, .h (.sl i) :: _, some xs, e, e', g => by
    have g' : setC i xs e = some e' := g
    unfold setC at g'
    intro j s h1 h2
    split at g'
    · rename_i ys q
      cases g'
      by_cases hj : j = i
      · subst hj
        exact ⟨_, q, by simp⟩
      · rw [List.getElem?_set_ne (Ne.symm hj)] at h1
        exact ⟨s, h1, h2⟩
    · rename_i ys q
      cases g'
      by_cases hj : j = i
      · subst hj
        exact ⟨_, q, by simp⟩
      · rw [List.getElem?_set_ne (Ne.symm hj)] at h1
        exact ⟨s, h1, h2⟩
    · cases g'
  | .mu :: _, .o _ :: _, some _, _, _, g => by
    cases g
    exact fun j s h1 h2 => ⟨s, h1, h2⟩
theorem xRun_cells {ms : List Md} {Fm : Fn} {rs : List Ar} {e e' : En} {r : Rt} (h : xRun ms Fm rs e = some (r, e')) : ∀ (j : Nat) s, e'[j]? = some s → s.cells ≠ none → ∃ s', e[j]? = some s' ∧ s'.cells ≠ none := by
  obtain ⟨qs, e2, h1, h2⟩ := bnd_eq h
  obtain ⟨ss, h3, h4⟩ := obn_eq h2
  obtain ⟨r', h5, h6⟩ := obn_eq h4
  obtain ⟨e4, h7, h8⟩ := obn_eq h6
  cases h8
  intro j s q1 q2
  obtain ⟨s', q3, q4⟩ := backA_cells h7 j s q1 q2
  exact ⟨s', escA_cells h1 j s' q3 q4, q4⟩
theorem RpRs.len {K : KF} {C : CTX} {e : En} {σ : St} {F H : Hp} : ∀ {l : List Addr} {vs : List V} {rs : List Ar}, RpRs K C e σ F H l vs rs → vs.length = rs.length
  | _, _, _, .nil => rfl
  | _, _, _, RpRs.h _ t => congrArg Nat.succ (RpRs.len t)
  | _, _, _, .o _ _ t => congrArg Nat.succ (RpRs.len t)
theorem escA_len : ∀ {ms : List Md} {rs qs : List Ar} {e e' : En}, escA ms rs e = some (qs, e') → rs.length = ms.length
  | [], [], _, _, _, _ => rfl
  | .vl :: ms, .h x :: rs, _, _, _, g => by
    obtain ⟨d, e1, h1, h2⟩ := bnd_eq g
    obtain ⟨ds, e2, h3, h4⟩ := bnd_eq h2
    exact congrArg Nat.succ (escA_len h3)
  | .mu :: ms, r :: rs, _, _, _, g => by
    obtain ⟨ds, e2, h3, h4⟩ := bnd_eq g
    exact congrArg Nat.succ (escA_len h3)
  | .sc :: ms, r :: rs, _, _, _, g => by
    obtain ⟨ds, e2, h3, h4⟩ := bnd_eq g
    exact congrArg Nat.succ (escA_len h3)
section
variable {X : Cx} {k : Nat} {f : Addr} {fd : FuncData} {ps : List Str} {Fm : Fn} {x : Str} {p pos : Pos} {a : Expr} {es : List Expr} {fs : Rx} {ms : List Md}
theorem pe_callG {sp : Sp} {t : TA} (F : FnG X.prog X.w X.K X.mg X.base CX0 k f fd ps sp) (hr : Room k X.A) (hG : X.A.guards = some []) (hg : Gl X x) (hm : X.mg x = some (.ref f)) (hk : PySem.W.keepIn X.K (.ref f) = true) (hb : Binds X.K fd ps [])
    (ha : PA X (a :: es) t) (hdb : (x == ("__debug__" : Str)) = false) (hs : starEach (a :: es) X.env = (false, eval a X.env) :: starEach es X.env) (hpl : (backTo pos (starEach es X.env)).any (·.1) = false) :
    PE X (.Call (.Name x p) (a :: es) [] pos) (fun σ H Q => t σ H fun vs H1 => sp vs H1 Q E0) := by
  constructor
  intro pins s σ H Q I h
  refine wpAny_Call_Name_kw (ld_glob I hg hm ?_ hdb)
  refine PySem.W.callWith_K (h₀ := X.base) I.ok.mod.kin hk (thn (ha.run pos pins s σ H _ I h) ?_) hs hpl
  rintro us s1 ⟨vs, H1, I1, r, q⟩
  refine ⟨I1.kIn, ?_⟩
  have hl : us.length = ps.length := by rw [← r.length]; exact F.len _ _ _ _ q
  have bt := hb s1 us I1.kIn (by rw [List.append_nil]; exact hl)
  rw [List.append_nil] at bt
  exact run_G F hr hG bt pass0 I1 r q
theorem he_call (F : FnG X.prog X.w X.K X.mg X.base CX0 k f fd ps (spD X.K ms.length Fm)) (ho : oneMu ms = true) (hr : Room k X.A) (hG : X.A.guards = some []) (hg : Gl X x) (hm : X.mg x = some (.ref f)) (hk : PySem.W.keepIn X.K (.ref f) = true) (hb : Binds X.K fd ps [])
    (ha : HR X (a :: es) fs) (hdb : (x == ("__debug__" : Str)) = false := by decide) (hs : starEach (a :: es) X.env = (false, eval a X.env) :: starEach es X.env := by rfl) (hpl : (backTo pos (starEach es X.env)).any (·.1) = false := by rfl) :
    HE X (.Call (.Name x p) (a :: es) [] pos) (xCall ms Fm fs) := by
  refine pe_mono (pe_callG F hr hG hg hm hk hb ha hdb hs hpl) fun σ H Q ⟨C, e, Fz, R, hd, e', q1, q2⟩ => ?_
  obtain ⟨rs, e1, w1, w2⟩ := bnd_eq q1
  obtain ⟨r, e3, w3, w4⟩ := bnd_eq w2
  refine ⟨C, e, Fz, R, rs, e1, w1, fun l vs F1 H1 R1 s1 t1 => ?_⟩
  have hl : vs.length = ms.length := by
    obtain ⟨qs, e2, z, _⟩ := bnd_eq w3
    rw [t1.len, escA_len z]
  cases r with
  | v d =>
    cases w4
    exact xRun_ok ho R1 t1 w3 hl fun v F' H' R' s' rr => q2 v F' H' R' (s1.trans s') rr
  | o xs => cases w4
theorem fe_call (F : FnG X.prog X.w X.K X.mg X.base CX0 k f fd ps (spD X.K ms.length Fm)) (ho : oneMu ms = true) (hr : Room k X.A) (hG : X.A.guards = some []) (hg : Gl X x) (hm : X.mg x = some (.ref f)) (hk : PySem.W.keepIn X.K (.ref f) = true) (hb : Binds X.K fd ps [])
    (ha : HR X (a :: es) fs) (hdb : (x == ("__debug__" : Str)) = false := by decide) (hs : starEach (a :: es) X.env = (false, eval a X.env) :: starEach es X.env := by rfl) (hpl : (backTo pos (starEach es X.env)).any (·.1) = false := by rfl) :
    FE X (.Call (.Name x p) (a :: es) [] pos) (yCall ms Fm fs) := by
  refine pe_mono (pe_callG F hr hG hg hm hk hb ha hdb hs hpl) fun σ H Q ⟨C, e, Fz, R, xs, e', q1, q2⟩ => ?_
  obtain ⟨rs, e1, w1, w2⟩ := bnd_eq q1
  obtain ⟨r, e3, w3, w4⟩ := bnd_eq w2
  refine ⟨C, e, Fz, R, rs, e1, w1, fun l vs F1 H1 R1 s1 t1 => ?_⟩
  have hl : vs.length = ms.length := by
    obtain ⟨qs, e2, z, _⟩ := bnd_eq w3
    rw [t1.len, escA_len z]
  cases r with
  | v d => cases w4
  | o ys =>
    cases w4
    refine xRun_ok ho R1 t1 w3 hl fun v F' H' R' s' rr => ?_
    obtain ⟨b, ws, rfl, z1, z2, z3, z4⟩ := rr
    -- b is new: nobody owns it
    refine q2 b ws F' H' R' (s1.trans s') z1 z2 z3 (R1.h0 z4) fun j u y1 y2 y3 => ?_
    obtain ⟨u', y4, y5⟩ := xRun_cells w3 j u y1 y2
    exact R1.freeAt z4 j u' y4 y5 y3
end
end DL
end
section
set_option maxRecDepth 100000
set_option maxHeartbeats 4000000
/-! DL, part 8: calls by keywords; the law's own call -/
namespace DL
open PySem PySem.Spec PyProof.Rows L2
def pick {α : Type} (π : List Nat) (l : List α) : List α := π.filterMap fun i => l[i]?
theorem Vals.pick {vs : List V} {us : List Value} (r : Vals vs us) : ∀ π : List Nat, Vals (DL.pick π vs) (DL.pick π us)
  | [] => .nil
  | i :: π => by
    unfold DL.pick
    rw [List.filterMap_cons, List.filterMap_cons]
    cases h : vs[i]? with
    | none =>
      rw [r.none_of h]
      exact Vals.pick r π
    | some v =>
      obtain ⟨u, h1, h2⟩ := r.get h
      rw [h1]
      exact .cons h2 (Vals.pick r π)
theorem RpHs.at {K : KF} {F : Hp} {σ : St} : ∀ {vs : List V} {hs : List Hd} (i : Nat), RpHs K F σ vs hs → (vs[i]? = none ∧ hs[i]? = none) ∨ ∃ v h, vs[i]? = some v ∧ hs[i]? = some h ∧ RpH K F σ v h
  | _, _, i, .nil => .inl ⟨by simp, by simp⟩
  | _, _, 0, .cons r t => .inr ⟨_, _, rfl, rfl, r⟩
  | _, _, i + 1, .cons r t => by
    simpa using RpHs.at i t
theorem RpHs.pick {K : KF} {F : Hp} {σ : St} {vs : List V} {hs : List Hd} (r : RpHs K F σ vs hs) : ∀ π : List Nat, RpHs K F σ (DL.pick π vs) (DL.pick π hs)
  | [] => .nil
  | i :: π => by
    unfold DL.pick
    rw [List.filterMap_cons, List.filterMap_cons]
    rcases r.at i with ⟨h1, h2⟩ | ⟨v, h, h1, h2, h3⟩
    · rw [h1, h2]
      exact RpHs.pick r π
    · rw [h1, h2]
      exact .cons h3 (RpHs.pick r π)
theorem RpHs.rs {K : KF} {C : CTX} {e : En} {F H : Hp} {σ : St} : ∀ {vs : List V} {hs : List Hd}, RpHs K F σ vs hs → RpRs K C e σ F H [] vs (hs.map Ar.h)
  | _, _, .nil => .nil
  | _, _, .cons r t => RpRs.h r (RpHs.rs t)
theorem RpHs.length {K : KF} {F : Hp} {σ : St} : ∀ {vs : List V} {hs : List Hd}, RpHs K F σ vs hs → vs.length = hs.length
  | _, _, .nil => rfl
  | _, _, .cons r t => congrArg Nat.succ t.length
section
variable {X : Cx} {k : Nat} {f : Addr} {fd : FuncData} {ps ks : List Str} {Fm : Fn} {x : Str} {p pos kpos : Pos} {a : Expr} {kws : List Keyword} {fs : Exs} {fa : Ex} {ms : List Md} {π : List Nat} {nm : Option Str}
abbrev HK (X : Cx) (kws : List Keyword) (f : Exs) : Prop := PK X kws (tHs X.K f)
theorem hk_nil : HK X [] yNil := pk_mono pk_nil fun σ H Q ⟨C, e, F, R, hs, e', h1, h2⟩ => by
  cases h1
  exact h2 [] F H R (.refl _) .nil
theorem hk_cons (ha : HE X a fa) (hr : HK X kws fs) : HK X (⟨nm, a, kpos⟩ :: kws) (yCons fa fs) := by
  refine pk_mono (pk_cons ha hr) fun σ H Q ⟨C, e, F, R, hd, e', h1, h2⟩ => ?_
  obtain ⟨g1, e1, q1, h1⟩ := bnd_eq h1
  obtain ⟨g2, e2, q2, h1⟩ := bnd_eq h1
  cases h1
  exact ⟨C, e, F, R, g1, e1, q1, fun v F1 H1 R1 s1 r1 => ⟨C, e1, F1, R1, g2, _, q2, fun vs F2 H2 R2 s2 r2 => h2 _ F2 H2 R2 (s1.trans s2) (.cons (r1.mono s2) r2)⟩⟩
def KwB (fd : FuncData) (ps ks : List Str) (π : List Nat) : Prop := ∀ (s : Shared) (us : List Value), us.length = ks.length → BindsTo s fd ⟨[], ks.zip us⟩ (ps.zip (pick π us))
theorem pe_callKG {sp : Sp} {t : TA} (F : FnG X.prog X.w X.K X.mg X.base CX0 k f fd ps sp) (hr : Room k X.A) (hG : X.A.guards = some []) (hg : Gl X x) (hm : X.mg x = some (.ref f)) (hk : PySem.W.keepIn X.K (.ref f) = true) (hb : KwB fd ps ks π)
    (ha : PK X kws t) (hall : (backToKw pos (keywordEach kws X.env)).all (·.1.isSome) = true) (hks : (backToKw pos (keywordEach kws X.env)).filterMap (·.1) = ks) (hdb : (x == ("__debug__" : Str)) = false)
    (hpl : ((backTo pos (starEach [] X.env)).any (·.1) || (backToKw pos (keywordEach kws X.env)).any (·.1.isNone)) = false) :
    PE X (.Call (.Name x p) [] kws pos) (fun σ H Q => t σ H fun vs H1 => vs.length = ks.length ∧ sp (pick π vs) H1 Q E0) := by
  constructor
  intro pins s σ H Q I h
  refine wpAny_Call_Name_kw (ld_glob I hg hm ?_ hdb)
  refine PySem.W.callWith_KW0 (h₀ := X.base) I.ok.mod.kin hk hall (thn (ha.run pos pins s σ H _ I h) ?_) hpl
  rintro us s1 ⟨vs, H1, I1, r, z, q⟩
  refine ⟨I1.kIn, ?_⟩
  rw [hks]
  exact run_G (us := []) F hr hG (hb s1 us (by rw [← r.length]; exact z)) pass0 I1 (Vals.pick r π) q
def xCallK (π : List Nat) (ms : List Md) (Fm : Fn) (fs : Exs) : Ex := fun e => bnd (fs e) fun hs e1 => gd (decide (hs.length = π.length)) (bnd (xRun ms Fm ((pick π hs).map Ar.h) e1) fun r e3 => match r with
  | .v d => some (.val d, e3)
  | .o _ => none)
theorem he_callK (F : FnG X.prog X.w X.K X.mg X.base CX0 k f fd ps (spD X.K ms.length Fm)) (ho : oneMu ms = true) (hr : Room k X.A) (hG : X.A.guards = some []) (hg : Gl X x) (hm : X.mg x = some (.ref f)) (hk : PySem.W.keepIn X.K (.ref f) = true) (hb : KwB fd ps ks π) (hl : ks.length = π.length)
    (ha : HK X kws fs) (hall : (backToKw pos (keywordEach kws X.env)).all (·.1.isSome) = true := by rfl) (hks : (backToKw pos (keywordEach kws X.env)).filterMap (·.1) = ks := by rfl) (hdb : (x == ("__debug__" : Str)) = false := by decide)
    (hpl : ((backTo pos (starEach [] X.env)).any (·.1) || (backToKw pos (keywordEach kws X.env)).any (·.1.isNone)) = false := by rfl) :
    HE X (.Call (.Name x p) [] kws pos) (xCallK π ms Fm fs) := by
  refine pe_mono (pe_callKG F hr hG hg hm hk hb ha hall hks hdb hpl) fun σ H Q ⟨C, e, Fz, R, hd, e', q1, q2⟩ => ?_
  obtain ⟨hs, e1, w1, w2⟩ := bnd_eq q1
  obtain ⟨w0, w2⟩ := gd_eq w2
  obtain ⟨r, e3, w3, w4⟩ := bnd_eq w2
  refine ⟨C, e, Fz, R, hs, e1, w1, fun vs F1 H1 R1 s1 t1 => ⟨by rw [t1.length, hl]; exact of_decide_eq_true w0, ?_⟩⟩
  have t2 := (t1.pick π).rs (C := C) (e := e1) (H := H1)
  have hl : (pick π vs).length = ms.length := by
    obtain ⟨qs, e2, z, _⟩ := bnd_eq w3
    rw [t2.len, escA_len z]
  cases r with
  | v d =>
    cases w4
    exact xRun_ok ho R1 t2 w3 hl fun v F' H' R' s' rr => q2 v F' H' R' (s1.trans s') rr
  | o xs => cases w4
end
theorem funKw {K : KF} {x qual : Str} {st : Stmt} {f : Addr} {fd : FuncData} {ps ks : List Str} {π : List Nat} (F : Fun K x qual st f fd)
    (h : ∀ (kV doc pm : Value) (an : Option Addr) (cdv ct : Value) (us : List Value), us.length = ks.length → bindArgs (PySem.W.fnOf x qual (defArgs st) (defBody st) (defScope st) .none kV doc pm an cdv ct) ⟨[], ks.zip us⟩ = pure (ps.zip (pick π us))) : KwB fd ps ks π := by
  obtain ⟨oc, od, kV, doc, pm, an, cdv, ct, osl, rfl, lk, hcd⟩ := F.ex
  exact fun s us hl => .of_eq (h kV doc pm an cdv ct us hl)

/-! ### the law's own call -/
theorem law_callG {P : Program} {w : World} {K : KF} {mg mb : Str → Option Value} {k : Nat} {fa a : Addr} {fd : FuncData} {x : Str} {Fm : Fn} {s₁ : Shared} {vs : List Value} {ns : List Int}
    (inK : K.In s₁.heap) (hns : s₁.heap.Ns mainGlobals mg) (hb : s₁.heap.Ns builtinsNs mb) (hbb : ∀ x : Str, x ≠ "__name__" → mb x = bootBuiltins x) (hlim : s₁.heap.NoLimit) (hg : s₁.gens = #[])
    (ha : s₁.heap.get? a = some { cls := .type "list", data := .seq vs.toArray }) (hi : IntsAre vs ns) (hl : ns.length ≤ sizeLine) (hr : Room k callerA)
    (F : ∀ base : Heap, K.In base → base.Ns mainGlobals mg → FnG P w K mg base CX0 k fa fd [x] (spD K 1 Fm)) (hbind : ∀ (s : Shared) (u : Value), BindsTo s fd ⟨[u], []⟩ [(x, u)]) (hf : Fm [.sc ns] = some (.v (.bool true), none)) :
    codeAny (model P w) callerA (.call (.ref fa) ⟨[.ref a], []⟩) (fun r s' => r = .ok (.ret (.bool true)) ∧ OldK s₁.heap s'.heap ∧ s'.os = s₁.os ∧ AllBare s'.gens) s₁ := by
  have rv := vals_ints hi
  have go : ∀ H : Hp, Only H → SqL K H a (ns.map V.int) → HOk P w H s₁.heap → (∀ b, H b ≠ none → b = a) → (H a ≠ none → K.lookup a = none) →
      codeAny (model P w) callerA (.call (.ref fa) ⟨[.ref a], []⟩) (fun r s' => r = .ok (.ret (.bool true)) ∧ OldK s₁.heap s'.heap ∧ s'.os = s₁.os ∧ AllBare s'.gens) s₁ := by
    intro H hO hS hok hA hK
    have nd : ∀ {b : Addr} {o : Obj} {es : Array DictEntry} {ep : Nat}, s₁.heap.get? b = some o → o.data = .dict es ep → H b = none := by
      intro b o es ep e d
      by_cases q : H b = none
      · exact q
      · have hba := hA b q
        subst hba
        rw [ha] at e
        cases e
        exact nomatch (show Data.seq vs.toArray 0 = Data.dict es ep from d)
    have nsK : ∀ {b : Addr} {m : Str → Option Value}, s₁.heap.Ns b m → (hidT s₁.heap H).Ns b m := by
      rintro b m ⟨o, es, ep, e, d, r⟩
      exact ⟨o, es, ep, hidT_get e (nd e d), d, r⟩
    have inB : K.In (hidT s₁.heap H) := by
      intro b o e
      refine hidT_get (inK b o e) ?_
      by_cases q : H b = none
      · exact q
      · have hba := hA b q
        subst hba
        rw [hK q] at e
        cases e
    have e0 : Env0 P w K mg (hidT s₁.heap H) callerA [] s₁ H := by
      refine ⟨rfl, ⟨inB, nsK hns, ⟨mb, nsK hb, hbb⟩, ?_⟩, fun b o e => of_hidT e, Nat.le_of_eq (hidT_size _ _), trivial, fun b hb => ?_, hok, .of_eq hg⟩
      · obtain ⟨mc, h1, h2⟩ := hlim
        exact ⟨mc, nsK h1, h2⟩
      · exact absurd (show b ∈ ([] : List Addr) from hb) (by simp)
    have sp : spD K 1 Fm [.ref a] H (fun v _ => v = .bl true) (fun _ _ _ => False) := by
      refine ⟨rfl, H, none, [.sc ns], .refl _, .sc hS .nil, _, _, hf, fun v F' H' _ _ r => ?_⟩
      cases (show Rp K F' v (.bool true) from r)
      rfl
    refine codeAny_mono ((F _ inB (nsK hns)).run callerA [] s₁ H ⟨[.ref a], []⟩ [.ref a] [.ref a] _ _ hr rfl e0 (hbind s₁ (.ref a)) (.cons rfl .nil) sp) ?_
    intro r s' h
    match r, h with
    | .error e, h => exact False.elim h
    | .ok (.ret u), h =>
      obtain ⟨v, H', hos, bare, un, hok', r', q⟩ := h
      have q' : v = .bl true := q
      subst q'
      obtain rfl : u = Value.bool true := r'
      refine ⟨rfl, OldK.of_keep fun b o e => ?_, hos, bare⟩
      rcases hO b with z | ⟨ob, xs, z⟩
      · exact un.keep b o e z (fun z => absurd (show b ∈ ([] : List Addr) from z) (by simp)) (by simp)
      · obtain ⟨e1, _⟩ := hok b _ z
        obtain ⟨e2, _⟩ := hok' b _ (un.frzs b ob _ z)
        rw [e] at e1
        cases e1
        exact e2
  by_cases hk : K.lookup a = none
  · refine go (fun b => if b = a then some (.frz { cls := .type "list", data := .seq vs.toArray } (.lst (ns.map V.int))) else none) (fun b => ?_) (.inl (.inr ⟨{ cls := .type "list", data := .seq vs.toArray }, if_pos rfl⟩)) (fun b u z => ?_) (fun b z => ?_) fun _ => hk
    · by_cases h : b = a
      · exact .inr ⟨_, _, if_pos h⟩
      · exact .inl (if_neg h)
    · by_cases h : b = a
      · have z' := (if_pos h).symm.trans z
        cases z'
        subst h
        exact ⟨ha, by rw [List.length_map]; exact hl, vs, _, rv, ha⟩
      · cases (if_neg h).symm.trans z
    · by_cases h : b = a
      · exact h
      · exact absurd (if_neg h) z
  · obtain ⟨o, ho⟩ := Option.ne_none_iff_exists'.mp hk
    have e := inK a o ho
    rw [ha] at e
    cases e
    refine go (fun _ => none) (fun _ => .inl rfl) (.inr ⟨_, vs.toArray, _, ho, rfl, rfl, rfl, ?_, by simpa using rv⟩) (fun b u z => nomatch (show (none : Option HO) = some u from z)) (fun b z => absurd rfl z) fun z => absurd rfl z
    rw [List.size_toArray, ← rv.length, List.length_map]
    exact hl
/-- the goal that k_head leaves (case hc) -/
theorem walk_G {l : PySem.W.OpenLaw} {n k : Nat} {q : Program} {loose : List Str} {XP : (Str → Option Value) → Heap → Prop} {YP : World → Heap → Prop} {d : DefRec} {K : Params → PySem.W.Frag} {Fm : Fn} {x : Str}
    (hn : l.most = some n) (hn2 : n ≤ sizeLine) (hdf : d.params.defaults = []) (hr : Room k callerA) (hY : ∀ (w : World) (h : Heap), YP w h → (K w.params).In h)
    (F : ∀ (w : World) (mg : Str → Option Value) (fa : Addr) (h : Heap), (K w.params).In h → h.Ns mainGlobals mg → mg d.name = some (.ref fa) → ∃ fd : FuncData, (∀ (s : Shared) (u : Value), BindsTo s fd ⟨[u], []⟩ [(x, u)]) ∧
        ∀ base : Heap, (K w.params).In base → base.Ns mainGlobals mg → FnG l.prog w (K w.params) mg base CX0 k fa fd [x] (spD (K w.params) 1 Fm))
    (hf : ∀ ns : List Int, ns.length ≤ n → Fm [.sc ns] = some (.v (.bool true), none)) : PySem.W.WalkO q loose XP YP l.row.toRowW d [] (fun f vs => PySem.call f vs) := by
  refine Att.attach_call hn hdf ?_
  intro w s₀ s₁ mg mb fa o pm cd doc a vs ns G Y ho hd hcd hmg hobj hints hlen hg
  obtain ⟨fd, hb, hF⟩ := F w mg fa _ (hY w _ Y) G.T.g hmg
  exact law_callG (hY w _ Y) G.T.g G.T.b G.T.builtins G.T.nolimit hg hobj hints (Nat.le_trans hlen hn2) hr hF hb (hf ns hlen)
end DL
end
section
set_option maxRecDepth 100000
set_option maxHeartbeats 4000000
/-! DL, part 9: operations on data -/
namespace DL
open PySem PySem.Spec PyProof.Rows L2
/-! ### inversions -/
section
variable {K : KF} {F H : Hp} {v : V}
theorem RpT.str {x : Str} (r : RpT K F H v (.str x)) : v = .str x := by
  rcases r with r | ⟨_, _, _, _, e, _⟩
  · cases r
    rfl
  · cases e
theorem RpT.boo {b : Bool} (r : RpT K F H v (.bool b)) : v = .bl b := by
  rcases r with r | ⟨_, _, _, _, e, _⟩
  · cases r
    rfl
  · cases e
theorem RpT.nono (r : RpT K F H v .none) : v = .non := by
  rcases r with r | ⟨_, _, _, _, e, _⟩
  · cases r
    rfl
  · cases e
theorem RpT.notNon {d : D} (h : d ≠ .none) (r : RpT K F H v d) : v ≠ .non := by
  rcases r with r | ⟨_, _, _, e, _⟩
  · intro z
    subst z
    cases r
    exact h rfl
  · subst e
    exact fun z => nomatch z
theorem RpT.seq {ds : List D} (s : Same F H) (r : RpT K F H v (.list ds)) : ∃ b vs, v = .ref b ∧ SqL K H b vs ∧ RpA K F vs ds := by
  obtain ⟨b, vs, e, h1, h2⟩ := r.list s
  exact ⟨b, vs, e, .of h1, h2⟩
mutual
theorem Rp.dp (s : Same F H) : ∀ {v : V} {d : D}, Rp K F v d → d.canLay0 = true → Dp K H v d
  | _, _, .non, _ => .non
  | _, _, .bl b, _ => .bl b
  | _, _, .int i, _ => .int i
  | _, _, .str x, _ => .str x
  | _, _, .lst h r, c => .lst (.of (s _ _ h)) (RpA.dp s r c)
  | _, _, .tup h r, c => .tup (h.mono s).seq (RpA.dp s r c)
  | _, _, .dct h, c => absurd c Bool.false_ne_true
theorem RpA.dp (s : Same F H) : ∀ {vs : List V} {ds : List D}, RpA K F vs ds → PyData.canLayAll0 ds = true → DpAll K H vs ds
  | _, _, .nil, _ => .nil
  | _, _, .cons h r, c => .cons (Rp.dp s h (Bool.and_eq_true_iff.mp c).1) (RpA.dp s r (Bool.and_eq_true_iff.mp c).2)
end
theorem RpT.dp {d : D} (s : Same F H) (r : RpT K F H v d) (c : d.canLay0 = true) : Dp K H v d := by
  rcases r with r | ⟨a, vs, xs, rfl, rfl, h1, h2⟩
  · exact r.dp s c
  · exact .lst (.of h1) (h2.dp s c)
end
theorem opr_or {X : Cx} {f : Value → Value → Sem Value} {r r' : R2} (h : OpR X f r) (h' : OpR X f r') : OpR X f (fun x y H Q => r x y H Q ∨ r' x y H Q) := by
  intro pins s σ H x y v u Q I rx ry q
  rcases q with q | q
  · exact h pins s σ H x y v u Q I rx ry q
  · exact h' pins s σ H x y v u Q I rx ry q
theorem pe_or {X : Cx} {e : Expr} {t t' : TE} (h : PE X e t) (h' : PE X e t') : PE X e (fun σ H Q => t σ H Q ∨ t' σ H Q) :=
  ⟨fun pins s σ H Q I q => q.elim (h.run pins s σ H Q I) (h'.run pins s σ H Q I)⟩
/-! ### readings that give a new list -/
def Reads2L (K : KF) (r : R2) (o : D → D → Option (List D)) : Prop := ∀ F H x y d1 d2 ds Q, Same F H → RpT K F H x d1 → RpT K F H y d2 → o d1 d2 = some ds → (∀ vs p, RpA K F vs ds → H p = none → Q (.ref p) (upd H p (.lst vs))) → r x y H Q
def ReadsNL (K : KF) (r : List V → Hp → VK → Prop) (o : List D → Option (List D)) : Prop := ∀ F H xs ds es Q, Same F H → RpTs K F H xs ds → o ds = some es → (∀ vs p, RpA K F vs es → H p = none → Q (.ref p) (upd H p (.lst vs))) → r xs H Q
def oL (o : D → D → Option (List D)) : D → D → Option D := fun a b => obn (o a b) fun xs => some (.list xs)
def oNL (o : List D → Option (List D)) : List D → Option D := fun ds => obn (o ds) fun xs => some (.list xs)
theorem Reads2L.val {K : KF} {r : R2} {o : D → D → Option (List D)} (h : Reads2L K r o) : Reads2 K r (oL o) := by
  intro F H x y d1 d2 d Q s r1 r2 q k
  obtain ⟨ds, q1, q2⟩ := obn_eq q
  cases q2
  exact h F H x y d1 d2 ds Q s r1 r2 q1 fun vs p rp hp => k _ _ _ (Grow.one s hp) (Rp.lst upd_same (rp.mono (same_upd (s.free hp))))
theorem ReadsNL.val {K : KF} {r : List V → Hp → VK → Prop} {o : List D → Option (List D)} (h : ReadsNL K r o) : ReadsN K r (oNL o) := by
  intro F H xs ds d Q s r1 q k
  obtain ⟨es, q1, q2⟩ := obn_eq q
  cases q2
  exact h F H xs ds es Q s r1 q1 fun vs p rp hp => k _ _ _ (Grow.one s hp) (Rp.lst upd_same (rp.mono (same_upd (s.free hp))))
def yB (o : D → D → Option (List D)) (fa fb : Ex) : Fx := fun e => bnd (fa e) fun h1 e1 => bnd (fb e1) fun h2 e2 => obn (h1.get e2) fun d1 => obn (h2.get e2) fun d2 => obn (o d1 d2) fun d => some (d, e2)
def yN (o : List D → Option (List D)) (fs : Exs) : Fx := fun e => bnd (fs e) fun hs e1 => obn (gets e1 hs) fun ds => obn (o ds) fun d => some (d, e1)
section
variable {X : Cx} {a b : Expr} {fa fb : Ex} {pos : Pos}
theorem fe_op {op : Operator} {r : R2} {o : D → D → Option (List D)} (ho : OpR X (binaryOp op) r) (hs : Reads2L X.K r o) (ha : HE X a fa) (hb : HE X b fb) : FE X (.BinOp a op b pos) (yB o fa fb) := by
  refine pe_mono (pe_op ho ha hb) fun σ H Q ⟨C, e, F, R, xs, e', h1, h2⟩ => ?_
  obtain ⟨g1, e1, q1, h1⟩ := bnd_eq h1
  obtain ⟨g2, e2, q2, h1⟩ := bnd_eq h1
  obtain ⟨d1, q3, h1⟩ := obn_eq h1
  obtain ⟨d2, q4, h1⟩ := obn_eq h1
  obtain ⟨d, q5, h1⟩ := obn_eq h1
  cases h1
  refine ⟨C, e, F, R, g1, e1, q1, fun v1 F1 H1 R1 s1 r1 => ?_⟩
  refine ⟨C, e1, F1, R1, g2, _, q2, fun v2 F2 H2 R2 s2 r2 => ?_⟩
  refine hs F2 H2 v1 v2 d1 d2 _ Q R2.sub ((r1.mono s2).get R2 q3) (r2.get R2 q4) q5 fun vs p rp hp => ?_
  exact tF_new R2 rp hp fun a vs F' H' z1 z2 => h2 a vs F' H' z1 (s1.trans (s2.trans z2))
variable {id T : String} {r : List V → Hp → VK → Prop} {o : List D → Option (List D)} {fs : Exs} {x : Str} {p : Pos} {es : List Expr}
theorem tNL_of {K : KF} {r : List V → Hp → VK → Prop} {o : List D → Option (List D)} {fs : Exs} (hs : ReadsNL K r o) {σ : St} {H : Hp} {Q : VK} (h : tF K (yN o fs) σ H Q) : tHs K fs σ H fun vs H1 => r vs H1 Q := by
  obtain ⟨C, e, F, R, xs, e', h1, h2⟩ := h
  obtain ⟨g1, e1, q1, h1⟩ := bnd_eq h1
  obtain ⟨d1, q3, h1⟩ := obn_eq h1
  obtain ⟨d, q5, h1⟩ := obn_eq h1
  cases h1
  refine ⟨C, e, F, R, g1, _, q1, fun v1 F1 H1 R1 s1 r1 => ?_⟩
  refine hs F1 H1 v1 d1 _ Q R1.sub (r1.gets R1 q3) q5 fun vs p rp hp => ?_
  exact tF_new R1 rp hp fun a vs F' H' z1 z2 => h2 a vs F' H' z1 (s1.trans z2)
theorem fe_callB (hc : CallR X (.builtin id) r) (hr : ReadsNL X.K r o) (hg : Gl X x) (hm : X.mg x = none) (hv : bootBuiltins x = some (.builtin id)) (ha : HA X (a :: es) fs) (hn : x ≠ "__name__" := by decide) (hdb : (x == ("__debug__" : Str)) = false := by decide)
    (hs : starEach (a :: es) X.env = (false, eval a X.env) :: starEach es X.env := by rfl) (hpl : (backTo pos (starEach es X.env)).any (·.1) = false := by rfl) :
    FE X (.Call (.Name x p) (a :: es) [] pos) (yN o fs) := pe_mono (pe_callB hc hg hm hv ha hn hdb hs hpl) fun σ H Q h => tNL_of hr h
theorem fe_callTy (hc : CallR X (.type T) r) (hr : ReadsNL X.K r o) (hg : Gl X x) (hm : X.mg x = none) (hv : bootBuiltins x = some (.type T)) (ha : HA X (a :: es) fs) (hn : x ≠ "__name__" := by decide) (hdb : (x == ("__debug__" : Str)) = false := by decide)
    (hs : starEach (a :: es) X.env = (false, eval a X.env) :: starEach es X.env := by rfl) (hpl : (backTo pos (starEach es X.env)).any (·.1) = false := by rfl) :
    FE X (.Call (.Name x p) (a :: es) [] pos) (yN o fs) := pe_mono (pe_callTy hc hg hm hv ha hn hdb hs hpl) fun σ H Q h => tNL_of hr h
end
/-! ### a new tuple, known to the object -/
section
variable {X : Cx} {pins : List (Addr × Obj)} {σ : St} {H : Hp} {s : Shared}
abbrev tupO (us : List Value) : Obj := { cls := .type "tuple", data := .seq us.toArray }
theorem newT {xs : List V} {us : List Value} (I : Inv X pins σ H s) (r : Vals xs us) (z : xs.length ≤ sizeLine) :
    Inv X pins σ (upd H s.heap.objs.size (.frz (tupO us) (.tup xs))) { s with heap := s.heap.push (tupO us) } ∧ H s.heap.objs.size = none := by
  have fr : H s.heap.objs.size = none := I.hok.fresh (Nat.le_refl _)
  have at0 := Heap.get?_push_size s.heap (o := tupO us) rfl
  exact ⟨I.laid (t' := s.toks) (o := .frz (tupO us) (.tup xs)) (fun c u w => Heap.get?_push_of_some _ w) (Nat.le_refl _) ⟨at0, z, us, r, ⟨_, at0, rfl, _, rfl⟩⟩, fr⟩
end
/-- what a reading hands on of a new tuple -/
def kT (xs : List V) (H : Hp) (Q : VK) : Prop := ∀ p o, o.dict = none → H p = none → Q (.ref p) (upd H p (.frz o (.tup xs)))
theorem kT_of {K : KF} {F H : Hp} {xs : List V} {ds : List D} {Q : VK} (s : Same F H) (r : RpA K F xs ds) (k : ∀ v F' H', Grow F H F' H' → Rp K F' v (.tuple ds) → Q v H') : kT xs H Q := fun p o ho hp =>
  k _ _ _ (Grow.one s hp) (Rp.tup ⟨o, upd_same, ho⟩ (r.mono (same_upd (s.free hp))))
section
variable {X : Cx}
/-- t + u -/
def rCatF (K : KF) : R2 := fun x y H Q => ∃ a b xs ys, x = .ref a ∧ y = .ref b ∧ SqT K H a xs ∧ SqT K H b ys ∧ xs.length + ys.length ≤ sizeLine ∧
  (xs = [] → Q (.ref b) H) ∧ (xs ≠ [] → ys = [] → Q (.ref a) H) ∧ (xs ≠ [] → ys ≠ [] → kT (xs ++ ys) H Q)
theorem op_catF : OpR X (binaryOp .Add) (rCatF X.K) := by
  intro pins s σ H x y v u Q I rx ry h
  obtain ⟨a, b, xs, ys, rfl, rfl, ha, hb, hz, q0, q1, q2⟩ := h
  cases rx
  cases ry
  obtain ⟨its, r1, p1, _⟩ := I.tuple ha
  obtain ⟨its2, r2, p2, _⟩ := I.tuple hb
  by_cases hx : xs = []
  · subst hx
    cases r1
    exact cat_tup0 p1 p2 ⟨.ref b, H, I, rfl, q0 rfl⟩
  · refine HT.cat_tup p1 p2 (fun z => hx (r1.nil_iff.mp z)) (fun z => ⟨.ref a, H, I, rfl, q1 hx (r2.nil_iff.mp z)⟩) (fun z => ?_) (by rw [← r1.length, ← r2.length]; exact hz)
    obtain ⟨I', fr⟩ := newT I (r1.append r2) (by rw [List.length_append]; exact hz)
    exact ⟨.ref s.heap.objs.size, _, I', rfl, q2 hx (fun w => z (r2.nil_iff.mpr w)) _ _ rfl fr⟩
def rAdd (K : KF) : R2 := fun x y H Q => rI0 (fun i j => .int (i + j)) x y H Q ∨ rCatF K x y H Q ∨ rCat x y H Q ∨ ∃ i j, x = .str i ∧ y = .str j ∧ i.length + j.length ≤ sizeLine ∧ Q (.str (i ++ j)) H
theorem op_addD : OpR X (binaryOp .Add) (rAdd X.K) := opr_or op_add (opr_or op_catF (opr_or op_cat op_add_str))
end
def addD : D → D → Option D
  | .int i, .int j => some (.int (i + j))
  | .str a, .str b => gd (decide (a.length + b.length ≤ lim)) (some (.str (a ++ b)))
  | .list xs, .list ys => gd (decide (xs.length + ys.length ≤ lim)) (some (.list (xs ++ ys)))
  | .tuple xs, .tuple ys => gd (decide (xs.length + ys.length ≤ lim)) (some (.tuple (xs ++ ys)))
  | _, _ => none
theorem reads_add {K : KF} : Reads2 K (rAdd K) addD := by
  intro F H x y d1 d2 d Q s r1 r2 q k
  cases d1 with
  | int i => cases d2 with
    | int j =>
      cases q
      have e1 := r1.int
      have e2 := r2.int
      subst e1
      subst e2
      exact .inl ⟨i, j, rfl, rfl, k _ F H (.refl s) (.int _)⟩
    | _ => cases q
  | str i => cases d2 with
    | str j =>
      obtain ⟨q1, q2⟩ := gd_eq q
      cases q2
      have e1 := r1.str
      have e2 := r2.str
      subst e1
      subst e2
      exact .inr (.inr (.inr ⟨i, j, rfl, rfl, lim_ok (of_decide_eq_true q1), k _ F H (.refl s) (.str _)⟩))
    | _ => cases q
  | list i => cases d2 with
    | list j =>
      obtain ⟨q1, q2⟩ := gd_eq q
      cases q2
      obtain ⟨a, vs, rfl, h1, h2⟩ := r1.list s
      obtain ⟨b, us, rfl, h3, h4⟩ := r2.list s
      refine .inr (.inr (.inl ⟨a, b, vs, us, rfl, rfl, h1, h3, by rw [h2.length, h4.length]; exact lim_ok (of_decide_eq_true q1), fun p hp => ?_⟩))
      exact k _ _ _ (Grow.one s hp) (Rp.lst upd_same ((h2.append h4).mono (same_upd (s.free hp))))
    | _ => cases q
  | tuple i => cases d2 with
    | tuple j =>
      obtain ⟨q1, q2⟩ := gd_eq q
      cases q2
      obtain ⟨a, vs, rfl, h1, h2⟩ := r1.tuple s
      obtain ⟨b, us, rfl, h3, h4⟩ := r2.tuple s
      refine .inr (.inl ⟨a, b, vs, us, rfl, rfl, h1.seq, h3.seq, by rw [h2.length, h4.length]; exact lim_ok (of_decide_eq_true q1), fun z => ?_, fun _ z => ?_, fun _ _ => kT_of s (h2.append h4) k⟩)
      · subst z
        cases h2
        rcases r2 with r2 | ⟨_, _, _, _, e, _⟩
        · exact k _ F H (.refl s) r2
        · cases e
      · subst z
        cases h4
        rcases r1 with r1 | ⟨_, _, _, _, e, _⟩
        · exact k _ F H (.refl s) (by rw [List.append_nil]; exact r1)
        · cases e
    | _ => cases q
  | _ => cases q
/-- list + list, new -/
def catL : D → D → Option (List D)
  | .list xs, .list ys => gd (decide (xs.length + ys.length ≤ lim)) (some (xs ++ ys))
  | _, _ => none
theorem reads_catL {K : KF} : Reads2L K rCat catL := by
  intro F H x y d1 d2 d Q s r1 r2 q k
  cases d1 with
  | list i => cases d2 with
    | list j =>
      obtain ⟨q1, q2⟩ := gd_eq q
      cases q2
      obtain ⟨a, vs, rfl, h1, h2⟩ := r1.list s
      obtain ⟨b, us, rfl, h3, h4⟩ := r2.list s
      exact ⟨a, b, vs, us, rfl, rfl, h1, h3, by rw [h2.length, h4.length]; exact lim_ok (of_decide_eq_true q1), fun p hp => k _ p (h2.append h4) hp⟩
    | _ => cases q
  | _ => cases q
/-! ints -/
def subD : D → D → Option D
  | .int i, .int j => some (.int (i - j))
  | _, _ => none
theorem reads_sub {K : KF} : Reads2 K (rI0 fun i j => .int (i - j)) subD := by
  intro F H x y d1 d2 d Q s r1 r2 q k
  cases d1 with
  | int i => cases d2 with
    | int j =>
      cases q
      have e1 := r1.int
      have e2 := r2.int
      subst e1
      subst e2
      exact ⟨i, j, rfl, rfl, k _ F H (.refl s) (.int _)⟩
    | _ => cases q
  | _ => cases q
/-- a bound on factors and divisors -/
abbrev wid : Nat := 2 ^ 4000
def modD : D → D → Option D
  | .int i, .int j => gd (decide (0 < j)) (some (.int (i % j)))
  | _, _ => none
theorem reads_mod {K : KF} : Reads2 K (rI (fun _ j => 0 < j) fun i j => .int (i % j)) modD := by
  intro F H x y d1 d2 d Q s r1 r2 q k
  cases d1 with
  | int i => cases d2 with
    | int j =>
      obtain ⟨q1, q2⟩ := gd_eq q
      cases q2
      have e1 := r1.int
      have e2 := r2.int
      subst e1
      subst e2
      exact ⟨i, j, rfl, rfl, of_decide_eq_true q1, k _ F H (.refl s) (.int _)⟩
    | _ => cases q
  | _ => cases q
def divD : D → D → Option D
  | .int i, .int j => gd (decide (0 < j) && decide (j.natAbs < wid)) (some (.int (i / j)))
  | _, _ => none
theorem reads_div {K : KF} : Reads2 K (rI CDivW fun i j => .int (i / j)) divD := by
  intro F H x y d1 d2 d Q s r1 r2 q k
  cases d1 with
  | int i => cases d2 with
    | int j =>
      obtain ⟨q1, q2⟩ := gd_eq q
      cases q2
      have e1 := r1.int
      have e2 := r2.int
      subst e1
      subst e2
      obtain ⟨q3, q4⟩ := Bool.and_eq_true_iff.mp q1
      exact ⟨i, j, rfl, rfl, wide_div (b := 4000) (of_decide_eq_true q3) (of_decide_eq_true q4) (by decide) (by decide), k _ F H (.refl s) (.int _)⟩
    | _ => cases q
  | _ => cases q
def mulOk (i j : Int) : Bool := decide (i.natAbs < wid) && decide (j.natAbs < wid)
/-- list * int, new -/
def repL : D → D → Option (List D)
  | .list xs, .int k => gd (inB k && decide (xs.length * k.toNat ≤ lim)) (some (List.replicate k.toNat xs).flatten)
  | _, _ => none
def mulD : D → D → Option D
  | .int i, .int j => gd (mulOk i j) (some (.int (i * j)))
  | .list xs, .int k => obn (repL (.list xs) (.int k)) fun ys => some (.list ys)
  | _, _ => none
theorem reads_repL {K : KF} : Reads2L K rRep repL := by
  intro F H x y d1 d2 d Q s r1 r2 q k
  cases d1 with
  | list i => cases d2 with
    | int j =>
      obtain ⟨q1, q2⟩ := gd_eq q
      cases q2
      obtain ⟨q3, q4⟩ := Bool.and_eq_true_iff.mp q1
      obtain ⟨b1, b2⟩ := inB_ok q3
      obtain ⟨a, vs, rfl, h1, h2⟩ := r1.list s
      have e2 := r2.int
      subst e2
      exact ⟨a, j, vs, rfl, rfl, h1, by omega, by omega, by rw [h2.length]; exact lim_ok (of_decide_eq_true q4), fun p hp => k _ p (h2.rep _) hp⟩
    | _ => cases q
  | _ => cases q
def rMul : R2 := fun x y H Q => rI CMulW (fun i j => .int (i * j)) x y H Q ∨ rRep x y H Q
theorem op_mulD {X : Cx} : OpR X (binaryOp .Mult) rMul := opr_or op_mulW op_rep
theorem reads_mul {K : KF} : Reads2 K rMul mulD := by
  intro F H x y d1 d2 d Q s r1 r2 q k
  cases d1 with
  | int i => cases d2 with
    | int j =>
      obtain ⟨q1, q2⟩ := gd_eq q
      cases q2
      have e1 := r1.int
      have e2 := r2.int
      subst e1
      subst e2
      obtain ⟨q3, q4⟩ := Bool.and_eq_true_iff.mp q1
      exact .inl ⟨i, j, rfl, rfl, wide_mul (a := 4000) (b := 4000) (of_decide_eq_true q3) (of_decide_eq_true q4) (by decide) (by decide) (by decide), k _ F H (.refl s) (.int _)⟩
    | _ => cases q
  | list i => cases d2 with
    | int j => exact .inr (reads_repL.val F H x y _ _ d Q s r1 r2 q k)
    | _ => cases q
  | _ => cases q
def powD : D → D → Option D
  | .int i, .int j => gd (decide (0 ≤ j) && decide (j ≤ 1000) && decide (i.natAbs < 1000)) (some (.int (i ^ j.toNat)))
  | _, _ => none
theorem reads_pow {K : KF} : Reads2 K (rI CPow fun i j => .int (i ^ j.toNat)) powD := by
  intro F H x y d1 d2 d Q s r1 r2 q k
  cases d1 with
  | int i => cases d2 with
    | int j =>
      obtain ⟨q1, q2⟩ := gd_eq q
      cases q2
      have e1 := r1.int
      have e2 := r2.int
      subst e1
      subst e2
      obtain ⟨q3, q4⟩ := Bool.and_eq_true_iff.mp q1
      obtain ⟨q5, q6⟩ := Bool.and_eq_true_iff.mp q3
      have h1 := of_decide_eq_true q4
      have h2 := of_decide_eq_true q5
      have h3 := of_decide_eq_true q6
      exact ⟨i, j, rfl, rfl, ⟨h2, by omega, by omega⟩, k _ F H (.refl s) (.int _)⟩
    | _ => cases q
  | _ => cases q
def negD : D → Option D
  | .int i => some (.int (-i))
  | _ => none
theorem reads_neg {K : KF} : Reads1 K (rU fun i => .int (-i)) negD := by
  intro F H x d1 d Q s r1 q k
  cases d1 with
  | int i =>
    cases q
    have e1 := r1.int
    subst e1
    exact ⟨i, rfl, k _ F H (.refl s) (.int _)⟩
  | _ => cases q
/-! ### comparisons -/
def eqD : D → D → Option D
  | .str a, .str b => some (.bool (a == b))
  | d1, d2 => gd (SeqAt.shaped d1 && SeqAt.shaped d2) (some (.bool (PyData.eqv d1 d2)))
def neD : D → D → Option D
  | .str a, .str b => some (.bool (!(a == b)))
  | d1, d2 => gd (SeqAt.shaped d1 && SeqAt.shaped d2) (some (.bool (!PyData.eqv d1 d2)))
abbrev rEqA (K : KF) : R2 := fun x y H Q => rEq x y H Q ∨ rEqD K x y H Q
abbrev rNeA (K : KF) : R2 := fun x y H Q => rNe x y H Q ∨ rNeD K x y H Q
theorem op_eqA {X : Cx} (hu : X.A.units + 64 < cLine) : OpR X (compareOp .Eq) (rEqA X.K) := opr_or op_eq (op_eqD hu)
theorem op_neA {X : Cx} (hu : X.A.units + 64 < cLine) : OpR X (compareOp .NotEq) (rNeA X.K) := opr_or op_ne (op_neD hu)
theorem eqD_cases {d1 d2 d : D} (h : eqD d1 d2 = some d) : (∃ a b, d1 = .str a ∧ d2 = .str b ∧ d = .bool (a == b)) ∨ gd (SeqAt.shaped d1 && SeqAt.shaped d2) (some (.bool (PyData.eqv d1 d2))) = some d := by
  unfold eqD at h
  split at h
  · cases h
    exact .inl ⟨_, _, rfl, rfl, rfl⟩
  · exact .inr h
theorem neD_cases {d1 d2 d : D} (h : neD d1 d2 = some d) : (∃ a b, d1 = .str a ∧ d2 = .str b ∧ d = .bool (!(a == b))) ∨ gd (SeqAt.shaped d1 && SeqAt.shaped d2) (some (.bool (!PyData.eqv d1 d2))) = some d := by
  unfold neD at h
  split at h
  · cases h
    exact .inl ⟨_, _, rfl, rfl, rfl⟩
  · exact .inr h
theorem reads_eq {K : KF} : Reads2 K (rEqA K) eqD := by
  intro F H x y d1 d2 d Q s r1 r2 q k
  rcases eqD_cases q with ⟨a, b, rfl, rfl, rfl⟩ | q
  · rw [r1.str, r2.str]
    refine .inl ⟨rfl, ?_⟩
    rw [dec_str]
    exact k _ F H (.refl s) (.bl _)
  · obtain ⟨q1, q2⟩ := gd_eq q
    cases q2
    obtain ⟨q3, q4⟩ := Bool.and_eq_true_iff.mp q1
    exact .inr ⟨d1, d2, r1.dp s (SeqAt.canLay_of_shaped q3), r2.dp s (SeqAt.canLay_of_shaped q4), q3, q4, k _ F H (.refl s) (.bl _)⟩
theorem reads_ne {K : KF} : Reads2 K (rNeA K) neD := by
  intro F H x y d1 d2 d Q s r1 r2 q k
  rcases neD_cases q with ⟨a, b, rfl, rfl, rfl⟩ | q
  · rw [r1.str, r2.str]
    refine .inl ⟨rfl, ?_⟩
    rw [dec_str]
    exact k _ F H (.refl s) (.bl _)
  · obtain ⟨q1, q2⟩ := gd_eq q
    cases q2
    obtain ⟨q3, q4⟩ := Bool.and_eq_true_iff.mp q1
    exact .inr ⟨d1, d2, r1.dp s (SeqAt.canLay_of_shaped q3), r2.dp s (SeqAt.canLay_of_shaped q4), q3, q4, k _ F H (.refl s) (.bl _)⟩
def cmpI (f : Int → Int → Bool) : D → D → Option D
  | .int i, .int j => some (.bool (f i j))
  | _, _ => none
theorem reads_cmpI {K : KF} (f : Int → Int → Bool) : Reads2 K (rI0 fun i j => .bl (f i j)) (cmpI f) := by
  intro F H x y d1 d2 d Q s r1 r2 q k
  cases d1 with
  | int i => cases d2 with
    | int j =>
      cases q
      have e1 := r1.int
      have e2 := r2.int
      subst e1
      subst e2
      exact ⟨i, j, rfl, rfl, k _ F H (.refl s) (.bl _)⟩
    | _ => cases q
  | _ => cases q
abbrev ltD : D → D → Option D := cmpI fun i j => decide (i < j)
abbrev leD : D → D → Option D := cmpI fun i j => decide (i ≤ j)
abbrev gtD : D → D → Option D := cmpI fun i j => decide (j < i)
abbrev geD : D → D → Option D := cmpI fun i j => decide (j ≤ i)
/-! in -/
def flatD : D → Bool
  | .none => true
  | .bool _ => true
  | .int _ => true
  | .str _ => true
  | _ => false
theorem Rp.flat {K : KF} {F : Hp} {v : V} {d : D} (r : Rp K F v d) (h : flatD d = true) : flatV v = true := by
  cases r <;> first | rfl | cases h
theorem RpA.flat {K : KF} {F : Hp} : ∀ {vs : List V} {ds : List D}, RpA K F vs ds → ds.all flatD = true → vs.all flatV = true
  | _, _, .nil, _ => rfl
  | _, _, .cons r t, h => by
    rw [List.all_cons, Bool.and_eq_true] at h ⊢
    exact ⟨r.flat h.1, RpA.flat t h.2⟩
theorem Rp.eqv {K : KF} {F F' : Hp} {v u : V} {d e : D} (r : Rp K F v d) (t : Rp K F' u e) (h : flatD d = true) (h' : flatD e = true) : eqV v u = PyData.eqv d e := by
  cases r <;> first | exact absurd h Bool.false_ne_true | (cases t <;> first | exact absurd h' Bool.false_ne_true | (simp only [PyData.eqv]; rfl) | rfl)
theorem RpA.inV {K : KF} {F F' : Hp} {u : V} {e : D} (t : Rp K F' u e) (h' : flatD e = true) : ∀ {vs : List V} {ds : List D}, RpA K F vs ds → ds.all flatD = true → L2.inV u vs = ds.any fun z => PyData.eqv z e
  | _, _, .nil, _ => rfl
  | _, _, .cons r s, h => by
    rw [List.all_cons, Bool.and_eq_true] at h
    unfold L2.inV
    rw [List.any_cons, List.any_cons, r.eqv t h.1 h']
    congr 1
    exact RpA.inV t h' s h.2
/-- d in e: flat items in a tuple, items of any kind in a list -/
def inD (d : D) : D → Option Bool
  | .list xs => gd (SeqAt.shaped d && SeqAt.shaped (.list xs)) (some (xs.any fun z => PyData.eqv z d))
  | .tuple xs => gd (flatD d && xs.all flatD) (some (xs.any fun z => PyData.eqv z d))
  | _ => none
def isIn (d e : D) : Option D := obn (inD d e) fun b => some (.bool b)
def notIn (d e : D) : Option D := obn (inD d e) fun b => some (.bool (!b))
theorem op_isIn {X : Cx} (hu : X.A.units + 65 < cLine) : OpR X (compareOp .In) (fun x y H Q => rInD X.K x y H Q ∨ rIn X.K false x y H Q) := opr_or (op_inD hu) op_in_seq
theorem op_notInA {X : Cx} (hu : X.A.units + 65 < cLine) : OpR X (compareOp .NotIn) (fun x y H Q => rNotInD X.K x y H Q ∨ rIn X.K true x y H Q) := opr_or (op_notInD hu) op_notIn_seq
theorem RpT.flatRp {K : KF} {F H : Hp} {v : V} {d : D} (r : RpT K F H v d) (h : flatD d = true) : Rp K F v d := by
  rcases r with r | ⟨_, _, _, _, e, _⟩
  · exact r
  · subst e
    cases h
theorem reads_in {K : KF} : Reads2 K (fun x y H Q => rInD K x y H Q ∨ rIn K false x y H Q) isIn := by
  intro F H x y d1 d2 d Q s r1 r2 q k
  obtain ⟨b, q1, q2⟩ := obn_eq q
  cases q2
  cases d2 with
  | list xs =>
    obtain ⟨q3, q4⟩ := gd_eq q1
    cases q4
    obtain ⟨q5, q6⟩ := Bool.and_eq_true_iff.mp q3
    exact .inl ⟨d1, xs, r1.dp s (SeqAt.canLay_of_shaped q5), r2.dp s (SeqAt.canLay_of_shaped q6), q5, q6, k _ F H (.refl s) (.bl _)⟩
  | tuple xs =>
    obtain ⟨q3, q4⟩ := gd_eq q1
    cases q4
    obtain ⟨q5, q6⟩ := Bool.and_eq_true_iff.mp q3
    obtain ⟨a, vs, rfl, h1, h2⟩ := r2.tuple s
    have t := r1.flatRp q5
    refine .inr ⟨a, vs, rfl, .inr h1.seq, t.flat q5, h2.flat q6, ?_⟩
    have e := RpA.inV t q5 h2 q6
    rw [if_neg Bool.false_ne_true, e]
    exact k _ F H (.refl s) (.bl _)
  | _ => cases q1
theorem reads_notIn {K : KF} : Reads2 K (fun x y H Q => rNotInD K x y H Q ∨ rIn K true x y H Q) notIn := by
  intro F H x y d1 d2 d Q s r1 r2 q k
  obtain ⟨b, q1, q2⟩ := obn_eq q
  cases q2
  cases d2 with
  | list xs =>
    obtain ⟨q3, q4⟩ := gd_eq q1
    cases q4
    obtain ⟨q5, q6⟩ := Bool.and_eq_true_iff.mp q3
    exact .inl ⟨d1, xs, r1.dp s (SeqAt.canLay_of_shaped q5), r2.dp s (SeqAt.canLay_of_shaped q6), q5, q6, k _ F H (.refl s) (.bl _)⟩
  | tuple xs =>
    obtain ⟨q3, q4⟩ := gd_eq q1
    cases q4
    obtain ⟨q5, q6⟩ := Bool.and_eq_true_iff.mp q3
    obtain ⟨a, vs, rfl, h1, h2⟩ := r2.tuple s
    have t := r1.flatRp q5
    refine .inr ⟨a, vs, rfl, .inr h1.seq, t.flat q5, h2.flat q6, ?_⟩
    have e := RpA.inV t q5 h2 q6
    rw [if_pos rfl, e]
    exact k _ F H (.refl s) (.bl _)
  | _ => cases q1
/-! is -/
def isNo : D → Bool
  | .none => true
  | _ => false
def isD : D → D → Option Bool
  | d, .none => some (isNo d)
  | .bool a, .bool b => some (a == b)
  | _, _ => none
def isO (d e : D) : Option D := obn (isD d e) fun b => some (.bool b)
def isNotO (d e : D) : Option D := obn (isD d e) fun b => some (.bool (!b))
abbrev rIsA : R2 := fun x y H Q => (y = .non ∧ Q (.bl (decide (x = .non))) H) ∨ rIsB x y H Q
abbrev rIsNotA : R2 := fun x y H Q => (y = .non ∧ Q (.bl (!decide (x = .non))) H) ∨ rNotB x y H Q
theorem op_isA {X : Cx} : OpR X (compareOp .Is) rIsA := opr_or op_isN op_isBl
theorem op_isNotA {X : Cx} : OpR X (compareOp .IsNot) rIsNotA := opr_or op_notN op_notBl
theorem isD_non {K : KF} {F H : Hp} {x : V} {d : D} (r : RpT K F H x d) : decide (x = .non) = isNo d := by
  cases d with
  | none => exact decide_eq_true r.nono
  | _ => exact decide_eq_false (RpT.notNon (by intro z; cases z) r)
theorem isD_eq {d1 d2 : D} {b : Bool} (h : isD d1 d2 = some b) : (d2 = .none ∧ b = isNo d1) ∨ ∃ i j, d1 = .bool i ∧ d2 = .bool j ∧ b = (i == j) := by
  cases d2 with
  | none =>
    cases h
    exact .inl ⟨rfl, rfl⟩
  | bool j => cases d1 with
    | bool i =>
      cases h
      exact .inr ⟨i, j, rfl, rfl, rfl⟩
    | _ => cases h
  | _ => cases d1 <;> cases h
theorem reads_is {K : KF} : Reads2 K rIsA isO := by
  intro F H x y d1 d2 d Q s r1 r2 q k
  obtain ⟨b, q1, q2⟩ := obn_eq q
  cases q2
  rcases isD_eq q1 with ⟨rfl, rfl⟩ | ⟨i, j, rfl, rfl, rfl⟩
  · refine .inl ⟨r2.nono, ?_⟩
    rw [isD_non r1]
    exact k _ F H (.refl s) (.bl _)
  · have e1 := r1.boo
    have e2 := r2.boo
    subst e1
    subst e2
    refine .inr ⟨i, j, rfl, rfl, k _ F H (.refl s) ?_⟩
    rw [show decide (i = j) = (i == j) by cases i <;> cases j <;> rfl]
    exact .bl _
theorem reads_isNot {K : KF} : Reads2 K rIsNotA isNotO := by
  intro F H x y d1 d2 d Q s r1 r2 q k
  obtain ⟨b, q1, q2⟩ := obn_eq q
  cases q2
  rcases isD_eq q1 with ⟨rfl, rfl⟩ | ⟨i, j, rfl, rfl, rfl⟩
  · refine .inl ⟨r2.nono, ?_⟩
    rw [isD_non r1]
    exact k _ F H (.refl s) (.bl _)
  · have e1 := r1.boo
    have e2 := r2.boo
    subst e1
    subst e2
    refine .inr ⟨i, j, rfl, rfl, k _ F H (.refl s) ?_⟩
    rw [show decide (i = j) = (i == j) by cases i <;> cases j <;> rfl]
    exact .bl _
/-! ### chains -/
section
variable {X : Cx} {a b c : Expr} {fa fb fc : Ex} {pos : Pos}
theorem he_chain {op op' : CmpOp} {r r' : R2} {o o' : D → D → Option D} (ho : OpR X (compareOp op) r) (ho' : OpR X (compareOp op') r') (hs : Reads2 X.K r o) (hs' : Reads2 X.K r' o') (ha : HE X a fa) (hb : HE X b fb) (hc : HE X c fc)
    (hm : lastMarks [op, op'] [b, c] = false := by with_unfolding_all rfl) : HE X (.Compare a [op, op'] [b, c] pos) (xCh o o' fa fb fc) :=
  pe_mono (pe_chain ho ho' ha hb hc hm) fun σ H Q h => tCh_of hs hs' h
end
section
variable {X : Cx} {a b c : Expr} {fa fb fc : Ex} {pos : Pos}
theorem ht_chain {op op' : CmpOp} {r r' : R2} {o o' : D → D → Option D} (ho : OpR X (compareOp op) r) (ho' : OpR X (compareOp op') r') (hs : Reads2 X.K r o) (hs' : Reads2 X.K r' o') (ha : HE X a fa) (hb : HE X b fb) (hc : HE X c fc)
    (hm : lastMarks [op, op'] [b, c] = false := by with_unfolding_all rfl) : HT X (.Compare a [op, op'] [b, c] pos) (sT (xCh o o' fa fb fc)) :=
  pt_mono (pt_chain ho ho' ha hb hc hm) fun σ H Q h => tCh_of hs hs' (tT_of h)
end
/-! ### subscripts -/
theorem RpA.atI {K : KF} {F : Hp} {vs : List V} {ds : List D} {i : Int} {d : D} (r : RpA K F vs ds) (h : L2.atI ds i = some d) : ∃ v, L2.atI vs i = some v ∧ Rp K F v d := by
  unfold L2.atI at h ⊢
  rw [r.length]
  cases q : ixN ds.length i with
  | none =>
    rw [q] at h
    cases h
  | some j =>
    rw [q] at h
    exact r.get h
def ixD : D → D → Option D
  | .list xs, .int i => atI xs i
  | .tuple xs, .int i => atI xs i
  | _, _ => none
abbrev rIxA (K : KF) : R2 := fun x y H Q => rIxL K x y H Q ∨ rIxT K x y H Q
theorem ix_any {X : Cx} : IxR X (rIxA X.K) := ix_list.or ix_tup
theorem reads_ix {K : KF} : Reads2 K (rIxA K) ixD := by
  intro F H x y d1 d2 d Q s r1 r2 q k
  cases d1 with
  | list xs => cases d2 with
    | int i =>
      have e2 := r2.int
      subst e2
      obtain ⟨a, vs, rfl, h1, h2⟩ := r1.list s
      obtain ⟨v, h3, h4⟩ := h2.atI q
      exact .inl ⟨a, vs, i, v, rfl, rfl, .of h1, h3, k _ F H (.refl s) h4⟩
    | _ => cases q
  | tuple xs => cases d2 with
    | int i =>
      have e2 := r2.int
      subst e2
      obtain ⟨a, vs, rfl, h1, h2⟩ := r1.tuple s
      obtain ⟨v, h3, h4⟩ := h2.atI q
      exact .inr ⟨a, vs, i, v, rfl, rfl, h1.seq, h3, k _ F H (.refl s) h4⟩
    | _ => cases q
  | _ => cases q
section
variable {X : Cx} {a b c : Expr} {fa fb fc : Ex} {pos p2 : Pos}
theorem he_ix (ha : HE X a fa) (hb : HE X b fb) (hs : PlainIx b) : HE X (.Subscript a b pos) (xB ixD fa fb) := pe_mono (pe_ix ix_any ha hb hs) fun σ H Q h => tOp_of reads_ix h
/-! ### slices -/
abbrev Ox := En → Option (Option Int × En)
def tOo (K : KF) (f : Ox) : TO := fun σ H Q => ∃ C e F, Rel K C e σ F H ∧ ∃ o e', f e = some (o, e') ∧ ∀ F' H', Rel K C e' σ F' H' → Same F F' → Q o H'
abbrev HO (X : Cx) (e : Option Expr) (f : Ox) : Prop := PO X e (tOo X.K f)
def oNo : Ox := fun e => some (none, e)
def oSo (f : Ex) : Ox := fun e => bnd (f e) fun h e1 => obn (h.get e1) fun d => match d with
  | .int i => some (some i, e1)
  | _ => none
theorem ho_no : HO X none oNo := po_mono po_none fun σ H Q ⟨C, e, F, R, o, e', h1, h2⟩ => by
  cases h1
  exact h2 F H R (.refl _)
theorem ho_so (ha : HE X a fa) : HO X (some a) (oSo fa) := by
  refine po_mono (po_some ha) fun σ H Q ⟨C, e, F, R, o, e', h1, h2⟩ => ?_
  obtain ⟨g1, e1, q1, h1⟩ := bnd_eq h1
  obtain ⟨d1, q3, h1⟩ := obn_eq h1
  refine ⟨C, e, F, R, g1, e1, q1, fun v F1 H1 R1 s1 r1 => ?_⟩
  cases d1 with
  | int i =>
    have h1' : some (some i, e1) = some (o, e') := h1
    cases h1'
    exact ⟨i, (r1.get R1 q3).int, h2 F1 H1 R1 s1⟩
  | _ => cases h1
def cutD (xs : List D) (lo hi : Option Int) : List D := (xs.drop (HT.sIx xs.length 0 lo)).take (HT.sIx xs.length xs.length hi - HT.sIx xs.length 0 lo)
theorem RpA.cut {K : KF} {F : Hp} {vs : List V} {ds : List D} (r : RpA K F vs ds) (lo hi : Option Int) : RpA K F (cutV vs lo hi) (cutD ds lo hi) := by
  unfold cutV cutD
  rw [r.length]
  exact (r.drop _).take _
theorem cutD_all {xs : List D} {lo hi : Option Int} (h : HT.sIx xs.length 0 lo = 0 ∧ HT.sIx xs.length xs.length hi = xs.length) : cutD xs lo hi = xs := by
  unfold cutD
  rw [h.1, h.2]
  simp
/-- a tuple's slice -/
def rSlF (K : KF) : V → Option Int → Option Int → Hp → VK → Prop := fun x lo hi H Q => ∃ a xs, x = .ref a ∧ SqT K H a xs ∧
  (HT.sIx xs.length 0 lo = 0 ∧ HT.sIx xs.length xs.length hi = xs.length → Q (.ref a) H) ∧ (¬ (HT.sIx xs.length 0 lo = 0 ∧ HT.sIx xs.length xs.length hi = xs.length) → kT (cutV xs lo hi) H Q)
theorem sl_tupF : SlR X (rSlF X.K) := by
  intro pins s σ H x v vl vu lo hi sl Q I rx hs pl pu h
  obtain ⟨a, xs, rfl, hx, q1, q2⟩ := h
  cases rx
  obtain ⟨its, r, ht, hz⟩ := I.tuple hx
  have hlen : its.toArray.size = xs.length := by rw [List.size_toArray]; exact r.length.symm
  refine ⟨"tuple", _, PyProof.Rows.slot_tuple_getitem.lookup, ht.typeIs, ?_⟩
  by_cases hw : HT.sIx xs.length 0 lo = 0 ∧ HT.sIx xs.length xs.length hi = xs.length
  · exact getItem_tuple_whole ht hs pl pu (by rw [hlen]; exact hw) ⟨.ref a, H, I, rfl, q1 hw⟩
  · refine HT.getItem_tuple_cut ht hs pl pu (by rw [hlen]; exact hw) ?_ (by rw [hlen]; exact hz)
    rw [hlen]
    obtain ⟨I', fr⟩ := newT I ((r.drop (HT.sIx xs.length 0 lo)).take (HT.sIx xs.length xs.length hi - HT.sIx xs.length 0 lo)) (Nat.le_trans (cutV_length xs lo hi) hz)
    exact ⟨.ref s.heap.objs.size, _, I', rfl, q2 hw _ _ rfl fr⟩
def xSl (fa : Ex) (fl fu : Ox) : Ex := fun e => bnd (fa e) fun h e1 => bnd (fl e1) fun lo e2 => bnd (fu e2) fun hi e3 => obn (h.get e3) fun d => match d with
  | .list xs => some (.val (.list (cutD xs lo hi)), e3)
  | .tuple xs => some (.val (.tuple (cutD xs lo hi)), e3)
  | _ => none
def ySl (fa : Ex) (fl fu : Ox) : Fx := fun e => bnd (fa e) fun h e1 => bnd (fl e1) fun lo e2 => bnd (fu e2) fun hi e3 => obn (h.get e3) fun d => match d with
  | .list xs => some (cutD xs lo hi, e3)
  | _ => none
variable {lo hi : Option Expr} {fl fu : Ox}
theorem he_slice (ha : HE X a fa) (hl : HO X lo fl) (hu : HO X hi fu) : HE X (.Subscript a (.Slice lo hi none p2) pos) (xSl fa fl fu) := by
  refine pe_mono (pe_slice (sl_list.or sl_tupF) ha hl hu) fun σ H Q ⟨C, e, F, R, hd, e', h1, h2⟩ => ?_
  obtain ⟨g1, e1, q1, h1⟩ := bnd_eq h1
  obtain ⟨l, e2, q2, h1⟩ := bnd_eq h1
  obtain ⟨u, e3, q3, h1⟩ := bnd_eq h1
  obtain ⟨d, q4, h1⟩ := obn_eq h1
  refine ⟨C, e, F, R, g1, e1, q1, fun v F1 H1 R1 s1 r1 => ⟨C, e1, F1, R1, l, e2, q2, fun F2 H2 R2 s2 => ⟨C, e2, F2, R2, u, e3, q3, fun F3 H3 R3 s3 => ?_⟩⟩⟩
  have rr := ((r1.mono s2).mono s3).get R3 q4
  cases d with
  | list xs =>
    have h1' : some (Hd.val (.list (cutD xs l u)), e3) = some (hd, e') := h1
    cases h1'
    obtain ⟨a, vs, rfl, h3, h4⟩ := rr.list R3.sub
    refine .inl ⟨a, vs, rfl, .of h3, fun p hp => ?_⟩
    have g := Grow.one (o := .lst (cutV vs l u)) R3.sub hp
    exact h2 _ _ _ (R3.grow g) (s1.trans (s2.trans (s3.trans g.ff))) (Rp.lst upd_same ((h4.cut l u).mono g.ff))
  | tuple xs =>
    have h1' : some (Hd.val (.tuple (cutD xs l u)), e3) = some (hd, e') := h1
    cases h1'
    obtain ⟨a, vs, rfl, h3, h4⟩ := rr.tuple R3.sub
    have el := h4.length
    refine .inr ⟨a, vs, rfl, h3.seq, fun hw => ?_, fun hw => kT_of R3.sub (h4.cut l u) fun v F' H' g r => h2 v F' H' (R3.grow g) (s1.trans (s2.trans (s3.trans g.ff))) r⟩
    rw [el] at hw
    rcases rr with rr | ⟨_, _, _, _, z, _⟩
    · refine h2 _ _ _ R3 (s1.trans (s2.trans s3)) ?_
      rw [cutD_all hw]
      exact rr
    · cases z
  | _ => cases h1
theorem fe_slice (ha : HE X a fa) (hl : HO X lo fl) (hu : HO X hi fu) : FE X (.Subscript a (.Slice lo hi none p2) pos) (ySl fa fl fu) := by
  refine pe_mono (pe_slice sl_list ha hl hu) fun σ H Q ⟨C, e, F, R, ys, e', h1, h2⟩ => ?_
  obtain ⟨g1, e1, q1, h1⟩ := bnd_eq h1
  obtain ⟨l, e2, q2, h1⟩ := bnd_eq h1
  obtain ⟨u, e3, q3, h1⟩ := bnd_eq h1
  obtain ⟨d, q4, h1⟩ := obn_eq h1
  refine ⟨C, e, F, R, g1, e1, q1, fun v F1 H1 R1 s1 r1 => ⟨C, e1, F1, R1, l, e2, q2, fun F2 H2 R2 s2 => ⟨C, e2, F2, R2, u, e3, q3, fun F3 H3 R3 s3 => ?_⟩⟩⟩
  have rr := ((r1.mono s2).mono s3).get R3 q4
  cases d with
  | list xs =>
    have h1' : some (cutD xs l u, e3) = some (ys, e') := h1
    cases h1'
    obtain ⟨a, vs, rfl, h3, h4⟩ := rr.list R3.sub
    exact ⟨a, vs, rfl, .of h3, fun p hp => tF_new R3 (h4.cut l u) hp fun a vs F' H' z1 z2 => h2 a vs F' H' z1 (s1.trans (s2.trans (s3.trans z2)))⟩
  | _ => cases h1
/-! x[::-1] -/
def tRevT (K : KF) (te : TE) : TE := fun σ H Q => te σ H fun x H1 => ∃ a xs, x = .ref a ∧ SqT K H1 a xs ∧ xs.length ≤ 1 ∧ Q (.ref a) H1
def yRev (f : Ex) : Fx := fun e => bnd (f e) fun h e1 => obn (h.get e1) fun d => match d with
  | .list xs => some (xs.reverse, e1)
  | _ => none
theorem fe_rev {k : Nat} {p1 p2 p3 : Pos} (ha : HE X a fa) : FE X (.Subscript a (.Slice none none (some (.UnaryOp .USub (.Constant (.int 1) k p1) p2)) p3) pos) (yRev fa) := by
  refine pe_mono (pe_revL ha) fun σ H Q ⟨C, e, F, R, ys, e', h1, h2⟩ => ?_
  obtain ⟨g1, e1, q1, h1⟩ := bnd_eq h1
  obtain ⟨d, q4, h1⟩ := obn_eq h1
  refine ⟨C, e, F, R, g1, e1, q1, fun v F1 H1 R1 s1 r1 => ?_⟩
  have rr := r1.get R1 q4
  cases d with
  | list xs =>
    have h1' : some (xs.reverse, e1) = some (ys, e') := h1
    cases h1'
    obtain ⟨a, vs, rfl, h3, h4⟩ := rr.list R1.sub
    exact ⟨a, vs, rfl, .of h3, fun p hp => tF_new R1 h4.reverse hp fun a vs F' H' z1 z2 => h2 a vs F' H' z1 (s1.trans z2)⟩
  | _ => cases h1
end
end DL
end
section
set_option maxRecDepth 100000
set_option maxHeartbeats 4000000
/-! DL, part 10: built-in functions on data -/
namespace DL
open PySem PySem.Spec PyProof.Rows L2
theorem callr_or {X : Cx} {f : Value} {r r' : List V → Hp → VK → Prop} (h : CallR X f r) (h' : CallR X f r') : CallR X f (fun xs H Q => r xs H Q ∨ r' xs H Q) := h.or h'
section
variable {K : KF} {F H : Hp}
theorem RpTs.one {xs : List V} {d : D} (r : RpTs K F H xs [d]) : ∃ v, xs = [v] ∧ RpT K F H v d := by
  cases r with
  | cons r t =>
    cases t
    exact ⟨_, rfl, r⟩
theorem RpTs.two {xs : List V} {d e : D} (r : RpTs K F H xs [d, e]) : ∃ v u, xs = [v, u] ∧ RpT K F H v d ∧ RpT K F H u e := by
  cases r with
  | cons r t =>
    obtain ⟨u, rfl, t1⟩ := t.one
    exact ⟨_, u, rfl, r, t1⟩
/-! intsD out of data -/
def intsD : List D → Option (List Int)
  | [] => some []
  | .int i :: r => obn (intsD r) fun ns => some (i :: ns)
  | _ :: _ => none
@[simp] theorem intsD_map : ∀ ns : List Int, intsD (ns.map PyData.int) = some ns
  | [] => rfl
  | n :: ns => by
    show obn (intsD (ns.map PyData.int)) _ = _
    rw [intsD_map ns]
    rfl
theorem RpA.ofInts : ∀ {vs : List V} {ds : List D} {ns : List Int}, RpA K F vs ds → intsD ds = some ns → vs = ns.map V.int
  | _, _, _, .nil, h => by
    cases h
    rfl
  | _, .int i :: _, _, .cons r t, h => by
    obtain ⟨ms, h1, h2⟩ := obn_eq h
    cases h2
    cases r
    rw [RpA.ofInts t h1]
    rfl
def blsD : List D → Option (List Bool)
  | [] => some []
  | .bool i :: r => obn (blsD r) fun ns => some (i :: ns)
  | _ :: _ => none
@[simp] theorem blsD_map : ∀ ns : List Bool, blsD (ns.map PyData.bool) = some ns
  | [] => rfl
  | n :: ns => by
    show obn (blsD (ns.map PyData.bool)) _ = _
    rw [blsD_map ns]
    rfl
theorem RpA.ofBls : ∀ {vs : List V} {ds : List D} {ns : List Bool}, RpA K F vs ds → blsD ds = some ns → vs = ns.map V.bl
  | _, _, _, .nil, h => by
    cases h
    rfl
  | _, .bool i :: _, _, .cons r t, h => by
    obtain ⟨ms, h1, h2⟩ := obn_eq h
    cases h2
    cases r
    rw [RpA.ofBls t h1]
    rfl
end
/-! len -/
def lenD : List D → Option D
  | [.list xs] => some (.int (xs.length : Nat))
  | [.tuple xs] => some (.int (xs.length : Nat))
  | _ => none
theorem reads_len {K : KF} : ReadsN K (fun xs H Q => ∃ p ys, xs = [.ref p] ∧ (SqL K H p ys ∨ SqT K H p ys) ∧ Q (.int ys.length) H) lenD := by
  intro F H xs ds d Q s r q k
  match ds, q, r with
  | [.list ys], q, r =>
    cases q
    obtain ⟨v, rfl, r1⟩ := r.one
    obtain ⟨a, vs, rfl, h1, h2⟩ := r1.list s
    refine ⟨a, vs, rfl, .inl (.of h1), k _ F H (.refl s) ?_⟩
    rw [h2.length]
    exact .int _
  | [.tuple ys], q, r =>
    cases q
    obtain ⟨v, rfl, r1⟩ := r.one
    obtain ⟨a, vs, rfl, h1, h2⟩ := r1.tuple s
    refine ⟨a, vs, rfl, .inr h1.seq, k _ F H (.refl s) ?_⟩
    rw [h2.length]
    exact .int _
/-! list(x) -/
def lstD : List D → Option (List D)
  | [.list xs] => some xs
  | [.tuple xs] => some xs
  | _ => none
theorem reads_lst {K : KF} : ReadsNL K (fun xs H Q => ∃ p ys, xs = [.ref p] ∧ (SqL K H p ys ∨ SqT K H p ys) ∧ ∀ l, H l = none → Q (.ref l) (upd H l (.lst ys))) lstD := by
  intro F H xs ds d Q s r q k
  match ds, q, r with
  | [.list ys], q, r =>
    cases q
    obtain ⟨v, rfl, r1⟩ := r.one
    obtain ⟨a, vs, rfl, h1, h2⟩ := r1.list s
    exact ⟨a, vs, rfl, .inl (.of h1), fun p hp => k vs p h2 hp⟩
  | [.tuple ys], q, r =>
    cases q
    obtain ⟨v, rfl, r1⟩ := r.one
    obtain ⟨a, vs, rfl, h1, h2⟩ := r1.tuple s
    exact ⟨a, vs, rfl, .inr h1.seq, fun p hp => k vs p h2 hp⟩
/-! tuple(x) -/
def rTupF (K : KF) : List V → Hp → VK → Prop := fun xs H Q => ∃ p ys, xs = [.ref p] ∧ ((SqL K H p ys ∧ kT ys H Q) ∨ (SqT K H p ys ∧ Q (.ref p) H))
theorem call_tupF {X : Cx} : CallR X (.type "tuple") (rTupF X.K) := by
  intro pins s σ H xs us Q I r h
  obtain ⟨p, ys, rfl, h⟩ := h
  obtain ⟨u, rfl, rx⟩ := vals1 r
  cases rx
  rcases h with ⟨hq, q⟩ | ⟨hq, q⟩
  · obtain ⟨its, r', pl, hz⟩ := I.list hq
    have hlen := r'.length
    refine call_tuple_list pl.isList (fun h' kp => ?_) (by simp only [List.size_toArray] <;> omega)
    have I1 : Inv X pins σ H { s with heap := h' } := I.kept (t' := s.toks) kp
    obtain ⟨I2, fr⟩ := newT I1 r' hz
    exact ⟨.ref h'.objs.size, _, I2, rfl, q _ _ rfl fr⟩
  · obtain ⟨its, r', pl, hz⟩ := I.tuple hq
    exact call_tuple_same pl ⟨.ref p, H, I, rfl, q⟩
def tupD : List D → Option D
  | [.list xs] => some (.tuple xs)
  | [.tuple xs] => some (.tuple xs)
  | _ => none
theorem reads_tup {K : KF} : ReadsN K (rTupF K) tupD := by
  intro F H xs ds d Q s r q k
  match ds, q, r with
  | [.list ys], q, r =>
    cases q
    obtain ⟨v, rfl, r1⟩ := r.one
    obtain ⟨a, vs, rfl, h1, h2⟩ := r1.list s
    exact ⟨a, vs, rfl, .inl ⟨.of h1, kT_of s h2 k⟩⟩
  | [.tuple ys], q, r =>
    cases q
    obtain ⟨v, rfl, r1⟩ := r.one
    have r' := r1
    obtain ⟨a, vs, rfl, h1, h2⟩ := r1.tuple s
    rcases r' with r' | ⟨_, _, _, _, z, _⟩
    · exact ⟨a, vs, rfl, .inr ⟨h1.seq, k _ F H (.refl s) r'⟩⟩
    · cases z
/-! int, abs, max, min of two -/
def intD : List D → Option D
  | [.int i] => some (.int i)
  | [.bool b] => some (.int (if b then 1 else 0))
  | _ => none
theorem reads_int {K : KF} : ReadsN K (fun xs H Q => (∃ i, xs = [.int i] ∧ Q (.int i) H) ∨ ∃ k, xs = [.bl k] ∧ Q (.int (if k then 1 else 0)) H) intD := by
  intro F H xs ds d Q s r q k
  match ds, q, r with
  | [.int i], q, r =>
    cases q
    obtain ⟨v, rfl, r1⟩ := r.one
    rw [r1.int]
    exact .inl ⟨i, rfl, k _ F H (.refl s) (.int _)⟩
  | [.bool i], q, r =>
    cases q
    obtain ⟨v, rfl, r1⟩ := r.one
    rw [r1.boo]
    exact .inr ⟨i, rfl, k _ F H (.refl s) (.int _)⟩
def absD : List D → Option D
  | [.int i] => some (.int (if i < 0 then -i else i))
  | _ => none
theorem reads_abs {K : KF} : ReadsN K (fun xs H Q => ∃ i, xs = [.int i] ∧ Q (.int (if i < 0 then -i else i)) H) absD := by
  intro F H xs ds d Q s r q k
  match ds, q, r with
  | [.int i], q, r =>
    cases q
    obtain ⟨v, rfl, r1⟩ := r.one
    rw [r1.int]
    exact ⟨i, rfl, k _ F H (.refl s) (.int _)⟩
def maxI : List Int → Int
  | [] => 0
  | a :: r => r.foldl (fun m x => if x > m then x else m) a
def minI : List Int → Int
  | [] => 0
  | a :: r => r.foldl (fun m x => if x < m then x else m) a
theorem maxF : ∀ (r : List Int) (a : Int), r.foldl (fun m x => if x > m then x else m) a ∈ a :: r ∧ ∀ y ∈ a :: r, y ≤ r.foldl (fun m x => if x > m then x else m) a
  | [], a => by simp
  | b :: r, a => by
    rw [List.foldl_cons]
    by_cases h : b > a
    · rw [if_pos h]
      obtain ⟨h1, h2⟩ := maxF r b
      refine ⟨List.mem_cons_of_mem _ h1, fun y hy => ?_⟩
      rcases List.mem_cons.mp hy with rfl | hy
      · exact Int.le_trans (Int.le_of_lt h) (h2 b (List.mem_cons_self ..))
      · exact h2 y hy
    · rw [if_neg h]
      obtain ⟨h1, h2⟩ := maxF r a
      refine ⟨?_, fun y hy => ?_⟩
      · rcases List.mem_cons.mp h1 with e | h1
        · rw [e]
          exact List.mem_cons_self ..
        · exact List.mem_cons_of_mem _ (List.mem_cons_of_mem _ h1)
      · rcases List.mem_cons.mp hy with rfl | hy
        · exact h2 _ (List.mem_cons_self ..)
        · rcases List.mem_cons.mp hy with rfl | hy
          · exact Int.le_trans (by omega) (h2 a (List.mem_cons_self ..))
          · exact h2 y (List.mem_cons_of_mem _ hy)
theorem minF : ∀ (r : List Int) (a : Int), r.foldl (fun m x => if x < m then x else m) a ∈ a :: r ∧ ∀ y ∈ a :: r, r.foldl (fun m x => if x < m then x else m) a ≤ y
  | [], a => by simp
  | b :: r, a => by
    rw [List.foldl_cons]
    by_cases h : b < a
    · rw [if_pos h]
      obtain ⟨h1, h2⟩ := minF r b
      refine ⟨List.mem_cons_of_mem _ h1, fun y hy => ?_⟩
      rcases List.mem_cons.mp hy with rfl | hy
      · exact Int.le_trans (h2 b (List.mem_cons_self ..)) (Int.le_of_lt h)
      · exact h2 y hy
    · rw [if_neg h]
      obtain ⟨h1, h2⟩ := minF r a
      refine ⟨?_, fun y hy => ?_⟩
      · rcases List.mem_cons.mp h1 with e | h1
        · rw [e]
          exact List.mem_cons_self ..
        · exact List.mem_cons_of_mem _ (List.mem_cons_of_mem _ h1)
      · rcases List.mem_cons.mp hy with rfl | hy
        · exact h2 _ (List.mem_cons_self ..)
        · rcases List.mem_cons.mp hy with rfl | hy
          · exact Int.le_trans (h2 a (List.mem_cons_self ..)) (by omega)
          · exact h2 y (List.mem_cons_of_mem _ hy)
theorem maxI_eq {ns : List Int} {m : Int} (hn : 0 < ns.length) (h1 : m ∈ ns) (h2 : ∀ y, y ∈ ns → y ≤ m) : m = maxI ns := by
  cases ns with
  | nil => simp at hn
  | cons a r =>
    obtain ⟨h3, h4⟩ := maxF r a
    exact Int.le_antisymm (h4 m h1) (h2 _ h3)
theorem minI_eq {ns : List Int} {m : Int} (hn : 0 < ns.length) (h1 : m ∈ ns) (h2 : ∀ y, y ∈ ns → m ≤ y) : m = minI ns := by
  cases ns with
  | nil => simp at hn
  | cons a r =>
    obtain ⟨h3, h4⟩ := minF r a
    exact Int.le_antisymm (h2 _ h3) (h4 m h1)
def maxD : List D → Option D
  | [.int i, .int j] => some (.int (if j > i then j else i))
  | [.list xs] => obn (intsD xs) fun ns => gd (!ns.isEmpty) (some (.int (maxI ns)))
  | _ => none
def minD : List D → Option D
  | [.int i, .int j] => some (.int (if j < i then j else i))
  | [.list xs] => obn (intsD xs) fun ns => gd (!ns.isEmpty) (some (.int (minI ns)))
  | _ => none
theorem call_maxD {X : Cx} (hc : X.calm = true) : CallR X (.builtin "max") (fun xs H Q => (∃ i j, xs = [.int i, .int j] ∧ Q (.int (if j > i then j else i)) H) ∨ rMax X.K xs H Q) := (call_max2 hc).or (cr_max hc)
theorem call_minD {X : Cx} (hc : X.calm = true) : CallR X (.builtin "min") (fun xs H Q => (∃ i j, xs = [.int i, .int j] ∧ Q (.int (if j < i then j else i)) H) ∨ rMin X.K xs H Q) := (call_min2 hc).or (cr_min hc)
theorem ne_pos {ns : List Int} (h : (!ns.isEmpty) = true) : 0 < ns.length := by
  cases ns with
  | nil => cases h
  | cons a r => exact Nat.succ_pos _
theorem reads_max {K : KF} : ReadsN K (fun xs H Q => (∃ i j, xs = [.int i, .int j] ∧ Q (.int (if j > i then j else i)) H) ∨ rMax K xs H Q) maxD := by
  intro F H xs ds d Q s r q k
  match ds, q, r with
  | [.int i, .int j], q, r =>
    cases q
    obtain ⟨v, u, rfl, r1, r2⟩ := r.two
    rw [r1.int, r2.int]
    exact .inl ⟨i, j, rfl, k _ F H (.refl s) (.int _)⟩
  | [.list ys], q, r =>
    obtain ⟨ns, q1, q2⟩ := obn_eq (show obn (intsD ys) (fun ns => gd (!ns.isEmpty) (some (PyData.int (maxI ns)))) = some d from q)
    obtain ⟨q3, q4⟩ := gd_eq q2
    cases q4
    obtain ⟨v, rfl, r1⟩ := r.one
    obtain ⟨a, vs, rfl, h1, h2⟩ := r1.list s
    have e := h2.ofInts q1
    subst e
    refine .inr ⟨a, ns, rfl, .of h1, ne_pos q3, fun m m1 m2 => ?_⟩
    rw [maxI_eq (ne_pos q3) m1 m2]
    exact k _ F H (.refl s) (.int _)
theorem reads_min {K : KF} : ReadsN K (fun xs H Q => (∃ i j, xs = [.int i, .int j] ∧ Q (.int (if j < i then j else i)) H) ∨ rMin K xs H Q) minD := by
  intro F H xs ds d Q s r q k
  match ds, q, r with
  | [.int i, .int j], q, r =>
    cases q
    obtain ⟨v, u, rfl, r1, r2⟩ := r.two
    rw [r1.int, r2.int]
    exact .inl ⟨i, j, rfl, k _ F H (.refl s) (.int _)⟩
  | [.list ys], q, r =>
    obtain ⟨ns, q1, q2⟩ := obn_eq (show obn (intsD ys) (fun ns => gd (!ns.isEmpty) (some (PyData.int (minI ns)))) = some d from q)
    obtain ⟨q3, q4⟩ := gd_eq q2
    cases q4
    obtain ⟨v, rfl, r1⟩ := r.one
    obtain ⟨a, vs, rfl, h1, h2⟩ := r1.list s
    have e := h2.ofInts q1
    subst e
    refine .inr ⟨a, ns, rfl, .of h1, ne_pos q3, fun m m1 m2 => ?_⟩
    rw [minI_eq (ne_pos q3) m1 m2]
    exact k _ F H (.refl s) (.int _)
/-! sum, all, any -/
def sumD : List D → Option D
  | [.list xs] => obn (intsD xs) fun ns => some (.int ns.sum)
  | _ => none
theorem reads_sum {K : KF} : ReadsN K (rSum K) sumD := by
  intro F H xs ds d Q s r q k
  match ds, q, r with
  | [.list ys], q, r =>
    obtain ⟨ns, q1, q2⟩ := obn_eq (show obn (intsD ys) (fun ns => some (PyData.int ns.sum)) = some d from q)
    cases q2
    obtain ⟨v, rfl, r1⟩ := r.one
    obtain ⟨a, vs, rfl, h1, h2⟩ := r1.list s
    have e := h2.ofInts q1
    subst e
    exact ⟨a, ns, rfl, .of h1, k _ F H (.refl s) (.int _)⟩
def allD : List D → Option D
  | [.list xs] => obn (blsD xs) fun ns => some (.bool (ns.all id))
  | _ => none
def anyD : List D → Option D
  | [.list xs] => obn (blsD xs) fun ns => some (.bool (ns.any id))
  | _ => none
theorem reads_all {K : KF} : ReadsN K (rAll K) allD := by
  intro F H xs ds d Q s r q k
  match ds, q, r with
  | [.list ys], q, r =>
    obtain ⟨ns, q1, q2⟩ := obn_eq (show obn (blsD ys) (fun ns => some (PyData.bool (ns.all id))) = some d from q)
    cases q2
    obtain ⟨v, rfl, r1⟩ := r.one
    obtain ⟨a, vs, rfl, h1, h2⟩ := r1.list s
    have e := h2.ofBls q1
    subst e
    exact ⟨a, ns, rfl, .of h1, k _ F H (.refl s) (.bl _)⟩
theorem reads_any {K : KF} : ReadsN K (rAny K) anyD := by
  intro F H xs ds d Q s r q k
  match ds, q, r with
  | [.list ys], q, r =>
    obtain ⟨ns, q1, q2⟩ := obn_eq (show obn (blsD ys) (fun ns => some (PyData.bool (ns.any id))) = some d from q)
    cases q2
    obtain ⟨v, rfl, r1⟩ := r.one
    obtain ⟨a, vs, rfl, h1, h2⟩ := r1.list s
    have e := h2.ofBls q1
    subst e
    exact ⟨a, ns, rfl, .of h1, k _ F H (.refl s) (.bl _)⟩
/-! sorted, intsD -/
def insI (a : Int) : List Int → List Int
  | [] => [a]
  | b :: r => if a ≤ b then a :: b :: r else b :: insI a r
def srtI : List Int → List Int
  | [] => []
  | a :: r => insI a (srtI r)
theorem insI_perm (a : Int) : ∀ l : List Int, (insI a l).Perm (a :: l)
  | [] => .refl _
  | b :: r => by
    unfold insI
    split
    · exact .refl _
    · exact ((insI_perm a r).cons b).trans (List.Perm.swap a b r)
theorem srtI_perm : ∀ l : List Int, (srtI l).Perm l
  | [] => .refl _
  | a :: r => (insI_perm a _).trans ((srtI_perm r).cons a)
theorem insI_sorted (a : Int) : ∀ l : List Int, l.Pairwise (· ≤ ·) → (insI a l).Pairwise (· ≤ ·)
  | [], _ => List.pairwise_singleton _ _
  | b :: r, h => by
    unfold insI
    split
    · rename_i hab
      refine List.pairwise_cons.mpr ⟨fun y hy => ?_, h⟩
      rcases List.mem_cons.mp hy with rfl | hy
      · exact hab
      · exact Int.le_trans hab ((List.pairwise_cons.mp h).1 y hy)
    · rename_i hab
      refine List.pairwise_cons.mpr ⟨fun y hy => ?_, insI_sorted a r (List.pairwise_cons.mp h).2⟩
      rcases List.mem_cons.mp ((insI_perm a r).mem_iff.mp hy) with rfl | hy
      · omega
      · exact (List.pairwise_cons.mp h).1 y hy
theorem srtI_sorted : ∀ l : List Int, (srtI l).Pairwise (· ≤ ·)
  | [] => .nil
  | a :: r => insI_sorted a _ (srtI_sorted r)
theorem sorted_uniq : ∀ {l m : List Int}, l.Perm m → l.Pairwise (· ≤ ·) → m.Pairwise (· ≤ ·) → l = m
  | [], m, p, _, _ => (List.nil_perm.mp p).symm
  | a :: l, [], p, _, _ => absurd p.symm (by simp)
  | a :: l, b :: m, p, h, h' => by
    have e : a = b := by
      have h1 : b ∈ a :: l := p.mem_iff.mpr (List.mem_cons_self ..)
      have h2 : a ∈ b :: m := p.mem_iff.mp (List.mem_cons_self ..)
      have l1 : a ≤ b := by
        rcases List.mem_cons.mp h1 with z | z
        · omega
        · exact (List.pairwise_cons.mp h).1 b z
      have l2 : b ≤ a := by
        rcases List.mem_cons.mp h2 with z | z
        · omega
        · exact (List.pairwise_cons.mp h').1 a z
      omega
    subst e
    rw [sorted_uniq p.cons_inv (List.pairwise_cons.mp h).2 (List.pairwise_cons.mp h').2]
def srtD : List D → Option (List D)
  | [.list xs] => obn (intsD xs) fun ns => some ((srtI ns).map .int)
  | _ => none
theorem reads_srt {K : KF} : ReadsNL K (rSortedI K) srtD := by
  intro F H xs ds d Q s r q k
  match ds, q, r with
  | [.list ys], q, r =>
    obtain ⟨ns, q1, q2⟩ := obn_eq (show obn (intsD ys) (fun ns => some ((srtI ns).map PyData.int)) = some d from q)
    cases q2
    obtain ⟨v, rfl, r1⟩ := r.one
    obtain ⟨a, vs, rfl, h1, h2⟩ := r1.list s
    have e := h2.ofInts q1
    subst e
    refine ⟨a, ns, rfl, .of h1, fun ns' p h3 h4 hp => ?_⟩
    rw [sorted_uniq (h3.trans (srtI_perm ns).symm) h4 (srtI_sorted ns)]
    exact k _ p (RpA.ints _) hp
/-! divmod -/
def rDm : List V → Hp → VK → Prop := fun xs H Q => ∃ i j, xs = [.int i, .int j] ∧ 0 < j ∧ j.natAbs.log2 < 9000 ∧ kT [.int (i / j), .int (i % j)] H Q
theorem call_dmF {X : Cx} : CallR X (.builtin "divmod") rDm := by
  intro pins s σ H xs us Q I r h
  obtain ⟨i, j, rfl, h1, h2, q⟩ := h
  obtain ⟨u, w', rfl, ⟨t, rfl⟩, ⟨t', rfl⟩⟩ := vals2 r
  refine divmod_int (by omega) ?_ (.inl (PyProof.noPylong_of_log2 h2))
  rw [Int.fdiv_eq_ediv_of_nonneg i (by omega), Int.fmod_eq_emod_of_nonneg i (by omega)]
  have I0 : Inv X pins σ H { s with toks := s.toks + 1 + 1 } := I.tok _
  obtain ⟨I', fr⟩ := newT (xs := [.int (i / j), .int (i % j)]) (us := [.int (i / j) s.toks, .int (i % j) (s.toks + 1)]) I0 (.cons ⟨_, rfl⟩ (.cons ⟨_, rfl⟩ .nil)) (by show 2 ≤ sizeLine; decide)
  exact ⟨.ref s.heap.objs.size, _, I', rfl, q _ _ rfl fr⟩
def dmD : List D → Option D
  | [.int i, .int j] => gd (decide (0 < j) && decide (j.natAbs < wid)) (some (.tuple [.int (i / j), .int (i % j)]))
  | _ => none
theorem reads_dm {K : KF} : ReadsN K rDm dmD := by
  intro F H xs ds d Q s r q k
  match ds, q, r with
  | [.int i, .int j], q, r =>
    obtain ⟨q1, q2⟩ := gd_eq (show gd (decide (0 < j) && decide (j.natAbs < wid)) (some (PyData.tuple [.int (i / j), .int (i % j)])) = some d from q)
    cases q2
    obtain ⟨v, u, rfl, r1, r2⟩ := r.two
    rw [r1.int, r2.int]
    obtain ⟨q3, q4⟩ := Bool.and_eq_true_iff.mp q1
    exact ⟨i, j, rfl, of_decide_eq_true q3, (wide_div (i := i) (b := 4000) (of_decide_eq_true q3) (of_decide_eq_true q4) (by decide) (by decide)).2, kT_of s (.cons (.int _) (.cons (.int _) .nil)) k⟩
/-! repr -/
section
variable {X : Cx} {pins : List (Addr × Obj)} {σ : St} {H : Hp} {s : Shared}
mutual
theorem Rp.reads {F : Hp} (sF : Same F H) (I : Inv X pins σ H s) : ∀ (d : D) (v : V) (u : Value), Rp X.K F v d → d.hasDict = false → RelV v u → ∃ as, Reads s.heap u d as
  | .none, _, _, h, _, r => by
    cases h
    cases r
    exact ⟨_, Reads.none⟩
  | .bool b, _, _, h, _, r => by
    cases h
    cases r
    exact ⟨_, Reads.bool b⟩
  | .int i, _, _, h, _, r => by
    cases h
    obtain ⟨t, rfl⟩ := r
    exact ⟨_, Reads.int i t⟩
  | .str x, _, _, h, _, r => by
    cases h
    obtain ⟨t, rfl⟩ := r
    exact ⟨_, Reads.str x t⟩
  | .list ds, _, _, h, hd, r => by
    cases h with
    | lst hs ha =>
      cases r
      obtain ⟨its, rv, ⟨o, n, ho, hc, _, hd'⟩, _⟩ := I.list (.of (sF _ _ hs))
      obtain ⟨as, hr⟩ := RpA.reads sF I ds _ its ha (by simpa only [PyData.hasDict] using hd) rv
      exact ⟨_, Reads.list ho hc hd' hr⟩
  | .tuple ds, _, _, h, hd, r => by
    cases h with
    | tup hs ha =>
      cases r
      obtain ⟨its, rv, ⟨o, ho, hc, n, hd'⟩, _⟩ := I.tuple (hs.mono sF).seq
      obtain ⟨as, hr⟩ := RpA.reads sF I ds _ its ha (by simpa only [PyData.hasDict] using hd) rv
      exact ⟨_, Reads.tuple ho hc hd' hr⟩
  | .dict _, _, _, _, h, _ => by simp only [PyData.hasDict] at h; cases h
theorem RpA.reads {F : Hp} (sF : Same F H) (I : Inv X pins σ H s) : ∀ (ds : List D) (vs : List V) (us : List Value), RpA X.K F vs ds → PyData.hasDictAll ds = false → Vals vs us → ∃ as, ReadsAll s.heap us ds as
  | [], _, _, h, _, r => by
    cases h
    cases r
    exact ⟨_, ReadsAll.nil⟩
  | d :: ds, _, _, h, hd, r => by
    cases h with
    | cons h1 h2 =>
      cases r with
      | cons r1 r2 =>
        simp only [PyData.hasDictAll, Bool.or_eq_false_iff] at hd
        obtain ⟨as, q1⟩ := Rp.reads sF I d _ _ h1 hd.1 r1
        obtain ⟨bs, q2⟩ := RpA.reads sF I ds _ _ h2 hd.2 r2
        exact ⟨_, ReadsAll.cons q1 q2⟩
end
end
/-- lists and tuples whose repr is short -/
def isSeq : D → Bool
  | .list _ => true
  | .tuple _ => true
  | _ => false
def repOk (d : D) : Bool := isSeq d && d.showable && !d.hasDict && decide (d.depth ≤ 40) && decide (d.shown.length ≤ 4 * lim)
def rRepr (K : KF) : List V → Hp → VK → Prop := fun xs H Q => ∃ v d F, xs = [v] ∧ Same F H ∧ repOk d = true ∧ (Rp K F v d ∨ ∃ a vs ys, v = .ref a ∧ d = .list ys ∧ H a = some (.lst vs) ∧ RpA K F vs ys) ∧ Q (.str d.shown) H
theorem call_repr {X : Cx} (hG : X.A.guards = some []) (hu : X.A.units + 64 < cLine) : CallR X (.builtin "repr") (rRepr X.K) := by
  intro pins s σ H xs us Q I r h
  obtain ⟨v, d, F, rfl, sF, ok, rd, q⟩ := h
  unfold repOk at ok
  simp only [Bool.and_eq_true, Bool.not_eq_true', decide_eq_true_eq] at ok
  obtain ⟨⟨⟨⟨o1, o2⟩, o3⟩, o4⟩, o5⟩ := ok
  obtain ⟨u, rfl, ru⟩ := vals1 r
  have key : ∃ a as, u = .ref a ∧ Reads s.heap (.ref a) d as := by
    rcases rd with rd | ⟨a, vs, ys, rfl, rfl, h1, h2⟩
    · obtain ⟨as, z⟩ := rd.reads sF I d v u o3 ru
      cases d with
      | list ds => cases rd; cases ru; exact ⟨_, as, rfl, z⟩
      | tuple ds => cases rd; cases ru; exact ⟨_, as, rfl, z⟩
      | _ => cases o1
    · cases ru
      obtain ⟨its, rv, ⟨o, n, ho, hc, _, hd'⟩, _⟩ := I.list (.of h1)
      obtain ⟨as, hr⟩ := RpA.reads sF I ys _ its h2 (by simpa only [PyData.hasDict] using o3) rv
      exact ⟨a, _, rfl, Reads.list ho hc hd' hr⟩
  obtain ⟨a, as, rfl, z⟩ := key
  refine repr_of_reads' z o2 (PyData.noDict_hsm o3) hG (by omega) (fun b o e => e) (fun h' tu tk hk => ?_) (Nat.le_trans o5 (by decide))
  exact ⟨.str d.shown, H, I.kept hk, ⟨tu, rfl⟩, q⟩
def repD : List D → Option D
  | [d] => gd (repOk d) (some (.str d.shown))
  | _ => none
theorem reads_repr {K : KF} : ReadsN K (rRepr K) repD := by
  intro F H xs ds d Q s r q k
  match ds, q, r with
  | [d1], q, r =>
    obtain ⟨q1, q2⟩ := gd_eq (show gd (repOk d1) (some (PyData.str d1.shown)) = some d from q)
    cases q2
    obtain ⟨v, rfl, r1⟩ := r.one
    exact ⟨v, d1, F, rfl, s, q1, r1, k _ F H (.refl s) (.str _)⟩
/-! isinstance -/
def tyD : D → String
  | .none => "NoneType"
  | .bool _ => "bool"
  | .int _ => "int"
  | .str _ => "str"
  | .list _ => "list"
  | .tuple _ => "tuple"
  | .dict _ => "dict"
theorem RpT.ty {K : KF} {F H : Hp} {v : V} {d : D} (s : Same F H) (r : RpT K F H v d) : TyX K H v (.type (tyD d)) := by
  rcases r with r | ⟨a, vs, xs, rfl, rfl, h1, h2⟩
  · cases r with
    | non => exact .base .non
    | bl b => exact .base (.bl b)
    | int i => exact .base (.int i)
    | str x => exact .base (.str x)
    | lst h1 h2 => exact .base (.lst (s _ _ h1))
    | tup h1 h2 =>
      obtain ⟨o, h1, _⟩ := h1
      exact .fTuple (s _ _ h1)
    | dct h1 => exact .base (.dK (s _ _ h1))
  · exact .base (.lst h1)
/-- the answers for the types that are asked -/
def isTy (T : String) : D → Bool
  | .none => T == "NoneType"
  | .bool _ => T == "bool" || T == "int"
  | .int _ => T == "int"
  | .str _ => T == "str"
  | .list _ => T == "list"
  | .tuple _ => T == "tuple"
  | .dict _ => T == "dict"
def asked (T : String) : Bool := T == "int" || T == "bool" || T == "str" || T == "list" || T == "tuple" || T == "dict"
theorem kit_is {K : KF} {T : String} (d : D) (h : asked T = true) : PySem.W.kitOne K (.type (tyD d)) (.type T) = some (isTy T d) := by
  refine kit_ty ?_
  unfold asked at h
  simp only [Bool.or_eq_true, beq_iff_eq] at h
  rcases h with ((((h | h) | h) | h) | h) | h <;> subst h <;> cases d <;> (simp only [tyD, isTy]; decide +kernel)
def xIsi (T : String) (f : Ex) : Ex := fun e => bnd (f e) fun h e1 => obn (h.get e1) fun d => some (.val (.bool (isTy T d)), e1)
section
variable {X : Cx} {a : Expr} {fa : Ex} {pos p p1 p2 pt : Pos} {T U : Str} {kt : Nat}
theorem boot_isi : bootBuiltins "isinstance" = some (.builtin "isinstance") := by decide +kernel
theorem he_isi {T : String} (ht : asked T = true) (hb : bootBuiltins T = some (.type T)) (hg : Gl X "isinstance") (hm : X.mg "isinstance" = none) (hgT : Gl X T) (hmT : X.mg T = none) (ha : HE X a fa) (hn : (Str.ofString T : Str) ≠ "__name__" := by decide) (hd : ((T : Str) == ("__debug__" : Str)) = false := by decide)
    (hs : starEach [a, .Name T p2] X.env = (false, eval a X.env) :: starEach [.Name T p2] X.env := by rfl) (hs2 : starEach [.Name T p2] X.env = (false, eval (.Name T p2) X.env) :: starEach [] X.env := by rfl) (hpl : (backTo pos (starEach [.Name T p2] X.env)).any (·.1) = false := by rfl) :
    HE X (.Call (.Name "isinstance" p) [a, .Name T p2] [] pos) (xIsi T fa) := by
  have pt : PE X (.Name T p2) (tC (.ty T)) := pe_bltn hgT hmT hb rfl hn hd
  refine pe_mono (pe_callB call_isi hg hm boot_isi (pa_cons ha (pa_cons pt pa_nil hs2) hs) (by decide) (by decide) hs hpl) fun σ H Q ⟨C, e, F, R, hd, e', h1, h2⟩ => ?_
  obtain ⟨g1, e1, q1, h1⟩ := bnd_eq h1
  obtain ⟨d, q4, h1⟩ := obn_eq h1
  cases h1
  refine ⟨C, e, F, R, g1, _, q1, fun v F1 H1 R1 s1 r1 => ?_⟩
  exact ⟨v, .ty T, _, _, _, rfl, .ty T, (r1.get R1 q4).ty R1.sub, kit_is d ht, h2 _ F1 H1 R1 s1 (.bl _)⟩
def xIsi2 (T U : String) (f : Ex) : Ex := fun e => bnd (f e) fun h e1 => obn (h.get e1) fun d => some (.val (.bool (isTy T d || isTy U d)), e1)
theorem he_isi2 {T U : String} (ht : asked T = true) (hu : asked U = true) (hb : bootBuiltins T = some (.type T)) (hb' : bootBuiltins U = some (.type U)) (hg : Gl X "isinstance") (hm : X.mg "isinstance" = none) (hgT : Gl X T) (hmT : X.mg T = none) (hgU : Gl X U) (hmU : X.mg U = none) (ha : HE X a fa)
    (hn : (Str.ofString T : Str) ≠ "__name__" := by decide) (hd : ((T : Str) == ("__debug__" : Str)) = false := by decide) (hn' : (Str.ofString U : Str) ≠ "__name__" := by decide) (hd' : ((U : Str) == ("__debug__" : Str)) = false := by decide)
    (hs : starEach [a, .Tuple [.Name T p1, .Name U p2] kt pt] X.env = (false, eval a X.env) :: starEach [.Tuple [.Name T p1, .Name U p2] kt pt] X.env := by rfl) (hs2 : starEach [.Tuple [.Name T p1, .Name U p2] kt pt] X.env = (false, eval (.Tuple [.Name T p1, .Name U p2] kt pt) X.env) :: starEach [] X.env := by rfl)
    (hs3 : starEach [.Name T p1, .Name U p2] X.env = (false, eval (.Name T p1) X.env) :: starEach [.Name U p2] X.env := by rfl) (hs4 : starEach [.Name U p2] X.env = (false, eval (.Name U p2) X.env) :: starEach [] X.env := by rfl)
    (hpl : (backTo pos (starEach [.Tuple [.Name T p1, .Name U p2] kt pt] X.env)).any (·.1) = false := by rfl) :
    HE X (.Call (.Name "isinstance" p) [a, .Tuple [.Name T p1, .Name U p2] kt pt] [] pos) (xIsi2 T U fa) := by
  have pT : PE X (.Name T p1) (tC (.ty T)) := pe_bltn hgT hmT hb rfl hn hd
  have pU : PE X (.Name U p2) (tC (.ty U)) := pe_bltn hgU hmU hb' rfl hn' hd'
  have pTU := pe_tup (x1 := kt) (pos := pt) (pa_cons pT (pa_cons pU pa_nil hs4) hs3)
  refine pe_mono (pe_callB call_isiT hg hm boot_isi (pa_cons ha (pa_cons pTU pa_nil hs2) hs) (by decide) (by decide) hs hpl) fun σ H Q ⟨C, e, F, R, hd, e', h1, h2⟩ => ?_
  obtain ⟨g1, e1, q1, h1⟩ := bnd_eq h1
  obtain ⟨d, q4, h1⟩ := obn_eq h1
  cases h1
  refine ⟨C, e, F, R, g1, _, q1, fun v F1 H1 R1 s1 r1 => ?_⟩
  refine ⟨by show 2 ≤ sizeLine; decide, fun p hp => ?_⟩
  have g := Grow.idle (o := .tup [.ty T, .ty U]) R1.sub hp
  have R2 := R1.grow g
  refine ⟨v, p, [.ty T, .ty U], _, [.type T, .type U], isTy T d || isTy U d, rfl, upd_same, .cons (.ty T) (.cons (.ty U) .nil), (r1.get R2 q4).ty R2.sub, ?_, h2 _ F1 _ R2 (s1.trans g.ff) (.bl _)⟩
  refine kitAny_cons (kit_is d ht) (fun z => ?_) (fun z => by rw [z]; rfl)
  rw [z, Bool.false_or]
  refine kitAny_cons (kit_is d hu) (fun z => ?_) (fun z => z)
  rw [z]
  rfl
end
end DL
end
section
set_option maxRecDepth 100000
set_option maxHeartbeats 4000000
/-! DL, part 11: defs of the head, as things that may be called; the law's end; ranges; the script -/
namespace DL
open PySem PySem.Spec PyProof.Rows L2
/-! ### a global that may be called -/
structure Cal (P : Program) (w : World) (K : KF) (mg : Str → Option Value) (base : Heap) (k : Nat) (x : Str) (ms : List Md) (Fm : Fn) : Prop where
  ex : ∃ f : Addr, mg x = some (.ref f) ∧ PySem.W.keepIn K (.ref f) = true ∧ ∀ (A : Around) (outer : List Env) (s : Shared) (H : Hp) (us : List Value) (vs : List V) (Q : VK), Room k A → A.guards = some [] → Env0 P w K mg base A outer s H →
    Vals vs us → spD K ms.length Fm vs H Q E0 → codeAny (model P w) A (.call (.ref f) ⟨us, []⟩) (CR CX0 outer P w H s Q E0) s
  one : oneMu ms = true
structure CalK (P : Program) (w : World) (K : KF) (mg : Str → Option Value) (base : Heap) (k : Nat) (x : Str) (ks : List Str) (π : List Nat) (ms : List Md) (Fm : Fn) : Prop where
  ex : ∃ f : Addr, mg x = some (.ref f) ∧ PySem.W.keepIn K (.ref f) = true ∧ ∀ (A : Around) (outer : List Env) (s : Shared) (H : Hp) (us : List Value) (vs : List V) (Q : VK), Room k A → A.guards = some [] → Env0 P w K mg base A outer s H →
    us.length = ks.length → Vals vs us → spD K ms.length Fm (pick π vs) H Q E0 → codeAny (model P w) A (.call (.ref f) ⟨[], ks.zip us⟩) (CR CX0 outer P w H s Q E0) s
  one : oneMu ms = true
  len : ks.length = π.length
section
variable {P : Program} {w : World} {K : KF} {mg : Str → Option Value} {base : Heap} {x qual : Str} {params : Arguments} {body : List Stmt} {scope : Scope} {f : Addr} {fd : FuncData} {N ps ks : List Str} {k : Nat} {g : Sx} {ms : List Md} {Fm : Fn} {π : List Nat} {dvs : List V} {kws : List (Str × V)}
theorem env0_kin {A : Around} {outer : List Env} {s : Shared} {H : Hp} (e : Env0 P w K mg base A outer s H) : K.In s.heap := e.mod.kin.keeps fun b o z => (e.bs b o z).1
/-- a def keeps its promise -/
theorem okD (F : FunD K x qual params body scope dvs kws f fd) (S : FnScope N ps scope)
    (hbody : ∀ (cdv : Value) (A : Around) (outer : List Env) (s : Shared) (H : Hp), Room k (A.deeper (envOfC qual scope s.heap.objs.size f cdv)) → A.guards = some [] →
      HSs (cxOf CX0 P w K mg base N qual scope f cdv A outer s H E0).nox body g) : FnG P w K mg base CX0 (k + 1) f fd ps (spD K ps.length (mkFn N.length ps.length g)) := by
  obtain ⟨oc, od, dV, kV, doc, pm, an, cdv, ct, osl, rfl, lk, hcd, _, _⟩ := F.ex
  refine fn_ofG lk hcd S (fun vs H Q E h => h.1) fun A outer s H vs Q E hr hG h => ?_
  obtain ⟨hl, Fz, l, ss, sF, ra, rt, out, hf, hq⟩ := h
  have pl : ps.length ≤ N.length := by
    have z := congrArg List.length S.pre
    rw [List.length_take] at z
    omega
  refine ⟨tS K g, PSs.nox ((hbody cdv A outer s H hr hG)), ?_⟩
  have hss : ss.length = ps.length := by rw [← ra.length]; exact hl
  unfold mkFn at hf
  rw [if_pos hss] at hf
  obtain ⟨fl, e', h1, h2⟩ := bnd_eq hf
  obtain ⟨out', h3, h4⟩ := obn_eq h2
  have R0 := rel_start (N := N) sF ra (by omega)
  rw [hss] at R0
  refine ⟨_, _, Fz, R0, fl, e', h1, ?_⟩
  cases fl with
  | rt d =>
    cases h4
    exact fun v σ' F' H' R' s' r' => hq v F' H' (rel_end ra R' h3).1 (rel_end ra R' h3).2 r'
  | ro xs =>
    cases h4
    refine fun a vs σ' F' H' R' s' z1 z2 z3 z4 hfr => hq (.ref a) F' H' (rel_end ra R' h3).1 (rel_end ra R' h3).2 ⟨a, vs, rfl, z1, z2, z3, ?_⟩
    rcases z4 with z | z
    · exact z
    · have hla : l = some a := by
        cases l with
        | none => cases z
        | some b => rw [List.mem_singleton.mp z]
      obtain ⟨i, xs', q1, q2⟩ := ioP_of (m := 0) ra hla
      obtain ⟨ys, q3, q4⟩ := R'.ioa _ q1
      exact absurd q4 (hfr _ _ q3 (by simp))
  | nx =>
    cases h4
    exact fun σ' F' H' R' s' => hq .non F' H' (rel_end ra R' h3).1 (rel_end ra R' h3).2 .non
  | bk => cases h4
  | ct => cases h4
theorem calD (F : FunD K x qual params body scope [] [] f fd) (G : FnG P w K mg base CX0 k f fd ps (spD K ms.length Fm)) (hm : mg x = some (.ref f)) (one : oneMu ms = true)
    (h : ∀ (kV doc pm : Value) (an : Option Addr) (cdv ct : Value) (us : List Value), us.length = ps.length → bindArgs (PySem.W.fnOf x qual params body scope .none kV doc pm an cdv ct) ⟨us, []⟩ = pure (ps.zip us)) : Cal P w K mg base k x ms Fm := by
  refine ⟨⟨f, hm, F.kp, fun A outer s H us vs Q hr hG e0 r sp => ?_⟩, one⟩
  have b := FunD.bindsN F h
  have hl : us.length = ps.length := by rw [← r.length]; exact G.len _ _ _ _ sp
  have bt := b s us (env0_kin e0) (by rw [List.append_nil]; exact hl)
  rw [List.append_nil] at bt
  exact G.run A outer s H _ us vs Q E0 hr hG e0 bt r sp
theorem calKD (F : FunD K x qual params body scope [] [] f fd) (G : FnG P w K mg base CX0 k f fd ps (spD K ms.length Fm)) (hm : mg x = some (.ref f)) (one : oneMu ms = true) (len : ks.length = π.length)
    (h : ∀ (kV doc pm : Value) (an : Option Addr) (cdv ct : Value) (us : List Value), us.length = ks.length → bindArgs (PySem.W.fnOf x qual params body scope .none kV doc pm an cdv ct) ⟨[], ks.zip us⟩ = pure (ps.zip (pick π us))) : CalK P w K mg base k x ks π ms Fm := by
  refine ⟨⟨f, hm, F.kp, fun A outer s H us vs Q hr hG e0 hl r sp => ?_⟩, one, len⟩
  obtain ⟨oc, od, dV, kV, doc, pm, an, cdv, ct, osl, rfl, lk, hcd, hD, hK⟩ := F.ex
  rcases hD with ⟨_, rfl⟩ | ⟨e, _⟩
  · exact G.run A outer s H _ _ _ Q E0 hr hG e0 (.of_eq (h kV doc pm an cdv ct us hl)) (Vals.pick r π) sp
  · exact absurd rfl e
/-- a def whose last parameter has a default, an int, that is not written -/
theorem ArgR.snoc {F H : Hp} {i : Int} : ∀ {l : Option Addr} {vs : List V} {ss : List Sl}, ArgR K F H l vs ss → ArgR K F H l (vs ++ [.int i]) (ss ++ [.fz (.int i)])
  | _, _, _, .nil => .fz (.int i) .nil
  | _, _, _, .fz r t => .fz r (ArgR.snoc t)
  | _, _, _, .io a b c t => .io a b c (ArgR.snoc t)
  | _, _, _, .sc r t => .sc r (ArgR.snoc t)
theorem calDf {i : Int} (F : FunD K x qual params body scope [.int i] [] f fd) (G : FnG P w K mg base CX0 k f fd ps (spD K (ms.length + 1) Fm)) (hm : mg x = some (.ref f)) (one : oneMu ms = true) (hps : ps.length = ms.length + 1)
    (h : ∀ (T : Addr) (kV doc pm : Value) (an : Option Addr) (cdv ct : Value) (us its : List Value), us.length = ms.length → its.length = 1 →
      ∃ k, bindArgs (PySem.W.fnOf x qual params body scope (.ref T) kV doc pm an cdv ct) ⟨us, []⟩ = seqItems? (.ref T) >>= k ∧ k (some its.toArray) = pure (ps.zip (us ++ its.drop 0))) : Cal P w K mg base k x ms (fun ss => Fm (ss ++ [.fz (.int i)])) := by
  refine ⟨⟨f, hm, F.kp, fun A outer s H us vs Q hr hG e0 r sp => ?_⟩, one⟩
  obtain ⟨ds, rd, b⟩ := FunD.binds1 F (ps := ps) ms.length 0 (by simp) (by rw [hps]; rfl) h
  have rd' : Vals [.int i] ds := rd
  obtain ⟨hl, Fz, l, ss, sF, ra, rt, out, hf, hq⟩ := sp
  have hd : ds.length = 1 := rd'.length.symm
  refine G.run A outer s H _ (us ++ ds) (vs ++ [.int i]) Q E0 hr hG e0 (b s us (env0_kin e0) (by rw [List.length_append, ← r.length, hl, hd, hps])) (r.append rd') ?_
  exact ⟨by rw [List.length_append, hl]; rfl, Fz, l, _, sF, ra.snoc, rt, out, hf, hq⟩
/-- the same def, all parameters written -/
theorem calDa {i : Int} (F : FunD K x qual params body scope [.int i] [] f fd) (G : FnG P w K mg base CX0 k f fd ps (spD K ms.length Fm)) (hm : mg x = some (.ref f)) (one : oneMu ms = true) (hps : ps.length = ms.length)
    (h : ∀ (T : Addr) (kV doc pm : Value) (an : Option Addr) (cdv ct : Value) (us its : List Value), us.length = ms.length → its.length = 1 →
      ∃ k, bindArgs (PySem.W.fnOf x qual params body scope (.ref T) kV doc pm an cdv ct) ⟨us, []⟩ = seqItems? (.ref T) >>= k ∧ k (some its.toArray) = pure (ps.zip (us ++ its.drop 1))) : Cal P w K mg base k x ms Fm := by
  refine ⟨⟨f, hm, F.kp, fun A outer s H us vs Q hr hG e0 r sp => ?_⟩, one⟩
  obtain ⟨ds, rd, b⟩ := FunD.binds1 F (ps := ps) ms.length 1 (by simp) (by rw [hps]; rfl) h
  have rd' : Vals [] ds := rd
  cases rd'
  have hl : vs.length = ms.length := sp.1
  have bt := b s us (env0_kin e0) (by rw [List.append_nil, ← r.length, hl, hps])
  rw [List.append_nil] at bt
  exact G.run A outer s H _ us vs Q E0 hr hG e0 bt r sp
theorem calNone (hm : ∃ f : Addr, mg x = some (.ref f) ∧ PySem.W.keepIn K (.ref f) = true) (one : oneMu ms = true) : Cal P w K mg base k x ms (fun _ => none) := by
  obtain ⟨f, h1, h2⟩ := hm
  refine ⟨⟨f, h1, h2, fun A outer s H us vs Q hr hG e0 r sp => ?_⟩, one⟩
  obtain ⟨hl, Fz, l, ss, sF, ra, rt, out, hf, hq⟩ := sp
  cases hf
end
section
variable {X : Cx} {k : Nat} {Fm : Fn} {x : Str} {p pos : Pos} {a : Expr} {es : List Expr} {fs : Rx} {ms : List Md}
theorem pe_callC {t : TA} (c : Cal X.prog X.w X.K X.mg X.base k x ms Fm) (hr : Room k X.A) (hG : X.A.guards = some []) (hg : Gl X x) (ha : PA X (a :: es) t) (hdb : (x == ("__debug__" : Str)) = false) (hs : starEach (a :: es) X.env = (false, eval a X.env) :: starEach es X.env) (hpl : (backTo pos (starEach es X.env)).any (·.1) = false) :
    PE X (.Call (.Name x p) (a :: es) [] pos) (fun σ H Q => t σ H fun vs H1 => spD X.K ms.length Fm vs H1 Q E0) := by
  obtain ⟨f, hm, hk, run⟩ := c.ex
  constructor
  intro pins s σ H Q I h
  refine wpAny_Call_Name_kw (ld_glob I hg hm ?_ hdb)
  refine PySem.W.callWith_K (h₀ := X.base) I.ok.mod.kin hk (thn (ha.run pos pins s σ H _ I h) ?_) hs hpl
  rintro us s1 ⟨vs, H1, I1, r, q⟩
  refine ⟨I1.kIn, ?_⟩
  refine wpAny_call (codeAny_mono (run X.A X.stack s1 H1 us vs Q hr hG I1.env0 r q) ?_)
  intro res s' hq
  match res, hq with
  | .error e, hq => exact pass0 pins σ H1 s1 e s' I1 hq
  | .ok (.ret u), hq => exact I1.after hq
theorem he_call' (c : Cal X.prog X.w X.K X.mg X.base k x ms Fm) (hr : Room k X.A) (hG : X.A.guards = some []) (hg : Gl X x) (ha : HR X (a :: es) fs) (hdb : (x == ("__debug__" : Str)) = false := by decide) (hs : starEach (a :: es) X.env = (false, eval a X.env) :: starEach es X.env := by rfl) (hpl : (backTo pos (starEach es X.env)).any (·.1) = false := by rfl) :
    HE X (.Call (.Name x p) (a :: es) [] pos) (xCall ms Fm fs) := by
  refine pe_mono (pe_callC c hr hG hg ha hdb hs hpl) fun σ H Q ⟨C, e, Fz, R, hd, e', q1, q2⟩ => ?_
  obtain ⟨rs, e1, w1, w2⟩ := bnd_eq q1
  obtain ⟨r, e3, w3, w4⟩ := bnd_eq w2
  refine ⟨C, e, Fz, R, rs, e1, w1, fun l vs F1 H1 R1 s1 t1 => ?_⟩
  have hl : vs.length = ms.length := by
    obtain ⟨qs, e2, z, _⟩ := bnd_eq w3
    rw [t1.len, escA_len z]
  cases r with
  | v d =>
    cases w4
    exact xRun_ok c.one R1 t1 w3 hl fun v F' H' R' s' rr => q2 v F' H' R' (s1.trans s') rr
  | o xs => cases w4
theorem fe_call' (c : Cal X.prog X.w X.K X.mg X.base k x ms Fm) (hr : Room k X.A) (hG : X.A.guards = some []) (hg : Gl X x) (ha : HR X (a :: es) fs) (hdb : (x == ("__debug__" : Str)) = false := by decide) (hs : starEach (a :: es) X.env = (false, eval a X.env) :: starEach es X.env := by rfl) (hpl : (backTo pos (starEach es X.env)).any (·.1) = false := by rfl) :
    FE X (.Call (.Name x p) (a :: es) [] pos) (yCall ms Fm fs) := by
  refine pe_mono (pe_callC c hr hG hg ha hdb hs hpl) fun σ H Q ⟨C, e, Fz, R, xs, e', q1, q2⟩ => ?_
  obtain ⟨rs, e1, w1, w2⟩ := bnd_eq q1
  obtain ⟨r, e3, w3, w4⟩ := bnd_eq w2
  refine ⟨C, e, Fz, R, rs, e1, w1, fun l vs F1 H1 R1 s1 t1 => ?_⟩
  have hl : vs.length = ms.length := by
    obtain ⟨qs, e2, z, _⟩ := bnd_eq w3
    rw [t1.len, escA_len z]
  cases r with
  | v d => cases w4
  | o ys =>
    cases w4
    refine xRun_ok c.one R1 t1 w3 hl fun v F' H' R' s' rr => ?_
    obtain ⟨b, ws, rfl, z1, z2, z3, z4⟩ := rr
    refine q2 b ws F' H' R' (s1.trans s') z1 z2 z3 (R1.h0 z4) fun j u y1 y2 y3 => ?_
    obtain ⟨u', y4, y5⟩ := xRun_cells w3 j u y1 y2
    exact R1.freeAt z4 j u' y4 y5 y3
variable {ks : List Str} {π : List Nat} {kws : List Keyword} {gs : Exs}
theorem he_callK' (c : CalK X.prog X.w X.K X.mg X.base k x ks π ms Fm) (hr : Room k X.A) (hG : X.A.guards = some []) (hg : Gl X x)
    (ha : HK X kws gs) (hall : (backToKw pos (keywordEach kws X.env)).all (·.1.isSome) = true := by rfl) (hks : (backToKw pos (keywordEach kws X.env)).filterMap (·.1) = ks := by rfl) (hdb : (x == ("__debug__" : Str)) = false := by decide)
    (hpl : ((backTo pos (starEach [] X.env)).any (·.1) || (backToKw pos (keywordEach kws X.env)).any (·.1.isNone)) = false := by rfl) :
    HE X (.Call (.Name x p) [] kws pos) (xCallK π ms Fm gs) := by
  obtain ⟨f, hm, hk, run⟩ := c.ex
  have pe : PE X (.Call (.Name x p) [] kws pos) (fun σ H Q => tHs X.K gs σ H fun vs H1 => vs.length = ks.length ∧ spD X.K ms.length Fm (pick π vs) H1 Q E0) := by
    constructor
    intro pins s σ H Q I h
    refine wpAny_Call_Name_kw (ld_glob I hg hm ?_ hdb)
    refine PySem.W.callWith_KW0 (h₀ := X.base) I.ok.mod.kin hk hall (thn (ha.run pos pins s σ H _ I h) ?_) hpl
    rintro us s1 ⟨vs, H1, I1, r, z, q⟩
    refine ⟨I1.kIn, ?_⟩
    rw [hks]
    refine wpAny_call (codeAny_mono (run X.A X.stack s1 H1 us vs Q hr hG I1.env0 (by rw [← r.length]; exact z) r q) ?_)
    intro res s' hq
    match res, hq with
    | .error e, hq => exact pass0 pins σ H1 s1 e s' I1 hq
    | .ok (.ret u), hq => exact I1.after hq
  refine pe_mono pe fun σ H Q ⟨C, e, Fz, R, hd, e', q1, q2⟩ => ?_
  obtain ⟨hs, e1, w1, w2⟩ := bnd_eq q1
  obtain ⟨w0, w2⟩ := gd_eq w2
  obtain ⟨r, e3, w3, w4⟩ := bnd_eq w2
  refine ⟨C, e, Fz, R, hs, e1, w1, fun vs F1 H1 R1 s1 t1 => ⟨by rw [t1.length, c.len]; exact of_decide_eq_true w0, ?_⟩⟩
  have t2 := (t1.pick π).rs (C := C) (e := e1) (H := H1)
  have hl : (pick π vs).length = ms.length := by
    obtain ⟨qs, e2, z, _⟩ := bnd_eq w3
    rw [t2.len, escA_len z]
  cases r with
  | v d =>
    cases w4
    exact xRun_ok c.one R1 t2 w3 hl fun v F' H' R' s' rr => q2 v F' H' R' (s1.trans s') rr
  | o xs => cases w4
end
/-- the law's walk, over a head with facts -/
theorem walk_D {l : PySem.W.OpenLaw} {n k : Nat} {q : Program} {loose : List Str} {XP : (Str → Option Value) → Heap → Prop} {YP : World → Heap → Prop} {d : DefRec} {Fm : Fn} {x : Str}
    (hn : l.most = some n) (hn2 : n ≤ sizeLine) (hdf : d.params.defaults = []) (hr : Room k callerA)
    (F : ∀ (w : World) (mg : Str → Option Value) (fa : Addr) (h : Heap), YP w h → h.Ns mainGlobals mg → mg d.name = some (.ref fa) → ∃ (K : KF) (fd : FuncData), K.In h ∧ (∀ (s : Shared) (u : Value), BindsTo s fd ⟨[u], []⟩ [(x, u)]) ∧
        ∀ base : Heap, K.In base → base.Ns mainGlobals mg → FnG l.prog w K mg base CX0 k fa fd [x] (spD K 1 Fm))
    (hf : ∀ ns : List Int, ns.length ≤ n → Fm [.sc ns] = some (.v (.bool true), none)) : PySem.W.WalkO q loose XP YP l.row.toRowW d [] (fun f vs => PySem.call f vs) := by
  refine Att.attach_call hn hdf ?_
  intro w s₀ s₁ mg mb fa o pm cd doc a vs ns G Y ho hd hcd hmg hobj hints hlen hg
  obtain ⟨K, fd, KX, hb, hF⟩ := F w mg fa _ Y G.T.g hmg
  exact law_callG KX G.T.g G.T.b G.T.builtins G.T.nolimit hg hobj hints (Nat.le_trans hlen hn2) hr hF hb (hf ns hlen)

/-! ### list(range), tuple(range) -/
section
variable {X : Cx} {a b : Expr} {fa fb : Ex} {pos p q p2 : Pos}
def rgL (lo hi : Int) : List D := (List.range (hi - lo).toNat).map fun i : Nat => PyData.int (lo + (i : Int))
theorem rgL_rp {K : KF} {F : Hp} (lo hi : Int) : RpA K F (rgV lo hi) (rgL lo hi) := by
  unfold rgV rgL
  generalize List.range (hi - lo).toNat = l
  induction l with
  | nil => exact .nil
  | cons i l ih => exact .cons (.int _) ih
abbrev tRgI (K : KF) (f : En → Option ((Int × Int) × En)) : St → Hp → (Int → Int → Hp → Prop) → Prop := fun σ H Q => ∃ C e F, Rel K C e σ F H ∧ ∃ r e', f e = some (r, e') ∧ ∀ F' H', Rel K C e' σ F' H' → Same F F' → Q r.1 r.2 H'
abbrev Rgx := En → Option ((Int × Int) × En)
def HRg (X : Cx) (e : Expr) (f : Rgx) : Prop := PRg X e (tRgI X.K f)
def rg1 (fa : Ex) : Rgx := fun e => bnd (fa e) fun h e1 => obn (h.get e1) fun d => match d with
  | .int j => some ((0, j), e1)
  | _ => none
def rg2 (fa fb : Ex) : Rgx := fun e => bnd (fa e) fun h e1 => bnd (fb e1) fun h' e2 => obn (h.get e2) fun d => obn (h'.get e2) fun d' => match d, d' with
  | .int i, .int j => some ((i, j), e2)
  | _, _ => none
theorem hrg_1 (hg : Gl X "range") (hm : X.mg "range" = none) (ha : HE X a fa) (na : starEach [a] X.env = (false, eval a X.env) :: starEach [] X.env := by rfl) : HRg X (.Call (.Name "range" p) [a] [] pos) (rg1 fa) := by
  intro pins s σ H Q I ⟨C, e, F, R, r, e', q1, q2⟩
  obtain ⟨hd, e1, w1, w2⟩ := bnd_eq q1
  obtain ⟨d, w3, w4⟩ := obn_eq w2
  refine prg_1 hg hm ha na pins s σ H Q I ⟨C, e, F, R, hd, e1, w1, fun v F1 H1 R1 s1 r1 => ?_⟩
  cases d with
  | int j =>
    have w4' : some (((0 : Int), j), e1) = some (r, e') := w4
    cases w4'
    exact ⟨j, (r1.get R1 w3).int, q2 F1 H1 R1 s1⟩
  | _ => cases w4
theorem hrg_2 (hg : Gl X "range") (hm : X.mg "range" = none) (ha : HE X a fa) (hb : HE X b fb) (na : starEach [a, b] X.env = (false, eval a X.env) :: starEach [b] X.env := by rfl)
    (nb : starEach [b] X.env = (false, eval b X.env) :: starEach [] X.env := by rfl) (hp : (backTo pos (starEach [b] X.env)).any (·.1) = false := by rfl) : HRg X (.Call (.Name "range" p) [a, b] [] pos) (rg2 fa fb) := by
  intro pins s σ H Q I ⟨C, e, F, R, r, e', q1, q2⟩
  obtain ⟨hd, e1, w1, w2⟩ := bnd_eq q1
  obtain ⟨hd', e2, w1', w2⟩ := bnd_eq w2
  obtain ⟨d, w3, w4⟩ := obn_eq w2
  obtain ⟨d', w3', w4⟩ := obn_eq w4
  refine prg_2 hg hm ha hb na nb hp pins s σ H Q I ⟨C, e, F, R, hd, e1, w1, fun v F1 H1 R1 s1 r1 => ⟨C, e1, F1, R1, hd', e2, w1', fun v' F2 H2 R2 s2 r2 => ?_⟩⟩
  cases d with
  | int i => cases d' with
    | int j =>
      have w4' : some ((i, j), e2) = some (r, e') := w4
      cases w4'
      exact ⟨i, j, ((r1.mono s2).get R2 w3).int, (r2.get R2 w3').int, q2 F2 H2 R2 (s1.trans s2)⟩
    | _ => cases w4
  | _ => cases w4
def rgOk (i j : Int) : Bool := inB i && inB j && decide (j - i ≤ lim)
theorem rgOk_ok {i j : Int} (h : rgOk i j = true) : RgOk i j := by
  obtain ⟨h1, h3⟩ := Bool.and_eq_true_iff.mp h
  obtain ⟨h1, h2⟩ := Bool.and_eq_true_iff.mp h1
  obtain ⟨b1, b2⟩ := inB_ok h1
  obtain ⟨b3, b4⟩ := inB_ok h2
  have h4 := of_decide_eq_true h3
  have e : (lim : Int) = 1000000 := rfl
  exact ⟨b1, b2, b3, b4, by omega⟩
def yLrg (f : Rgx) : Fx := fun e => bnd (f e) fun r e1 => gd (rgOk r.1 r.2) (some (rgL r.1 r.2, e1))
def xTrg (f : Rgx) : Ex := fun e => bnd (f e) fun r e1 => gd (rgOk r.1 r.2) (some (.val (.tuple (rgL r.1 r.2)), e1))
theorem fe_listRg {f : Rgx} (hc : X.calm = true) (hg : Gl X "list") (hm : X.mg "list" = none) (he : HRg X a f) (na : starEach [a] X.env = (false, eval a X.env) :: starEach [] X.env := by rfl) : FE X (.Call (.Name "list" p) [a] [] pos) (yLrg f) := by
  refine pe_mono (pe_listRg hc hg hm he na) fun σ H Q ⟨C, e, F, R, xs, e', q1, q2⟩ => ?_
  obtain ⟨r, e1, w1, w2⟩ := bnd_eq q1
  obtain ⟨w3, w4⟩ := gd_eq w2
  cases w4
  exact ⟨C, e, F, R, r, _, w1, fun F1 H1 R1 s1 => ⟨rgOk_ok w3, fun p hp => tF_new R1 (rgL_rp _ _) hp fun a vs F' H' z1 z2 => q2 a vs F' H' z1 (s1.trans z2)⟩⟩
def tTupRgF (te : St → Hp → (Int → Int → Hp → Prop) → Prop) : TE := fun σ H Q => te σ H fun a b H1 => RgOk a b ∧ kT (rgV a b) H1 Q
theorem pe_tupRgF {te : St → Hp → (Int → Int → Hp → Prop) → Prop} (hc : X.calm = true) (hg : Gl X "tuple") (hm : X.mg "tuple" = none) (he : PRg X a te) (na : starEach [a] X.env = (false, eval a X.env) :: starEach [] X.env) : PE X (.Call (.Name "tuple" p) [a] [] pos) (tTupRgF te) := by
  refine ⟨fun pins s σ H Q I h => ?_⟩
  refine Call_ (ld_blt I hg hm boot_tuple (PyProof.Rows.callWith_type1 (args_cons (thn (he pins s σ H _ I h) fun x s1 ⟨r, a, b, t, u, v, H1, ex, hr, I1, ok, q⟩ => args_nil ?_) na) na))
  subst ex
  obtain ⟨b1, b2, b3, b4, b5⟩ := ok
  refine call_tuple_range (n := (b - a).toNat) (I1.ok.hd hc) hr (small_one b1 b2 b3 b4) (rangeSize_nat a b) b5 fun h' tk acc hk hi => ?_
  have I2 : Inv X pins σ H1 { s1 with heap := h', toks := tk } := I1.kept hk
  obtain ⟨I3, fr⟩ := newT I2 (vals_rg hi) (by rw [rgV_length, sizeLine_eq]; omega)
  have e1 : tupO acc.toList = { cls := .type "tuple", data := .seq acc } := by unfold tupO; simp
  rw [e1] at I3
  exact ⟨.ref h'.objs.size, _, I3, rfl, q _ _ rfl fr⟩
theorem he_tupRg {f : Rgx} (hc : X.calm = true) (hg : Gl X "tuple") (hm : X.mg "tuple" = none) (he : HRg X a f) (na : starEach [a] X.env = (false, eval a X.env) :: starEach [] X.env := by rfl) : HE X (.Call (.Name "tuple" p) [a] [] pos) (xTrg f) := by
  refine pe_mono (pe_tupRgF hc hg hm he na) fun σ H Q ⟨C, e, F, R, hd, e', q1, q2⟩ => ?_
  obtain ⟨r, e1, w1, w2⟩ := bnd_eq q1
  obtain ⟨w3, w4⟩ := gd_eq w2
  cases w4
  exact ⟨C, e, F, R, r, _, w1, fun F1 H1 R1 s1 => ⟨rgOk_ok w3, kT_of R1.sub (rgL_rp _ _) fun v F' H' g r => q2 v F' H' (R1.grow g) (s1.trans g.ff) r⟩⟩
/-! ### len(set(tuple of ints)) -/
def ndI : List Int → List Int
  | [] => []
  | a :: r => if a ∈ ndI r then ndI r else a :: ndI r
theorem ndI_mem : ∀ (l : List Int) (k : Int), k ∈ ndI l ↔ k ∈ l
  | [], k => by simp [ndI]
  | a :: r, k => by
    unfold ndI
    split
    · rename_i h
      rw [ndI_mem r k, List.mem_cons]
      refine ⟨.inr, fun z => z.elim (fun e => ?_) id⟩
      rw [e]
      exact (ndI_mem r a).mp h
    · rw [List.mem_cons, List.mem_cons, ndI_mem r k]
theorem ndI_nodup : ∀ l : List Int, (ndI l).Nodup
  | [] => .nil
  | a :: r => by
    unfold ndI
    split
    · exact ndI_nodup r
    · rename_i h
      exact List.nodup_cons.mpr ⟨h, ndI_nodup r⟩
theorem ndI_of_nodup : ∀ {l : List Int}, l.Nodup → ndI l = l
  | [], _ => rfl
  | a :: r, h => by
    have h' := List.nodup_cons.mp h
    unfold ndI
    rw [if_neg (fun z => h'.1 ((ndI_mem r a).mp z)), ndI_of_nodup h'.2]
theorem ndI_le : ∀ l : List Int, (ndI l).length ≤ l.length
  | [] => Nat.le_refl _
  | a :: r => by
    unfold ndI
    have := ndI_le r
    split
    · rw [List.length_cons]; omega
    · rw [List.length_cons, List.length_cons]; omega
theorem nodup_of_ndI : ∀ {l : List Int}, (ndI l).length = l.length → l.Nodup
  | [], _ => .nil
  | a :: r, h => by
    unfold ndI at h
    have hl := ndI_le r
    split at h
    · rw [List.length_cons] at h
      omega
    · rename_i hn
      rw [List.length_cons, List.length_cons] at h
      exact List.nodup_cons.mpr ⟨fun z => hn ((ndI_mem r a).mpr z), nodup_of_ndI (by omega)⟩
theorem len_of_mem {l m : List Int} (h1 : l.Nodup) (h2 : m.Nodup) (h : ∀ k, k ∈ l ↔ k ∈ m) : l.length = m.length := ((List.perm_ext_iff_of_nodup h1 h2).mpr h).length_eq
def tLenSetT (K : KF) (ta : TE) : TE := fun σ H Q => ta σ H fun x H1 => ∃ (l : Addr) (ns : List Int), x = .ref l ∧ SqT K H1 l (ns.map V.int) ∧ ns.length ≤ 1000 ∧ Q (.int ((ndI ns).length : Nat)) H1
theorem pe_lenSetT {ta : TE} (hg : Gl X "len") (hm : X.mg "len" = none) (hg2 : Gl X "set") (hm2 : X.mg "set" = none) (ha : PE X a ta) (hc : X.calm = true)
    (na : starEach [a] X.env = (false, eval a X.env) :: starEach [] X.env) : PE X (.Call (.Name "len" p) [.Call (.Name "set" p2) [a] [] q] [] pos) (tLenSetT X.K ta) := by
  refine ⟨fun pins s σ H Q I h => ?_⟩
  refine Call_ (ld_blt I hg hm boot_len ?_)
  refine PyProof.Rows.callWith_builtin1 (PyProof.Rows.args_cons ?_ rfl) rfl rfl
  refine Call_ (ld_blt I hg2 hm2 PyProof.Rows.boot_set ?_)
  refine PyProof.Rows.callWith_type1 (PyProof.Rows.args_cons (thn (ha.run pins s σ H _ I h) fun v s1 ⟨x, H1, I1, r1, q1⟩ => PyProof.Rows.args_nil ?_) na) na rfl
  obtain ⟨l, ns, rfl, hq, hl, q1⟩ := q1
  cases r1
  obtain ⟨its, r, pl, hz⟩ := I1.tuple hq
  have hi : IntsAre its.toArray.toList ns := ints_of_vals r
  refine call_set_tupI ns (I1.ok.hd hc) (show s1.heap.IsTuple l its.toArray from pl) hi (by unfold scanBound; omega) fun h' tk cc R1 hcn kk => ?_
  refine PyProof.Rows.args_nil ?_
  obtain ⟨o, es, ep, t, ho, hex, hdt, g, nd, hm2, hb, hf, hn, _⟩ := R1
  have I2 : Inv X pins σ H1 { s1 with heap := h', toks := tk } := I1.kept kk
  have hlen : es.size = (ndI ns).length := by
    have e1 : es.size = (es.toList.map keyOf).length := by rw [List.length_map, Array.length_toList]
    rw [e1]
    refine len_of_mem nd (ndI_nodup ns) fun k => ?_
    rw [← hm2 k, ndI_mem]
    simp
  have hnl := ndI_le ns
  exact call_len_set ho hex hdt hf (by rw [hlen]; omega) ⟨.int ((ndI ns).length : Nat), H1, I2.tok _, ⟨_, by rw [hlen]⟩, q1⟩
def xLenSet (f : Ex) : Ex := fun e => bnd (f e) fun h e1 => obn (h.get e1) fun d => match d with
  | .tuple xs => obn (intsD xs) fun ns => gd (decide (ns.length ≤ 1000)) (some (.val (.int ((ndI ns).length : Nat)), e1))
  | _ => none
theorem he_lenSet (hc : X.calm = true) (hg : Gl X "len") (hm : X.mg "len" = none) (hg2 : Gl X "set") (hm2 : X.mg "set" = none) (ha : HE X a fa) (na : starEach [a] X.env = (false, eval a X.env) :: starEach [] X.env := by rfl) :
    HE X (.Call (.Name "len" p) [.Call (.Name "set" p2) [a] [] q] [] pos) (xLenSet fa) := by
  refine pe_mono (pe_lenSetT hg hm hg2 hm2 ha hc na) fun σ H Q ⟨C, e, F, R, hd, e', q1, q2⟩ => ?_
  obtain ⟨g1, e1, w1, q1⟩ := bnd_eq q1
  obtain ⟨d, w2, q1⟩ := obn_eq q1
  refine ⟨C, e, F, R, g1, e1, w1, fun v F1 H1 R1 s1 r1 => ?_⟩
  cases d with
  | tuple xs =>
    obtain ⟨ns, w3, w4⟩ := obn_eq (show obn (intsD xs) (fun ns => gd (decide (ns.length ≤ 1000)) (some (Hd.val (.int ((ndI ns).length : Nat)), e1))) = some (hd, e') from q1)
    obtain ⟨w5, w6⟩ := gd_eq w4
    cases w6
    obtain ⟨b, vs, rfl, h1, h2⟩ := (r1.get R1 w2).tuple R1.sub
    have e := h2.ofInts w3
    subst e
    exact ⟨b, ns, rfl, h1.seq, of_decide_eq_true w5, q2 _ F1 H1 R1 s1 (.int _)⟩
  | _ => cases q1
end
/-! ### the script -/
section
variable {X : Cx} {b : Expr} {fb : Ex} {pos p q p2 : Pos} {i : Nat} {x : Str}
def xLenSc (i : Nat) : Ex := fun e => match e[i]? with
  | some (.sc ns) => some (.val (.int (ns.length : Nat)), e)
  | _ => none
theorem sc_at {K : KF} {C : CTX} {e : En} {σ : St} {F H : Hp} {ns : List Int} (R : Rel K C e σ F H) (h : e[i]? = some (.sc ns)) : ∃ a, σ[i]? = some (some (V.ref a)) ∧ SqL K H a (ns.map V.int) := by
  obtain ⟨a, h1, h2⟩ := R.scr i ns h
  exact ⟨a, h1, R.sub.seq h2⟩
theorem he_lenSc (h : PE X (.Name x q) (tVar i)) (hg : Gl X "len") (hm : X.mg "len" = none) (hs : starEach [.Name x q] X.env = (false, eval (.Name x q) X.env) :: starEach [] X.env := by rfl) : HE X (.Call (.Name "len" p) [.Name x q] [] pos) (xLenSc i) := by
  refine pe_mono (pe_callB call_len_seq hg hm boot_len (pa_cons h pa_nil hs) (by decide) (by decide) hs rfl) fun σ H Q ⟨C, e, F, R, hd, e', q1, q2⟩ => ?_
  unfold xLenSc at q1
  split at q1
  · rename_i ns h1
    cases q1
    obtain ⟨a, y1, y2⟩ := sc_at R h1
    refine ⟨.ref a, y1, ⟨a, _, rfl, .inl y2, ?_⟩⟩
    rw [List.length_map]
    exact q2 _ F H R (.refl _) (.int _)
  · cases q1
def xIxSc (i : Nat) (f : Ex) : Ex := fun e => match e[i]? with
  | some (.sc ns) => bnd (f e) fun h e1 => obn (h.get e1) fun d => match d with
    | .int k => obn (atI ns k) fun n => some (.val (.int n), e1)
    | _ => none
  | _ => none
theorem atI_map {ns : List Int} {k n : Int} (h : atI ns k = some n) : atI (ns.map V.int) k = some (.int n) := by
  unfold atI at h ⊢
  rw [List.length_map]
  cases q : ixN ns.length k with
  | none =>
    rw [q] at h
    cases h
  | some j =>
    rw [q] at h
    show (ns.map V.int)[j]? = _
    rw [List.getElem?_map, show ns[j]? = some n from h]
    rfl
theorem he_ixSc (h : PE X (.Name x q) (tVar i)) (hb : HE X b fb) (hs : PlainIx b) : HE X (.Subscript (.Name x q) b pos) (xIxSc i fb) := by
  refine pe_mono (pe_ix ix_list h hb hs) fun σ H Q ⟨C, e, F, R, hd, e', q1, q2⟩ => ?_
  unfold xIxSc at q1
  split at q1
  · rename_i ns h1
    obtain ⟨hd1, e1, w1, q1⟩ := bnd_eq q1
    obtain ⟨d, w2, q1⟩ := obn_eq q1
    obtain ⟨a, y1, y2⟩ := R.scr i ns h1
    refine ⟨.ref a, y1, C, e, F, R, hd1, e1, w1, fun v F1 H1 R1 s1 r1 => ?_⟩
    cases d with
    | int k =>
      obtain ⟨n, w3, w4⟩ := obn_eq (show obn (atI ns k) (fun n => some (Hd.val (.int n), e1)) = some (hd, e') from q1)
      cases w4
      exact ⟨a, _, k, _, rfl, (r1.get R1 w2).int, R1.sub.seq (s1.seq y2), atI_map w3, q2 _ F1 H1 R1 s1 (.int _)⟩
    | _ => cases q1
  · cases q1
def ySlSc (i : Nat) (fl fu : Ox) : Fx := fun e => match e[i]? with
  | some (.sc ns) => bnd (fl e) fun lo e2 => bnd (fu e2) fun hi e3 => some (cutD (ns.map .int) lo hi, e3)
  | _ => none
theorem fe_slSc {lo hi : Option Expr} {fl fu : Ox} (h : PE X (.Name x q) (tVar i)) (hl : HO X lo fl) (hu : HO X hi fu) : FE X (.Subscript (.Name x q) (.Slice lo hi none p2) pos) (ySlSc i fl fu) := by
  refine pe_mono (pe_slice sl_list h hl hu) fun σ H Q ⟨C, e, F, R, ys, e', h1, h2⟩ => ?_
  unfold ySlSc at h1
  split at h1
  · rename_i ns h0
    obtain ⟨l, e2, q2, h1⟩ := bnd_eq h1
    obtain ⟨u, e3, q3, h1⟩ := bnd_eq h1
    cases h1
    obtain ⟨a, y1, y2⟩ := R.scr i ns h0
    refine ⟨.ref a, y1, C, e, F, R, l, e2, q2, fun F2 H2 R2 s2 => ⟨C, e2, F2, R2, u, _, q3, fun F3 H3 R3 s3 => ?_⟩⟩
    refine ⟨a, _, rfl, R3.sub.seq ((s2.trans s3).seq y2), fun p hp => ?_⟩
    exact tF_new R3 ((RpA.ints (K := X.K) (H := F3) ns).cut l u) hp fun a vs F' H' z1 z2 => h2 a vs F' H' z1 (s2.trans (s3.trans z2))
  · cases h1
end
end DL
end
section
set_option maxRecDepth 100000
set_option maxHeartbeats 4000000
/-! DL, part 12: what the printed texts lean on -/
namespace DL
open PySem PySem.Spec PyProof.Rows L2
theorem u65 {k : Nat} {A : Around} (r : Room k A) : A.units + 65 < cLine := by have := r.un; omega
theorem bt_len : bootBuiltins "len" = some (.builtin "len") := by decide +kernel
theorem bt_abs : bootBuiltins "abs" = some (.builtin "abs") := by decide +kernel
theorem bt_max : bootBuiltins "max" = some (.builtin "max") := by decide +kernel
theorem bt_min : bootBuiltins "min" = some (.builtin "min") := by decide +kernel
theorem bt_sum : bootBuiltins "sum" = some (.builtin "sum") := by decide +kernel
theorem bt_all : bootBuiltins "all" = some (.builtin "all") := by decide +kernel
theorem bt_any : bootBuiltins "any" = some (.builtin "any") := by decide +kernel
theorem bt_sorted : bootBuiltins "sorted" = some (.builtin "sorted") := by decide +kernel
theorem bt_divmod : bootBuiltins "divmod" = some (.builtin "divmod") := by decide +kernel
theorem bt_repr : bootBuiltins "repr" = some (.builtin "repr") := by decide +kernel
theorem bt_int : bootBuiltins "int" = some (.type "int") := by decide +kernel
theorem bt_bool : bootBuiltins "bool" = some (.type "bool") := by decide +kernel
theorem bt_str : bootBuiltins "str" = some (.type "str") := by decide +kernel
theorem bt_list : bootBuiltins "list" = some (.type "list") := by decide +kernel
theorem bt_tuple : bootBuiltins "tuple" = some (.type "tuple") := by decide +kernel
theorem bt_dict : bootBuiltins "dict" = some (.type "dict") := by decide +kernel
section
variable {X : Cx} {a b c : Expr} {es : List Expr} {fa : Ex} {pos p q p2 : Pos} {i : Nat} {x : Str} {fs : Exs}
theorem he_mi {i : Int} (h : ∃ t, X.mg x = some (.int i t)) (hg : Gl X x) (hd : (x == ("__debug__" : Str)) = false := by decide) : HE X (.Name x pos) (xC (.int i)) := by
  obtain ⟨t, h⟩ := h
  exact he_c (pe_glob (v := .int i) hg h ⟨t, rfl⟩ hd) fun _ => .int i
theorem hs_par3 {f : Rx} {i j k : Nat} {x y z : Str} {px py pz pt : Pos} {kt k2 pt2} (hc : X.calm = true) (hN : X.N.Nodup) (hi : X.N[i]? = some x) (hj : X.N[j]? = some y) (hk : X.N[k]? = some z) (hij : i ≠ j) (hik : i ≠ k) (hjk : j ≠ k)
    (hx : X.env.scope.names.lookup x = some .local) (hy : X.env.scope.names.lookup y = some .local) (hz : X.env.scope.names.lookup z = some .local) (ha : HR X [a, b, c] f)
    (hw : swappedStores [.Tuple [.Name x px, .Name y py, .Name z pz] kt pt] (.Tuple [a, b, c] k2 pt2) X.env = pure (some [x, y, z]))
    (hs : swapsWithSole [.Tuple [.Name x px, .Name y py, .Name z pz] kt pt] (.Tuple [a, b, c] k2 pt2) pos.line X.env = pure false := by rfl) :
    HS X (.Assign [.Tuple [.Name x px, .Name y py, .Name z pz] kt pt] (.Tuple [a, b, c] k2 pt2) pos) (sPar3 i j k f) := by
  refine ps_mono (ps_par3 hc hN hi hj hk hij hik hjk hx hy hz ha hw hs) fun De σ H ⟨C, e, F, R, fl, e', q1, q2⟩ => ?_
  obtain ⟨rs, e1, w1, w2⟩ := bnd_eq q1
  obtain ⟨qs, e2, w3, w4⟩ := bnd_eq w2
  refine ⟨C, e, F, R, rs, e1, w1, fun l vs F1 H1 R1 s1 t1 => ?_⟩
  obtain ⟨F2, R2, s2, t2, _⟩ := RpRs.esc R1 t1 w3
  have hv := escR_val w3
  match qs, w4, t2, hv with
  | [r1, r2, r3], w4, t2, hv =>
    obtain ⟨e3, w5, w6⟩ := obn_eq w4
    obtain ⟨e4, w7, w8⟩ := obn_eq w6
    obtain ⟨e5, w9, w10⟩ := obn_eq w8
    cases w10
    have hl := t2.len
    match vs, hl, t2 with
    | [u, v, w], _, t2 =>
      obtain ⟨R3, l3, t3⟩ := putA_ok R2 hv t2 w5
      obtain ⟨R4, l4, t4⟩ := putA_ok R3 (fun q hq => hv q (List.mem_cons_of_mem _ hq)) t3 w7
      obtain ⟨R5, l5, t5⟩ := putA_ok R4 (fun q hq => hv q (List.mem_cons_of_mem _ (List.mem_cons_of_mem _ hq))) t4 w9
      exact ⟨u, v, w, rfl, q2 _ F2 H1 R5 (s1.trans s2)⟩
end
/-- how many turns a while may take -/
def fuel : Nat := 1000000
abbrev sWh (t : Ts) (b : Sx) : Sx := sWhile (fun _ => fuel) t b
end DL
end
section
set_option maxRecDepth 100000
set_option maxHeartbeats 4000000
/-! DL, part 13: reckoning with mirrors -/
namespace DL
open PySem PySem.Spec PyProof.Rows L2
/-! continuations that simp does not enter: they stand as instances -/
class KI (α β : Type) where
  k : α → En → Option β
class KO (α β : Type) where
  k : α → Option β
class KU (β : Type) where
  k : Unit → Option β
def bI {α β : Type} (m : Option (α × En)) [c : KI α β] : Option β := bnd m c.k
def oI {α β : Type} (m : Option α) [c : KO α β] : Option β := obn m c.k
def gI {β : Type} (b : Bool) [c : KU β] : Option β := gd b (c.k ())
@[simp] theorem bI_some {α β : Type} (a : α) (e : En) (k : α → En → Option β) : @bI α β (some (a, e)) ⟨k⟩ = k a e := rfl
@[simp] theorem bI_none {α β : Type} (k : α → En → Option β) : @bI α β none ⟨k⟩ = none := rfl
@[simp] theorem oI_some {α β : Type} (a : α) (k : α → Option β) : @oI α β (some a) ⟨k⟩ = k a := rfl
@[simp] theorem oI_none {α β : Type} (k : α → Option β) : @oI α β none ⟨k⟩ = none := rfl
@[simp] theorem gI_true {β : Type} (k : Unit → Option β) : @gI β true ⟨k⟩ = k () := rfl
@[simp] theorem gI_dec {β : Type} {p : Prop} [Decidable p] (k : Unit → Option β) (h : p) : @gI β (decide p) ⟨k⟩ = k () := by
  rw [decide_eq_true h]
  rfl
theorem gI_of {β : Type} {b : Bool} (k : Unit → Option β) (h : b = true) : @gI β b ⟨k⟩ = k () := by
  rw [h]
  rfl
def slOk : Option Sl → Option Unit
  | some .em => none
  | some _ => some ()
  | none => none
@[simp] theorem slOk_fz {d : D} : slOk (some (.fz d)) = some () := rfl
@[simp] theorem slOk_ow {d : List D} : slOk (some (.ow d)) = some () := rfl
@[simp] theorem slOk_io {d : List D} : slOk (some (.io d)) = some () := rfl
@[simp] theorem slOk_sc {d : List Int} : slOk (some (.sc d)) = some () := rfl
def asI : D → Option Int
  | .int i => some i
  | _ => none
@[simp] theorem asI_i {i : Int} : asI (.int i) = some i := rfl
def tupL : D → Option (List D)
  | .tuple i => some i
  | _ => none
@[simp] theorem tupL_t {i : List D} : tupL (.tuple i) = some i := rfl
def slD : D → Option Int → Option Int → Option D
  | .list xs, lo, hi => some (.list (cutD xs lo hi))
  | .tuple xs, lo, hi => some (.tuple (cutD xs lo hi))
  | _, _, _ => none
@[simp] theorem slD_l {xs : List D} {lo hi : Option Int} : slD (.list xs) lo hi = some (.list (cutD xs lo hi)) := rfl
@[simp] theorem slD_t {xs : List D} {lo hi : Option Int} : slD (.tuple xs) lo hi = some (.tuple (cutD xs lo hi)) := rfl
def scO : Option Sl → Option (List Int)
  | some (.sc ns) => some ns
  | _ => none
@[simp] theorem scO_s {ns : List Int} : scO (some (.sc ns)) = some ns := rfl
def rtV : Rt → En → Option (Hd × En)
  | .v d, e => some (.val d, e)
  | .o _, _ => none
def rtO : Rt → En → Option (List D × En)
  | .v _, _ => none
  | .o xs, e => some (xs, e)
@[simp] theorem rtV_v {d : D} {e : En} : rtV (.v d) e = some (.val d, e) := rfl
@[simp] theorem rtO_o {xs : List D} {e : En} : rtO (.o xs) e = some (xs, e) := rfl
def updX (i : Nat) (f : List D → Option (List D)) (e : En) : Option Sl → Option En
  | some (.ow xs) => @oI _ _ (f xs) ⟨fun ys => some (e.set i (.ow ys))⟩
  | some (.io xs) => @oI _ _ (f xs) ⟨fun ys => some (e.set i (.io ys))⟩
  | _ => none
@[simp] theorem updX_ow {i : Nat} {f : List D → Option (List D)} {e : En} {xs : List D} : updX i f e (some (.ow xs)) = @oI _ _ (f xs) ⟨fun ys => some (e.set i (.ow ys))⟩ := rfl
@[simp] theorem updX_io {i : Nat} {f : List D → Option (List D)} {e : En} {xs : List D} : updX i f e (some (.io xs)) = @oI _ _ (f xs) ⟨fun ys => some (e.set i (.io ys))⟩ := rfl
def putX (i : Nat) (s : Sl) (e : En) : Option Sl → Option En
  | none => none
  | some (.io _) => none
  | some _ => some (e.set i s)
/-- a slot that holds nothing or a datum -/
def oS : Option D → Sl
  | none => .em
  | some d => .fz d
section
variable {i : Nat} {s : Sl} {e : En}
@[simp] theorem putX_em : putX i s e (some .em) = some (e.set i s) := rfl
@[simp] theorem putX_fz {d : D} : putX i s e (some (.fz d)) = some (e.set i s) := rfl
@[simp] theorem putX_ow {d : List D} : putX i s e (some (.ow d)) = some (e.set i s) := rfl
@[simp] theorem putX_oS {o : Option D} : putX i s e (some (oS o)) = some (e.set i s) := by cases o <;> rfl
end
theorem oS_n : Sl.em = oS none := rfl
theorem oS_s {d : D} : Sl.fz d = oS (some d) := rfl
def popX (i : Nat) (j : Int) (e : En) : Option Sl → Option (D × En)
  | some (.ow xs) => @oI _ _ (popI xs j) ⟨fun r => some (r.1, e.set i (.ow r.2))⟩
  | some (.io xs) => @oI _ _ (popI xs j) ⟨fun r => some (r.1, e.set i (.io r.2))⟩
  | _ => none
@[simp] theorem popX_ow {i : Nat} {j : Int} {e : En} {xs : List D} : popX i j e (some (.ow xs)) = @oI _ _ (popI xs j) ⟨fun r => some (r.1, e.set i (.ow r.2))⟩ := rfl
@[simp] theorem popX_io {i : Nat} {j : Int} {e : En} {xs : List D} : popX i j e (some (.io xs)) = @oI _ _ (popI xs j) ⟨fun r => some (r.1, e.set i (.io r.2))⟩ := rfl
def seqK (u : Sx) : Fl → En → Option (Fl × En)
  | .nx, e => u e
  | fl, e => some (fl, e)
@[simp] theorem seqK_nx {u : Sx} {e : En} : seqK u .nx e = u e := rfl
@[simp] theorem seqK_rt {u : Sx} {e : En} {d : D} : seqK u (.rt d) e = some (.rt d, e) := rfl
@[simp] theorem seqK_ro {u : Sx} {e : En} {d : List D} : seqK u (.ro d) e = some (.ro d, e) := rfl
@[simp] theorem seqK_bk {u : Sx} {e : En} : seqK u .bk e = some (.bk, e) := rfl
@[simp] theorem seqK_ct {u : Sx} {e : En} : seqK u .ct e = some (.ct, e) := rfl
def par2 (i j : Nat) : List Ar → En → Option (Fl × En)
  | [r1, r2], e => @oI _ _ (putA i r1 e) ⟨fun e3 => @oI _ _ (putA j r2 e3) ⟨fun e4 => some (.nx, e4)⟩⟩
  | _, _ => none
@[simp] theorem par2_ap {i j : Nat} {r1 r2 : Ar} {e : En} : par2 i j [r1, r2] e = @oI _ _ (putA i r1 e) ⟨fun e3 => @oI _ _ (putA j r2 e3) ⟨fun e4 => some (.nx, e4)⟩⟩ := rfl
def par3 (i j k : Nat) : List Ar → En → Option (Fl × En)
  | [r1, r2, r3], e => @oI _ _ (putA i r1 e) ⟨fun e3 => @oI _ _ (putA j r2 e3) ⟨fun e4 => @oI _ _ (putA k r3 e4) ⟨fun e5 => some (.nx, e5)⟩⟩⟩
  | _, _ => none
@[simp] theorem par3_ap {i j k : Nat} {r1 r2 r3 : Ar} {e : En} : par3 i j k [r1, r2, r3] e = @oI _ _ (putA i r1 e) ⟨fun e3 => @oI _ _ (putA j r2 e3) ⟨fun e4 => @oI _ _ (putA k r3 e4) ⟨fun e5 => some (.nx, e5)⟩⟩⟩ := rfl
def zipD : D → D → Option (List Itm)
  | .list xs, .list ys => some (prs xs ys)
  | .tuple xs, .tuple ys => some (prs xs ys)
  | _, _ => none
@[simp] theorem zipD_l {xs ys : List D} : zipD (.list xs) (.list ys) = some (prs xs ys) := rfl
@[simp] theorem zipD_t {xs ys : List D} : zipD (.tuple xs) (.tuple ys) = some (prs xs ys) := rfl
section
variable {e : En} {i j k n : Nat} {f g u fa fb fc : Ex} {t : Ts} {d d1 d2 : D}
@[simp] theorem gd_dec {α : Type} {p : Prop} [Decidable p] (k : Option α) (h : p) : gd (decide p) k = k := by
  rw [decide_eq_true h]
  rfl
theorem gd_and {α : Type} {a b : Bool} (k : Option α) : gd (a && b) k = gd a (gd b k) := by
  cases a <;> cases b <;> rfl
theorem obn_assoc {α β γ : Type} (m : Option α) (k : α → Option β) (l : β → Option γ) : obn (obn m k) l = obn m fun a => obn (k a) l := by
  cases m <;> rfl
theorem bnd_assoc {α β γ : Type} (m : Option (α × En)) (k : α → En → Option (β × En)) (l : β → En → Option γ) : bnd (bnd m k) l = bnd m fun a e => bnd (k a e) l := by
  cases m <;> rfl
@[simp] theorem xC_ap : xC d e = some (.val d, e) := rfl
@[simp] theorem xB_ap {o : D → D → Option D} : xB o fa fb e = @bI _ _ (fa e) ⟨fun h1 e1 => @bI _ _ (fb e1) ⟨fun h2 e2 => @oI _ _ (h1.get e2) ⟨fun d1 => @oI _ _ (h2.get e2) ⟨fun d2 => @oI _ _ (o d1 d2) ⟨fun d => some (.val d, e2)⟩⟩⟩⟩⟩ := rfl
@[simp] theorem xU_ap {o : D → Option D} : xU o fa e = @bI _ _ (fa e) ⟨fun h1 e1 => @oI _ _ (h1.get e1) ⟨fun d1 => @oI _ _ (o d1) ⟨fun d => some (.val d, e1)⟩⟩⟩ := rfl
@[simp] theorem xN_ap {o : List D → Option D} {fs : Exs} : xN o fs e = @bI _ _ (fs e) ⟨fun hs e1 => @oI _ _ (gets e1 hs) ⟨fun ds => @oI _ _ (o ds) ⟨fun d => some (.val d, e1)⟩⟩⟩ := rfl
@[simp] theorem yN_ap {o : List D → Option (List D)} {fs : Exs} : yN o fs e = @bI _ _ (fs e) ⟨fun hs e1 => @oI _ _ (gets e1 hs) ⟨fun ds => @oI _ _ (o ds) ⟨fun d => some (d, e1)⟩⟩⟩ := rfl
@[simp] theorem yB_ap {o : D → D → Option (List D)} : yB o fa fb e = @bI _ _ (fa e) ⟨fun h1 e1 => @bI _ _ (fb e1) ⟨fun h2 e2 => @oI _ _ (h1.get e2) ⟨fun d1 => @oI _ _ (h2.get e2) ⟨fun d2 => @oI _ _ (o d1 d2) ⟨fun d => some (d, e2)⟩⟩⟩⟩⟩ := rfl
@[simp] theorem sT_ap : sT f e = @bI _ _ (f e) ⟨fun h e1 => @oI _ _ (h.get e1) ⟨fun d => @oI _ _ (asB d) ⟨fun b => some (b, e1)⟩⟩⟩ := rfl
@[simp] theorem sAnd_ap {f g : Ts} : sAnd f g e = @bI _ _ (f e) ⟨fun b e1 => if b = true then g e1 else some (false, e1)⟩ := rfl
@[simp] theorem sOr_ap {f g : Ts} : sOr f g e = @bI _ _ (f e) ⟨fun b e1 => if b = true then some (true, e1) else g e1⟩ := rfl
@[simp] theorem sNot_ap {f : Ts} : sNot f e = @bI _ _ (f e) ⟨fun b e1 => some (!b, e1)⟩ := rfl
@[simp] theorem xIf_ap : xIf t fa fb e = @bI _ _ (t e) ⟨fun k e1 => if k = true then fa e1 else fb e1⟩ := rfl
@[simp] theorem xAnd_ap : xAnd fa fb e = @bI _ _ (fa e) ⟨fun h1 e1 => @oI _ _ (h1.get e1) ⟨fun d => @oI _ _ (asB d) ⟨fun k => if k = true then fb e1 else some (.val (.bool false), e1)⟩⟩⟩ := rfl
@[simp] theorem xOr_ap : xOr fa fb e = @bI _ _ (fa e) ⟨fun h1 e1 => @oI _ _ (h1.get e1) ⟨fun d => @oI _ _ (asB d) ⟨fun k => if k = true then some (.val (.bool true), e1) else fb e1⟩⟩⟩ := rfl
@[simp] theorem xNot_ap : xNot fa e = @bI _ _ (fa e) ⟨fun h1 e1 => @oI _ _ (h1.get e1) ⟨fun d => @oI _ _ (asB d) ⟨fun k => some (.val (.bool (!k)), e1)⟩⟩⟩ := rfl
@[simp] theorem xCh_ap {o o' : D → D → Option D} : xCh o o' fa fb fc e = @bI _ _ (fa e) ⟨fun h1 e1 => @bI _ _ (fb e1) ⟨fun h2 e2 => @oI _ _ (h1.get e2) ⟨fun d1 => @oI _ _ (h2.get e2) ⟨fun d2 => @oI _ _ (o d1 d2) ⟨fun d => @oI _ _ (asB d) ⟨fun k =>
  if k = true then (@bI _ _ (fc e2) ⟨fun h3 e3 => @oI _ _ (h2.get e3) ⟨fun d2' => @oI _ _ (h3.get e3) ⟨fun d3 => @oI _ _ (o' d2' d3) ⟨fun d' => some (.val d', e3)⟩⟩⟩⟩) else some (.val (.bool false), e2)⟩⟩⟩⟩⟩⟩ := rfl
@[simp] theorem asB_ap {b : Bool} : asB (.bool b) = some b := rfl
@[simp] theorem yNil_ap : yNil e = some ([], e) := rfl
@[simp] theorem yCons_ap {gs : Exs} : yCons f gs e = @bI _ _ (f e) ⟨fun h e1 => @bI _ _ (gs e1) ⟨fun hs e2 => some (h :: hs, e2)⟩⟩ := rfl
@[simp] theorem zNil_ap : zNil e = some ([], e) := rfl
@[simp] theorem zCons_ap {gs : Rx} : zCons f gs e = @bI _ _ (f e) ⟨fun h e1 => @bI _ _ (gs e1) ⟨fun hs e2 => some (.h h :: hs, e2)⟩⟩ := rfl
@[simp] theorem zConsO_ap {f : Fx} {gs : Rx} : zConsO f gs e = @bI _ _ (f e) ⟨fun xs e1 => @bI _ _ (gs e1) ⟨fun hs e2 => some (.o xs :: hs, e2)⟩⟩ := rfl
@[simp] theorem xFz_ap {f : Fx} : xFz f e = @bI _ _ (f e) ⟨fun xs e1 => some (.val (.list xs), e1)⟩ := rfl
@[simp] theorem yLst_ap {fs : Exs} : yLst fs e = @bI _ _ (fs e) ⟨fun hs e1 => @bI _ _ (escs hs e1) ⟨fun ds e2 => @gI _ (decide (ds.length ≤ lim)) ⟨fun _ => (some (ds, e2))⟩⟩⟩ := rfl
@[simp] theorem xTup_ap {fs : Exs} : xTup fs e = @bI _ _ (fs e) ⟨fun hs e1 => @bI _ _ (escs hs e1) ⟨fun ds e2 => @gI _ (decide (ds.length ≤ lim)) ⟨fun _ => (some (.val (.tuple ds), e2))⟩⟩⟩ := rfl
@[simp] theorem xIsi_ap {T : String} : xIsi T f e = @bI _ _ (f e) ⟨fun h e1 => @oI _ _ (h.get e1) ⟨fun d => some (.val (.bool (isTy T d)), e1)⟩⟩ := rfl
@[simp] theorem xIsi2_ap {T U : String} : xIsi2 T U f e = @bI _ _ (f e) ⟨fun h e1 => @oI _ _ (h.get e1) ⟨fun d => some (.val (.bool (isTy T d || isTy U d)), e1)⟩⟩ := rfl
@[simp] theorem oNo_ap : oNo e = some (none, e) := rfl
@[simp] theorem yLrg_ap {f : Rgx} : yLrg f e = @bI _ _ (f e) ⟨fun r e1 => @gI _ (rgOk r.1 r.2) ⟨fun _ => (some (rgL r.1 r.2, e1))⟩⟩ := rfl
@[simp] theorem xTrg_ap {f : Rgx} : xTrg f e = @bI _ _ (f e) ⟨fun r e1 => @gI _ (rgOk r.1 r.2) ⟨fun _ => (some (.val (.tuple (rgL r.1 r.2)), e1))⟩⟩ := rfl
@[simp] theorem xLenSc_ap : xLenSc i e = match e[i]? with
  | some (.sc ns) => some (.val (.int (ns.length : Nat)), e)
  | _ => none := rfl
@[simp] theorem xRun_ap {ms : List Md} {Fm : Fn} {rs : List Ar} : xRun ms Fm rs e = @bI _ _ (escA ms rs e) ⟨fun qs e2 => @oI _ _ (resA e2 ms qs) ⟨fun ss => @oI _ _ (Fm ss) ⟨fun r => @oI _ _ (backA ms qs r.2 e2) ⟨fun e3 => some (r.1, e3)⟩⟩⟩⟩ := rfl
section
variable {ms : List Md} {rs : List Ar} {x : Hd} {xs : List D} {out : Option (List D)} {ns : List Int}
@[simp] theorem escA_nil : escA [] [] e = some ([], e) := rfl
@[simp] theorem escA_vl : escA (.vl :: ms) (.h x :: rs) e = @bI _ _ (DL.esc x e) ⟨fun d e1 => @bI _ _ (escA ms rs e1) ⟨fun qs e2 => some (.h (.val d) :: qs, e2)⟩⟩ := rfl
@[simp] theorem escA_mu {r : Ar} : escA (.mu :: ms) (r :: rs) e = @bI _ _ (escA ms rs e) ⟨fun qs e2 => some (r :: qs, e2)⟩ := rfl
@[simp] theorem escA_sc {r : Ar} : escA (.sc :: ms) (r :: rs) e = @bI _ _ (escA ms rs e) ⟨fun qs e2 => some (r :: qs, e2)⟩ := rfl
@[simp] theorem resA_nil : resA e [] [] = some [] := rfl
@[simp] theorem resA_vl : resA e (.vl :: ms) (.h (.val d) :: rs) = @oI _ _ (resA e ms rs) ⟨fun ss => some (.fz d :: ss)⟩ := rfl
@[simp] theorem resA_mu : resA e (.mu :: ms) (.h (.sl i) :: rs) = @oI _ _ (obn e[i]? Sl.cells) ⟨fun xs => @oI _ _ (resA e ms rs) ⟨fun ss => some (.io xs :: ss)⟩⟩ := rfl
@[simp] theorem resA_muO : resA e (.mu :: ms) (.o xs :: rs) = @oI _ _ (resA e ms rs) ⟨fun ss => some (.io xs :: ss)⟩ := rfl
@[simp] theorem resA_sc : resA e (Md.sc :: ms) (.h (.sl i) :: rs) = @oI _ _ (scO e[i]?) ⟨fun ns => @oI _ _ (resA e ms rs) ⟨fun ss => some (.sc ns :: ss)⟩⟩ := by
  show (match e[i]? with
    | some (.sc ns) => obn (resA e ms rs) fun ss => some (Sl.sc ns :: ss)
    | _ => none) = _
  cases e[i]? with
  | none => rfl
  | some s => cases s <;> rfl
@[simp] theorem backA_nil : backA [] [] none e = some e := rfl
@[simp] theorem backA_vl {r : Ar} : backA (.vl :: ms) (r :: rs) out e = backA ms rs out e := rfl
@[simp] theorem backA_sc {r : Ar} : backA (.sc :: ms) (r :: rs) out e = backA ms rs out e := rfl
@[simp] theorem backA_mu : backA (.mu :: ms) (.h (.sl i) :: rs) (some xs) e = setC i xs e := rfl
@[simp] theorem backA_muO {ys : List D} : backA (.mu :: ms) (.o ys :: rs) (some xs) e = some e := rfl
@[simp] theorem setC_ap : setC i xs e = match e[i]? with
  | some (.ow _) => some (e.set i (.ow xs))
  | some (.io _) => some (e.set i (.io xs))
  | _ => none := rfl
@[simp] theorem escR_nil : escR [] e = some ([], e) := rfl
@[simp] theorem escR_h : escR (.h x :: rs) e = @bI _ _ (DL.esc x e) ⟨fun d e1 => @bI _ _ (escR rs e1) ⟨fun ds e2 => some (.h (.val d) :: ds, e2)⟩⟩ := rfl
@[simp] theorem escR_o : escR (.o xs :: rs) e = @bI _ _ (escR rs e) ⟨fun ds e2 => some (.o xs :: ds, e2)⟩ := rfl
@[simp] theorem putA_h : putA i (.h (.val d)) e = putS i (.fz d) e := rfl
@[simp] theorem putA_o : putA i (.o xs) e = putS i (.ow xs) e := rfl
@[simp] theorem putS_ap {s : Sl} : putS i s e = putX i s e e[i]? := by
  unfold putS putX
  cases e[i]? with
  | none => rfl
  | some s => cases s <;> rfl
@[simp] theorem hasC_ap : hasC i e = match e[i]? with
  | some s => s.cells.isSome
  | none => false := rfl
@[simp] theorem popI_ap {j : Int} : popI xs j = @oI _ _ (ixN xs.length j) ⟨fun m => @oI _ _ xs[m]? ⟨fun d => some (d, xs.eraseIdx m)⟩⟩ := rfl
@[simp] theorem setI_i {j : Int} : setI xs (.int j) d = @oI _ _ (ixN xs.length j) ⟨fun m => some (xs.set m d)⟩ := rfl
@[simp] theorem pick_nil {α : Type} {l : List α} : pick [] l = [] := rfl
theorem pick_cons {α : Type} {l : List α} {π : List Nat} {a : α} (h : l[i]? = some a) : pick (i :: π) l = a :: pick π l := by
  unfold pick
  rw [List.filterMap_cons, h]
@[simp] theorem pick_ap {α : Type} {l : List α} {π : List Nat} : pick (i :: π) l = l[i]?.toList ++ pick π l := by
  unfold pick
  rw [List.filterMap_cons]
  cases l[i]? <;> rfl
end
/-! statements -/
@[simp] theorem sNil_ap : sNil e = some (.nx, e) := rfl
@[simp] theorem sBk_ap : sBk e = some (.bk, e) := rfl
@[simp] theorem sCt_ap : sCt e = some (.ct, e) := rfl
@[simp] theorem sNever_ap : sNever e = none := rfl
@[simp] theorem sDrop_ap : sDrop f e = @bI _ _ (f e) ⟨fun _ e1 => some (.nx, e1)⟩ := rfl
@[simp] theorem sRet_ap : sRet f e = @bI _ _ (f e) ⟨fun h e1 => @bI _ _ (esc h e1) ⟨fun d e2 => some (.rt d, e2)⟩⟩ := rfl
@[simp] theorem sRetO_ap {f : Fx} : sRetO f e = @bI _ _ (f e) ⟨fun xs e1 => some (.ro xs, e1)⟩ := rfl
@[simp] theorem sRetN_ap : sRetN e = some (.rt .none, e) := rfl
@[simp] theorem sIf_ap {g u : Sx} : sIf t g u e = @bI _ _ (t e) ⟨fun k e1 => if k = true then g e1 else u e1⟩ := rfl
@[simp] theorem sSet_ap : sSet i f e = @bI _ _ (f e) ⟨fun h e1 => @bI _ _ (esc h e1) ⟨fun d e2 => @oI _ _ (putS i (.fz d) e2) ⟨fun e3 => some (.nx, e3)⟩⟩⟩ := rfl
@[simp] theorem sSetO_ap {f : Fx} : sSetO i f e = @bI _ _ (f e) ⟨fun xs e1 => @oI _ _ (putS i (.ow xs) e1) ⟨fun e2 => some (.nx, e2)⟩⟩ := rfl
@[simp] theorem sAsg_ap {t : Tg} : sAsg f t e = @bI _ _ (f e) ⟨fun h e1 => @bI _ _ (esc h e1) ⟨fun d e2 => @oI _ _ (t (.v d) e2) ⟨fun e3 => some (.nx, e3)⟩⟩⟩ := rfl
@[simp] theorem sApp_ap : sApp i f e = @gI _ (hasC i e) ⟨fun _ => (@bI _ _ (f e) ⟨fun h e1 => @bI _ _ (esc h e1) ⟨fun d e2 => @oI _ _ (updS i (fun xs => @gI _ (decide (xs.length < lim)) ⟨fun _ => (some (xs ++ [d]))⟩) e2) ⟨fun e3 => some (.nx, e3)⟩⟩⟩)⟩ := rfl
@[simp] theorem sExt_ap : sExt i f e = @gI _ (hasC i e) ⟨fun _ => (@bI _ _ (f e) ⟨fun h e1 => @oI _ _ (h.get e1) ⟨fun d => @oI _ _ (listD d) ⟨fun ds => @oI _ _ (updS i (fun xs => @gI _ (decide (xs.length + ds.length ≤ lim)) ⟨fun _ => (some (xs ++ ds))⟩) e1) ⟨fun e3 => some (.nx, e3)⟩⟩⟩⟩)⟩ := rfl
@[simp] theorem listD_ap {xs : List D} : listD (.list xs) = some xs := rfl
@[simp] theorem gN_ap {d : D} : gN i (.v d) e = putS i (.fz d) e := rfl
@[simp] theorem gT_ap {n : Nat} {ts : Tgs} {ds : List D} : gT n ts (.v (.tuple ds)) e = if ds.length = n then ts ds e else none := rfl
@[simp] theorem gT_p {n : Nat} {ts : Tgs} : gT n ts (.p d1 d2) e = if n = 2 then ts [d1, d2] e else none := rfl
@[simp] theorem gsNil_ap : gsNil [] e = some e := rfl
@[simp] theorem gsCons_ap {t : Tg} {ts : Tgs} {r : List D} : gsCons t ts (d :: r) e = @oI _ _ (t (.v d) e) ⟨fun e1 => ts r e1⟩ := rfl
@[simp] theorem gSubT_ap : gSubT i f (.v d) e = @gI _ (hasC i e) ⟨fun _ => (@bI _ _ (f e) ⟨fun h e1 => @oI _ _ (h.get e1) ⟨fun k => updS i (fun xs => setI xs k d) e1⟩⟩)⟩ := rfl
@[simp] theorem sFor_ap {src : Srx} {t : Tg} {b : Sx} : sFor src t b e = @bI _ _ (src e) ⟨fun its e1 => forGo t b its e1⟩ := rfl
@[simp] theorem sWhile_ap {b : Sx} {n : En → Nat} : sWhile n t b e = whileGo t b (n e) e := rfl
@[simp] theorem srcSeq_ap : srcSeq f e = @bI _ _ (f e) ⟨fun h e1 => @bI _ _ (esc h e1) ⟨fun d e2 => @oI _ _ (seqD d) ⟨fun ds => some (ds.map Itm.v, e2)⟩⟩⟩ := rfl
@[simp] theorem seqD_l {xs : List D} : seqD (.list xs) = some xs := rfl
@[simp] theorem seqD_t {xs : List D} : seqD (.tuple xs) = some xs := rfl
@[simp] theorem srcEn_ap : srcEn f e = @bI _ _ (f e) ⟨fun h e1 => @bI _ _ (esc h e1) ⟨fun d e2 => @oI _ _ (seqD d) ⟨fun ds => some (prs ((List.range ds.length).map fun i : Nat => PyData.int (i : Int)) ds, e2)⟩⟩⟩ := rfl
@[simp] theorem yLc_ap {own : List Nat} {src : Srx} {t : Tg} {k : Ts} : yLc own src t k f e = @bI _ _ (src e) ⟨fun its e1 => @gI _ (decide (its.length ≤ lim)) ⟨fun _ => (@oI _ _ (wipeE own e1) ⟨fun e2 => lcGo own t k f its e2⟩)⟩⟩ := rfl
@[simp] theorem sYes_ap : sYes e = some (true, e) := rfl
@[simp] theorem wipeE_nil : wipeE [] e = some e := rfl
@[simp] theorem wipeE_cons {vs : List Nat} : wipeE (i :: vs) e = @oI _ _ (wipeE vs e) ⟨fun e1 => putS i .em e1⟩ := rfl
@[simp] theorem outOf_nil : outOf [] e = some none := rfl
@[simp] theorem outOf_io {xs ys : List D} {ss : List Sl} {es : En} : outOf (.io xs :: ss) (.io ys :: es) = some (some ys) := rfl
@[simp] theorem outOf_fz {ss : List Sl} {s : Sl} {es : En} : outOf (.fz d :: ss) (s :: es) = outOf ss es := rfl
@[simp] theorem outOf_sc {ns : List Int} {ss : List Sl} {s : Sl} {es : En} : outOf (.sc ns :: ss) (s :: es) = outOf ss es := rfl
@[simp] theorem xVar_ap : xVar i e = @oI _ _ (slOk e[i]?) ⟨fun _ => some (.sl i, e)⟩ := by
  unfold xVar slOk oI
  cases e[i]? with
  | none => rfl
  | some s => cases s <;> rfl
@[simp] theorem oSo_ap : oSo f e = @bI _ _ (f e) ⟨fun h e1 => @oI _ _ (h.get e1) ⟨fun d => @oI _ _ (asI d) ⟨fun i => some (some i, e1)⟩⟩⟩ := by
  unfold oSo bI
  congr 1
  funext h e1
  unfold oI
  congr 1
  funext d
  cases d <;> rfl
@[simp] theorem xSl_ap {fl fu : Ox} : xSl fa fl fu e = @bI _ _ (fa e) ⟨fun h e1 => @bI _ _ (fl e1) ⟨fun lo e2 => @bI _ _ (fu e2) ⟨fun hi e3 => @oI _ _ (h.get e3) ⟨fun d => @oI _ _ (slD d lo hi) ⟨fun r => some (.val r, e3)⟩⟩⟩⟩⟩ := by
  unfold xSl bI
  congr 1
  funext h e1
  congr 1
  funext lo e2
  congr 1
  funext hi e3
  unfold oI
  congr 1
  funext d
  cases d <;> rfl
@[simp] theorem ySl_ap {fl fu : Ox} : ySl fa fl fu e = @bI _ _ (fa e) ⟨fun h e1 => @bI _ _ (fl e1) ⟨fun lo e2 => @bI _ _ (fu e2) ⟨fun hi e3 => @oI _ _ (h.get e3) ⟨fun d => @oI _ _ (listD d) ⟨fun xs => some (cutD xs lo hi, e3)⟩⟩⟩⟩⟩ := by
  unfold ySl bI
  congr 1
  funext h e1
  congr 1
  funext lo e2
  congr 1
  funext hi e3
  unfold oI
  congr 1
  funext d
  cases d <;> rfl
@[simp] theorem yRev_ap : yRev f e = @bI _ _ (f e) ⟨fun h e1 => @oI _ _ (h.get e1) ⟨fun d => @oI _ _ (listD d) ⟨fun xs => some (xs.reverse, e1)⟩⟩⟩ := by
  unfold yRev bI
  congr 1
  funext h e1
  unfold oI
  congr 1
  funext d
  cases d <;> rfl
@[simp] theorem rg1_ap : rg1 fa e = @bI _ _ (fa e) ⟨fun h e1 => @oI _ _ (h.get e1) ⟨fun d => @oI _ _ (asI d) ⟨fun j => some (((0 : Int), j), e1)⟩⟩⟩ := by
  unfold rg1 bI
  congr 1
  funext h e1
  unfold oI
  congr 1
  funext d
  cases d <;> rfl
@[simp] theorem rg2_ap : rg2 fa fb e = @bI _ _ (fa e) ⟨fun h e1 => @bI _ _ (fb e1) ⟨fun h' e2 => @oI _ _ (h.get e2) ⟨fun d => @oI _ _ (h'.get e2) ⟨fun d' => @oI _ _ (asI d) ⟨fun i => @oI _ _ (asI d') ⟨fun j => some ((i, j), e2)⟩⟩⟩⟩⟩⟩ := by
  unfold rg2 bI
  congr 1
  funext h e1
  congr 1
  funext h' e2
  unfold oI
  congr 1
  funext d
  congr 1
  funext d'
  cases d <;> cases d' <;> rfl
@[simp] theorem xLenSet_ap : xLenSet f e = @bI _ _ (f e) ⟨fun h e1 => @oI _ _ (h.get e1) ⟨fun d => @oI _ _ (tupL d) ⟨fun xs => @oI _ _ (intsD xs) ⟨fun ns => @gI _ (decide (ns.length ≤ 1000)) ⟨fun _ => some (.val (.int ((ndI ns).length : Nat)), e1)⟩⟩⟩⟩⟩ := by
  unfold xLenSet bI
  congr 1
  funext h e1
  unfold oI
  congr 1
  funext d
  cases d <;> rfl
@[simp] theorem xIxSc_ap : xIxSc i f e = @oI _ _ (scO e[i]?) ⟨fun ns => @bI _ _ (f e) ⟨fun h e1 => @oI _ _ (h.get e1) ⟨fun d => @oI _ _ (asI d) ⟨fun k => @oI _ _ (atI ns k) ⟨fun n => some (.val (.int n), e1)⟩⟩⟩⟩⟩ := by
  unfold xIxSc
  cases e[i]? with
  | none => rfl
  | some s =>
    cases s with
    | sc ns =>
      unfold oI bI
      show bnd _ _ = bnd _ _
      congr 1
      funext h e1
      show obn _ _ = obn _ _
      congr 1
      funext d
      cases d <;> rfl
    | _ => rfl
@[simp] theorem ySlSc_ap {fl fu : Ox} : ySlSc i fl fu e = @oI _ _ (scO e[i]?) ⟨fun ns => @bI _ _ (fl e) ⟨fun lo e2 => @bI _ _ (fu e2) ⟨fun hi e3 => some (cutD (ns.map .int) lo hi, e3)⟩⟩⟩ := by
  unfold ySlSc
  cases e[i]? with
  | none => rfl
  | some s => cases s <;> rfl
@[simp] theorem xPop_ap : xPop i f e = @gI _ (hasC i e) ⟨fun _ => @bI _ _ (f e) ⟨fun h e1 => @oI _ _ (h.get e1) ⟨fun d => @oI _ _ (asI d) ⟨fun j => @gI _ (inB j) ⟨fun _ => @bI _ _ (popS i j e1) ⟨fun d e2 => some (.val d, e2)⟩⟩⟩⟩⟩⟩ := by
  unfold xPop gI bI
  congr 1
  congr 1
  funext h e1
  unfold oI
  congr 1
  funext d
  cases d <;> rfl
@[simp] theorem xCall_ap {ms : List Md} {Fm : Fn} {fs : Rx} : xCall ms Fm fs e = @bI _ _ (fs e) ⟨fun rs e1 => @bI _ _ (xRun ms Fm rs e1) ⟨fun r e3 => rtV r e3⟩⟩ := by
  unfold xCall bI
  congr 1
  funext rs e1
  show bnd _ _ = bnd _ _
  congr 1
  funext r e3
  cases r <;> rfl
@[simp] theorem yCall_ap {ms : List Md} {Fm : Fn} {fs : Rx} : yCall ms Fm fs e = @bI _ _ (fs e) ⟨fun rs e1 => @bI _ _ (xRun ms Fm rs e1) ⟨fun r e3 => rtO r e3⟩⟩ := by
  unfold yCall bI
  congr 1
  funext rs e1
  show bnd _ _ = bnd _ _
  congr 1
  funext r e3
  cases r <;> rfl
@[simp] theorem xCallK_ap {π : List Nat} {ms : List Md} {Fm : Fn} {fs : Exs} : xCallK π ms Fm fs e = @bI _ _ (fs e) ⟨fun hs e1 => @gI _ (decide (hs.length = π.length)) ⟨fun _ => @bI _ _ (xRun ms Fm ((pick π hs).map Ar.h) e1) ⟨fun r e3 => rtV r e3⟩⟩⟩ := by
  unfold xCallK bI gI
  congr 1
  funext rs e1
  show gd _ _ = gd _ _
  congr 1
  congr 1
  funext r e3
  cases r <;> rfl
@[simp] theorem updS_ap {h : List D → Option (List D)} : updS i h e = updX i h e e[i]? := by
  unfold updS updX
  cases e[i]? with
  | none => rfl
  | some s => cases s <;> rfl
@[simp] theorem popS_ap {j : Int} : popS i j e = popX i j e e[i]? := by
  unfold popS popX
  cases e[i]? with
  | none => rfl
  | some s => cases s <;> rfl
@[simp] theorem sSeq_ap {g u : Sx} : sSeq g u e = @bI _ _ (g e) ⟨fun fl e1 => seqK u fl e1⟩ := by
  unfold sSeq bI
  congr 1
  funext fl e1
  cases fl <;> rfl
@[simp] theorem sPar_ap {f : Rx} : sPar i j f e = @bI _ _ (f e) ⟨fun rs e1 => @bI _ _ (escR rs e1) ⟨fun qs e2 => par2 i j qs e2⟩⟩ := by
  unfold sPar bI
  congr 1
  funext rs e1
  show bnd _ _ = bnd _ _
  congr 1
  funext qs e2
  rcases qs with _ | ⟨r1, _ | ⟨r2, _ | ⟨r3, q⟩⟩⟩ <;> rfl
@[simp] theorem sPar3_ap {f : Rx} : sPar3 i j k f e = @bI _ _ (f e) ⟨fun rs e1 => @bI _ _ (escR rs e1) ⟨fun qs e2 => par3 i j k qs e2⟩⟩ := by
  unfold sPar3 bI
  congr 1
  funext rs e1
  show bnd _ _ = bnd _ _
  congr 1
  funext qs e2
  rcases qs with _ | ⟨r1, _ | ⟨r2, _ | ⟨r3, _ | ⟨r4, q⟩⟩⟩⟩ <;> rfl
@[simp] theorem srcR1_ap : srcR1 f e = @bI _ _ (f e) ⟨fun h e1 => @oI _ _ (h.get e1) ⟨fun d => @oI _ _ (asI d) ⟨fun j => @gI _ (inB j) ⟨fun _ => some (rgI 0 j.toNat, e1)⟩⟩⟩⟩ := by
  unfold srcR1 bI
  congr 1
  funext h e1
  unfold oI
  congr 1
  funext d
  cases d <;> rfl
@[simp] theorem srcR2_ap : srcR2 f g e = @bI _ _ (f e) ⟨fun h e1 => @bI _ _ (g e1) ⟨fun h' e2 => @oI _ _ (h.get e2) ⟨fun d => @oI _ _ (h'.get e2) ⟨fun d' => @oI _ _ (asI d) ⟨fun i => @oI _ _ (asI d') ⟨fun j => @gI _ (inB i && inB j) ⟨fun _ => some (rgI i (j - i).toNat, e2)⟩⟩⟩⟩⟩⟩⟩ := by
  unfold srcR2 bI
  congr 1
  funext h e1
  congr 1
  funext h' e2
  unfold oI
  congr 1
  funext d
  congr 1
  funext d'
  cases d <;> cases d' <;> rfl
@[simp] theorem srcZip_ap : srcZip f g e = @bI _ _ (f e) ⟨fun h e1 => @bI _ _ (g e1) ⟨fun h' e2 => @bI _ _ (DL.esc h e2) ⟨fun d e3 => @bI _ _ (DL.esc h' e3) ⟨fun d' e4 => @oI _ _ (zipD d d') ⟨fun its => some (its, e4)⟩⟩⟩⟩⟩ := by
  unfold srcZip bI
  congr 1
  funext h e1
  congr 1
  funext h' e2
  congr 1
  funext d e3
  congr 1
  funext d' e4
  cases d <;> cases d' <;> rfl
end

/-! operations at constructors -/
@[simp] theorem addD_i {i j : Int} : addD (.int i) (.int j) = some (.int (i + j)) := rfl
@[simp] theorem addD_l {xs ys : List D} : addD (.list xs) (.list ys) = @gI _ (decide (xs.length + ys.length ≤ lim)) ⟨fun _ => (some (.list (xs ++ ys)))⟩ := rfl
@[simp] theorem addD_t {xs ys : List D} : addD (.tuple xs) (.tuple ys) = @gI _ (decide (xs.length + ys.length ≤ lim)) ⟨fun _ => (some (.tuple (xs ++ ys)))⟩ := rfl
@[simp] theorem catL_l {xs ys : List D} : catL (.list xs) (.list ys) = @gI _ (decide (xs.length + ys.length ≤ lim)) ⟨fun _ => (some (xs ++ ys))⟩ := rfl
@[simp] theorem subD_i {i j : Int} : subD (.int i) (.int j) = some (.int (i - j)) := rfl
@[simp] theorem modD_i {i j : Int} : modD (.int i) (.int j) = @gI _ (decide (0 < j)) ⟨fun _ => (some (.int (i % j)))⟩ := rfl
@[simp] theorem divD_i {i j : Int} : divD (.int i) (.int j) = @gI _ (decide (0 < j) && decide (j.natAbs < wid)) ⟨fun _ => (some (.int (i / j)))⟩ := rfl
@[simp] theorem mulD_i {i j : Int} : mulD (.int i) (.int j) = @gI _ (mulOk i j) ⟨fun _ => (some (.int (i * j)))⟩ := rfl
@[simp] theorem mulD_l {xs : List D} {j : Int} : mulD (.list xs) (.int j) = @oI _ _ (repL (.list xs) (.int j)) ⟨fun ys => some (.list ys)⟩ := rfl
@[simp] theorem repL_l {xs : List D} {k : Int} : repL (.list xs) (.int k) = @gI _ (inB k && decide (xs.length * k.toNat ≤ lim)) ⟨fun _ => (some (List.replicate k.toNat xs).flatten)⟩ := rfl
@[simp] theorem negD_i {i : Int} : negD (.int i) = some (.int (-i)) := rfl
@[simp] theorem cmpI_i {h : Int → Int → Bool} {i j : Int} : cmpI h (.int i) (.int j) = some (.bool (h i j)) := rfl
@[simp] theorem ixD_l {xs : List D} {i : Int} : ixD (.list xs) (.int i) = atI xs i := rfl
@[simp] theorem ixD_t {xs : List D} {i : Int} : ixD (.tuple xs) (.int i) = atI xs i := rfl
@[simp] theorem lenD_l {xs : List D} : lenD [.list xs] = some (.int (xs.length : Nat)) := rfl
@[simp] theorem lenD_t {xs : List D} : lenD [.tuple xs] = some (.int (xs.length : Nat)) := rfl
@[simp] theorem lstD_l {xs : List D} : lstD [.list xs] = some xs := rfl
@[simp] theorem lstD_t {xs : List D} : lstD [.tuple xs] = some xs := rfl
@[simp] theorem tupD_l {xs : List D} : tupD [.list xs] = some (.tuple xs) := rfl
@[simp] theorem tupD_t {xs : List D} : tupD [.tuple xs] = some (.tuple xs) := rfl
@[simp] theorem intD_i {i : Int} : intD [.int i] = some (.int i) := rfl
@[simp] theorem intD_b {b : Bool} : intD [.bool b] = some (.int (if b then 1 else 0)) := rfl
@[simp] theorem absD_i {i : Int} : absD [.int i] = some (.int (if i < 0 then -i else i)) := rfl
@[simp] theorem maxD_2 {i j : Int} : maxD [.int i, .int j] = some (.int (if j > i then j else i)) := rfl
@[simp] theorem minD_2 {i j : Int} : minD [.int i, .int j] = some (.int (if j < i then j else i)) := rfl
@[simp] theorem maxD_l {xs : List D} : maxD [.list xs] = @oI _ _ (intsD xs) ⟨fun ns => @gI _ (!ns.isEmpty) ⟨fun _ => (some (.int (maxI ns)))⟩⟩ := rfl
@[simp] theorem minD_l {xs : List D} : minD [.list xs] = @oI _ _ (intsD xs) ⟨fun ns => @gI _ (!ns.isEmpty) ⟨fun _ => (some (.int (minI ns)))⟩⟩ := rfl
@[simp] theorem sumD_l {xs : List D} : sumD [.list xs] = @oI _ _ (intsD xs) ⟨fun ns => some (.int ns.sum)⟩ := rfl
@[simp] theorem allD_l {xs : List D} : allD [.list xs] = @oI _ _ (blsD xs) ⟨fun ns => some (.bool (ns.all id))⟩ := rfl
@[simp] theorem anyD_l {xs : List D} : anyD [.list xs] = @oI _ _ (blsD xs) ⟨fun ns => some (.bool (ns.any id))⟩ := rfl
@[simp] theorem srtD_l {xs : List D} : srtD [.list xs] = @oI _ _ (intsD xs) ⟨fun ns => some ((srtI ns).map .int)⟩ := rfl
@[simp] theorem dmD_2 {i j : Int} : dmD [.int i, .int j] = @gI _ (decide (0 < j) && decide (j.natAbs < wid)) ⟨fun _ => (some (.tuple [.int (i / j), .int (i % j)]))⟩ := rfl
@[simp] theorem repD_1 {d : D} : repD [d] = @gI _ (repOk d) ⟨fun _ => (some (.str d.shown))⟩ := rfl
@[simp] theorem isO_n {d : D} : isO d .none = some (.bool (isNo d)) := by cases d <;> rfl
@[simp] theorem isNotO_n {d : D} : isNotO d .none = some (.bool (!isNo d)) := by cases d <;> rfl
@[simp] theorem isO_b {a b : Bool} : isO (.bool a) (.bool b) = some (.bool (a == b)) := rfl
@[simp] theorem isNotO_b {a b : Bool} : isNotO (.bool a) (.bool b) = some (.bool (!(a == b))) := rfl
@[simp] theorem isNo_n : isNo .none = true := rfl
@[simp] theorem isNo_i {i : Int} : isNo (.int i) = false := rfl
@[simp] theorem isNo_t {i : List D} : isNo (.tuple i) = false := rfl
@[simp] theorem isNo_l {i : List D} : isNo (.list i) = false := rfl
@[simp] theorem isNo_b {i : Bool} : isNo (.bool i) = false := rfl
/-! types -/
@[simp] theorem ty_int_i {i : Int} : isTy "int" (.int i) = true := rfl
@[simp] theorem ty_bool_i {i : Int} : isTy "bool" (.int i) = false := rfl
@[simp] theorem ty_int_t {i : List D} : isTy "int" (.tuple i) = false := rfl
@[simp] theorem ty_bool_t {i : List D} : isTy "bool" (.tuple i) = false := rfl
@[simp] theorem ty_str_t {i : List D} : isTy "str" (.tuple i) = false := rfl
@[simp] theorem ty_list_t {i : List D} : isTy "list" (.tuple i) = false := rfl
@[simp] theorem ty_tuple_t {i : List D} : isTy "tuple" (.tuple i) = true := rfl
@[simp] theorem ty_int_l {i : List D} : isTy "int" (.list i) = false := rfl
@[simp] theorem ty_bool_l {i : List D} : isTy "bool" (.list i) = false := rfl
@[simp] theorem ty_str_l {i : List D} : isTy "str" (.list i) = false := rfl
@[simp] theorem ty_list_l {i : List D} : isTy "list" (.list i) = true := rfl
@[simp] theorem ty_tuple_l {i : List D} : isTy "tuple" (.list i) = false := rfl
@[simp] theorem ty_bool_b {i : Bool} : isTy "bool" (.bool i) = true := rfl
@[simp] theorem gI_and {β : Type} {a b : Bool} (k : Unit → Option β) : @gI β (a && b) ⟨k⟩ = @gI β a ⟨fun _ => @gI β b ⟨k⟩⟩ := by
  cases a <;> cases b <;> rfl
def fnK : Fl → Option (List D) → Option (Rt × Option (List D))
  | .rt d, out => some (.v d, out)
  | .ro xs, out => some (.o xs, out)
  | .nx, out => some (.v .none, out)
  | _, _ => none
@[simp] theorem fnK_rt {d : D} {out : Option (List D)} : fnK (.rt d) out = some (.v d, out) := rfl
@[simp] theorem fnK_ro {d : List D} {out : Option (List D)} : fnK (.ro d) out = some (.o d, out) := rfl
@[simp] theorem fnK_nx {out : Option (List D)} : fnK .nx out = some (.v .none, out) := rfl
theorem mkFn_go {n pn : Nat} {g : Sx} {ss : List Sl} (h : ss.length = pn) : mkFn n pn g ss = @bI _ _ (g (ss ++ List.replicate (n - pn) .em)) ⟨fun fl e => @oI _ _ (outOf ss e) ⟨fun out => fnK fl out⟩⟩ := by
  unfold mkFn
  rw [if_pos h]
  show bnd _ _ = bnd _ _
  congr 1
  funext fl e
  show obn _ _ = obn _ _
  congr 1
  funext out
  cases fl <;> rfl
/-! step by step -/
theorem bI_go {α β : Type} {m : Option (α × En)} {k : α → En → Option β} {a : α} {e : En} {r : Option β} (h : m = some (a, e)) (h2 : k a e = r) : @bI α β m ⟨k⟩ = r := by
  rw [h]
  exact h2
theorem sSeq_go {g u : Sx} {e e1 : En} {r : Option (Fl × En)} (h : g e = some (.nx, e1)) (h2 : u e1 = r) : sSeq g u e = r := by
  rw [sSeq_ap, h]
  exact h2
theorem sIf_no {t : Ts} {g u : Sx} {e e1 : En} {r : Option (Fl × En)} (h : t e = some (false, e1)) (h2 : u e1 = r) : sIf t g u e = r := by
  rw [sIf_ap, h]
  exact h2
theorem sIf_yes {t : Ts} {g u : Sx} {e e1 : En} {r : Option (Fl × En)} (h : t e = some (true, e1)) (h2 : g e1 = r) : sIf t g u e = r := by
  rw [sIf_ap, h]
  exact h2
/-! indices -/
theorem ixN_lt {n : Nat} {i : Nat} (h : i < n) : ixN n (i : Int) = some i := by
  unfold ixN
  rw [if_pos (by omega), if_pos (by omega)]
  simp
theorem atI_lt {α : Type} {xs : List α} {i : Nat} (h : i < xs.length) : atI xs (i : Int) = some xs[i] := by
  unfold atI
  rw [ixN_lt h]
  show xs[i]? = _
  rw [List.getElem?_eq_getElem h]
theorem atI_int {α : Type} {xs : List α} {i : Int} (h0 : 0 ≤ i) (h : i < xs.length) : atI xs i = xs[i.toNat]? := by
  unfold atI ixN
  rw [if_pos h0, if_pos h]
  rfl
@[simp] theorem atI_c0 {α : Type} {x : α} {xs : List α} : atI (x :: xs) 0 = some x := by
  rw [show (0 : Int) = ((0 : Nat) : Int) from rfl, atI_lt (by simp)]
  rfl
@[simp] theorem atI_c1 {α : Type} {x y : α} {xs : List α} : atI (x :: y :: xs) 1 = some y := by
  rw [show (1 : Int) = ((1 : Nat) : Int) from rfl, atI_lt (by simp)]
  rfl
@[simp] theorem ixN_c0 {n : Nat} (h : 0 < n) : ixN n 0 = some 0 := ixN_lt (i := 0) h
@[simp] theorem ixN_c1 {n : Nat} (h : 1 < n) : ixN n 1 = some 1 := ixN_lt (i := 1) h
/-! slices -/
theorem cutD_from {xs : List D} {n : Nat} : cutD xs (some (n : Int)) none = xs.drop n := by
  unfold cutD HT.sIx
  simp only []
  rw [if_neg (by omega)]
  by_cases h : n ≤ xs.length
  · rw [show min (n : Int).toNat xs.length = n by simp; omega]
    rw [List.take_of_length_le (by rw [List.length_drop]; omega)]
  · rw [show min (n : Int).toNat xs.length = xs.length by simp; omega]
    rw [List.drop_length, List.drop_of_length_le (by omega)]
    simp
theorem cutD_to {xs : List D} {n : Nat} : cutD xs none (some (n : Int)) = xs.take n := by
  unfold cutD HT.sIx
  simp only []
  rw [if_neg (by omega)]
  by_cases h : n ≤ xs.length
  · rw [show min (n : Int).toNat xs.length = n by simp; omega]
    simp
  · rw [show min (n : Int).toNat xs.length = xs.length by simp; omega]
    rw [List.take_of_length_le (show xs.length ≤ n by omega)]
    simp
/-! loops -/
@[simp] theorem forGo_nil {t : Tg} {b : Sx} {e : En} : forGo t b [] e = some (.nx, e) := rfl
def forK (t : Tg) (b : Sx) (its : List Itm) : Fl → En → Option (Fl × En)
  | .nx, e => forGo t b its e
  | .ct, e => forGo t b its e
  | .bk, e => some (.nx, e)
  | fl, e => some (fl, e)
section
variable {t : Tg} {b : Sx} {its : List Itm} {e : En} {u : Ts} {n : Nat}
@[simp] theorem forK_nx : forK t b its .nx e = forGo t b its e := rfl
@[simp] theorem forK_ct : forK t b its .ct e = forGo t b its e := rfl
@[simp] theorem forK_bk : forK t b its .bk e = some (.nx, e) := rfl
@[simp] theorem forK_rt {d : D} : forK t b its (.rt d) e = some (.rt d, e) := rfl
theorem forGo_cons {it : Itm} : forGo t b (it :: its) e = @oI _ _ (t it e) ⟨fun e1 => @bI _ _ (b e1) ⟨fun fl e2 => forK t b its fl e2⟩⟩ := by
  show obn _ _ = obn _ _
  congr 1
  funext e1
  show bnd _ _ = bnd _ _
  congr 1
  funext fl e2
  cases fl <;> rfl
def whileK (t : Ts) (b : Sx) (n : Nat) : Fl → En → Option (Fl × En)
  | .nx, e => whileGo t b n e
  | .ct, e => whileGo t b n e
  | .bk, e => some (.nx, e)
  | fl, e => some (fl, e)
@[simp] theorem whileK_nx : whileK u b n .nx e = whileGo u b n e := rfl
@[simp] theorem whileK_rt {d : D} : whileK u b n (.rt d) e = some (.rt d, e) := rfl
theorem whileGo_yes {e1 : En} (h : u e = some (true, e1)) : whileGo u b (n + 1) e = @bI _ _ (b e1) ⟨fun fl e2 => whileK u b n fl e2⟩ := by
  show bnd (u e) _ = _
  rw [h, bnd_some, if_pos rfl]
  show bnd _ _ = bnd _ _
  congr 1
  funext fl e2
  cases fl <;> rfl
theorem whileGo_no {e1 : En} (h : u e = some (false, e1)) : whileGo u b (n + 1) e = some (.nx, e1) := by
  show bnd (u e) _ = _
  rw [h, bnd_some, if_neg Bool.false_ne_true]
end
/-- one turn of a comprehension -/
def lcOne (own : List Nat) (t : Tg) (k : Ts) (f : Ex) (it : Itm) (e : En) : Option (Option D × En) := obn (t it e) fun e1 => bnd (k e1) fun b e2 => if b = true then
      bnd (f e2) fun h e3 => bnd (esc h e3) fun d e4 => obn (wipeE own e4) fun e5 => some (some d, e5)
    else obn (wipeE own e2) fun e5 => some (none, e5)
def lcK (own : List Nat) (f : Ex) : Bool → En → Option (Option D × En)
  | true, e => @bI _ _ (f e) ⟨fun h e3 => @bI _ _ (DL.esc h e3) ⟨fun d e4 => @oI _ _ (wipeE own e4) ⟨fun e5 => some (some d, e5)⟩⟩⟩
  | false, e => @oI _ _ (wipeE own e) ⟨fun e5 => some (none, e5)⟩
@[simp] theorem lcK_t {own : List Nat} {f : Ex} {e : En} : lcK own f true e = @bI _ _ (f e) ⟨fun h e3 => @bI _ _ (DL.esc h e3) ⟨fun d e4 => @oI _ _ (wipeE own e4) ⟨fun e5 => some (some d, e5)⟩⟩⟩ := rfl
@[simp] theorem lcK_f {own : List Nat} {f : Ex} {e : En} : lcK own f false e = @oI _ _ (wipeE own e) ⟨fun e5 => some (none, e5)⟩ := rfl
theorem lcOne_ap {own : List Nat} {t : Tg} {k : Ts} {f : Ex} {it : Itm} {e : En} : lcOne own t k f it e = @oI _ _ (t it e) ⟨fun e1 => @bI _ _ (k e1) ⟨fun b e2 => lcK own f b e2⟩⟩ := by
  unfold lcOne oI bI
  congr 1
  funext e1
  show bnd _ _ = bnd _ _
  congr 1
  funext b e2
  cases b <;> rfl
@[simp] theorem lcGo_nil {own : List Nat} {t : Tg} {k : Ts} {f : Ex} {e : En} : lcGo own t k f [] e = some ([], e) := rfl
theorem lcGo_cons {own : List Nat} {t : Tg} {k : Ts} {f : Ex} {e : En} {it : Itm} {its : List Itm} : lcGo own t k f (it :: its) e = bnd (lcOne own t k f it e) fun o e1 => bnd (lcGo own t k f its e1) fun ds e2 => some (o.toList ++ ds, e2) := by
  show (obn (t it e) fun e1 => bnd (k e1) fun b e2 => if b = true then
      bnd (f e2) fun h e3 => bnd (esc h e3) fun d e4 => obn (wipeE own e4) fun e5 => bnd (lcGo own t k f its e5) fun ds e6 => some (d :: ds, e6)
    else obn (wipeE own e2) fun e5 => lcGo own t k f its e5) = _
  unfold lcOne
  cases t it e with
  | none => rfl
  | some e1 =>
    show (bnd (k e1) fun b e2 => if b = true then
      bnd (f e2) fun h e3 => bnd (esc h e3) fun d e4 => obn (wipeE own e4) fun e5 => bnd (lcGo own t k f its e5) fun ds e6 => some (d :: ds, e6)
    else obn (wipeE own e2) fun e5 => lcGo own t k f its e5) = bnd (bnd (k e1) fun b e2 => if b = true then
      bnd (f e2) fun h e3 => bnd (esc h e3) fun d e4 => obn (wipeE own e4) fun e5 => some (some d, e5)
    else obn (wipeE own e2) fun e5 => some (none, e5)) _
    cases k e1 with
    | none => rfl
    | some p =>
      obtain ⟨b, e2⟩ := p
      cases b with
      | false =>
        simp only [bnd_some, if_neg Bool.false_ne_true]
        cases wipeE own e2 with
        | none => rfl
        | some e5 =>
          simp only [obn_some, bnd_some, Option.toList_none, List.nil_append]
          cases lcGo own t k f its e5 with
          | none => rfl
          | some q => rfl
      | true =>
        simp only [bnd_some, if_pos]
        cases f e2 with
        | none => rfl
        | some q =>
          obtain ⟨h, e3⟩ := q
          simp only [bnd_some]
          cases DL.esc h e3 with
          | none => rfl
          | some q =>
            obtain ⟨d, e4⟩ := q
            simp only [bnd_some]
            cases wipeE own e4 with
            | none => rfl
            | some e5 =>
              simp only [obn_some, bnd_some, Option.toList_some]
              rfl
/-- a comprehension that changes nothing -/
theorem lcGo_map {own : List Nat} {t : Tg} {k : Ts} {f : Ex} {e : En} (φ : Itm → Option D) : ∀ {its : List Itm}, (∀ it ∈ its, lcOne own t k f it e = some (φ it, e)) → lcGo own t k f its e = some (its.filterMap φ, e)
  | [], _ => rfl
  | it :: its, h => by
    rw [lcGo_cons, h it (List.mem_cons_self ..), bnd_some, lcGo_map φ fun x hx => h x (List.mem_cons_of_mem _ hx), bnd_some, List.filterMap_cons]
    cases φ it <;> rfl
/-- the same with a state that is carried on -/
theorem lcGo_state {S : Type} {own : List Nat} {t : Tg} {k : Ts} {f : Ex} (emb : S → En) (ok : S → Prop) (φ : S → Itm → Option D × S) : ∀ {its : List Itm} {s : S}, ok s → (∀ s it, it ∈ its → ok s → lcOne own t k f it (emb s) = some ((φ s it).1, emb (φ s it).2) ∧ ok (φ s it).2) →
    ∃ ds s', lcGo own t k f its (emb s) = some (ds, emb s') ∧ ok s'
  | [], s, o, _ => ⟨[], s, rfl, o⟩
  | it :: its, s, o, h => by
    obtain ⟨h1, h2⟩ := h s it (List.mem_cons_self ..) o
    obtain ⟨ds, s', h3, h4⟩ := lcGo_state emb ok φ (its := its) h2 fun s2 it2 hm o2 => h s2 it2 (List.mem_cons_of_mem _ hm) o2
    refine ⟨(φ s it).1.toList ++ ds, s', ?_, h4⟩
    rw [lcGo_cons, h1, bnd_some, h3, bnd_some]
theorem rgI_zero {lo : Int} : rgI lo 0 = [] := rfl
theorem rgI_succ {lo : Int} {n : Nat} : rgI lo (n + 1) = .v (.int lo) :: rgI (lo + 1) n := by
  unfold rgI
  rw [List.range_succ_eq_map, List.map_cons, List.map_map]
  simp only [Int.natCast_zero, Int.add_zero]
  congr 1
  refine List.map_congr_left fun i _ => ?_
  show Itm.v (.int (lo + ((i + 1 : Nat) : Int))) = Itm.v (.int (lo + 1 + (i : Int)))
  congr 2
  omega
@[simp] theorem rgI_length {lo : Int} {n : Nat} : (rgI lo n).length = n := by
  unfold rgI
  rw [List.length_map, List.length_range]
@[simp] theorem rgL_length {lo hi : Int} : (rgL lo hi).length = (hi - lo).toNat := by
  unfold rgL
  rw [List.length_map, List.length_range]
theorem rgL_map {n : Nat} : rgL 0 (n : Int) = (List.range n).map fun i : Nat => PyData.int (i : Int) := by
  unfold rgL
  rw [show ((n : Int) - 0).toNat = n by omega]
  refine List.map_congr_left fun i _ => ?_
  rw [Int.zero_add]
/-! bounds -/
theorem inB_of {j : Int} (h : -1000000000 ≤ j) (h' : j ≤ 1000000000) : inB j = true := by
  unfold inB
  rw [decide_eq_true (show -big ≤ j from h), decide_eq_true (show j ≤ big from h')]
  rfl
theorem wid_big {n : Nat} (h : n < 2 ^ 64) : n < wid := Nat.lt_of_lt_of_le h (Nat.pow_le_pow_right (by decide) (by decide))
theorem wid_200 {n : Nat} (h : n < 2 ^ 200) : n < wid := Nat.lt_of_lt_of_le h (Nat.pow_le_pow_right (by decide) (by decide))
theorem mulOk_of {i j : Int} (h : i.natAbs < 2 ^ 200) (h' : j.natAbs < 2 ^ 200) : mulOk i j = true := by
  unfold mulOk
  rw [decide_eq_true (wid_200 h), decide_eq_true (wid_200 h')]
  rfl
theorem divOk_of {j : Int} (h : 0 < j) (h' : j.natAbs < 2 ^ 200) : (decide (0 < j) && decide (j.natAbs < wid)) = true := by
  rw [decide_eq_true h, decide_eq_true (wid_200 h')]
  rfl
theorem rgOk_of {i j : Int} (h1 : -1000000000 ≤ i) (h2 : i ≤ 1000000000) (h3 : -1000000000 ≤ j) (h4 : j ≤ 1000000000) (h5 : j - i ≤ 1000000) : rgOk i j = true := by
  unfold rgOk
  rw [inB_of h1 h2, inB_of h3 h4, decide_eq_true (show j - i ≤ ((lim : Nat) : Int) from h5)]
  rfl
end DL
end
section
set_option maxRecDepth 100000
set_option maxHeartbeats 0
namespace Hd
open PySem PySem.Spec PyProof.Rows L2
def top (i : Nat) : Stmt := PySem.Challenge.pw_cardpacks_k52_whole_prepared_packs.main.body.getD i (.Pass ⟨0, 0, 0, 0⟩)
abbrev s_is_integer : Stmt := top 1
abbrev s_is_within : Stmt := top 2
abbrev s_is_count : Stmt := top 3
abbrev s_is_pack_value : Stmt := top 15
abbrev s_want_pack : Stmt := top 16
abbrev s_want_move : Stmt := top 17
abbrev s_want_as_many : Stmt := top 18
abbrev s_want_cards : Stmt := top 19
abbrev s_want_times : Stmt := top 20
abbrev s_still_of : Stmt := top 21
abbrev s_moved_of : Stmt := top 22
abbrev s_back_of : Stmt := top 23
abbrev s_power_of : Stmt := top 24
abbrev s_rounds_of : Stmt := top 25
abbrev s_common_of : Stmt := top 26
abbrev s_order_of : Stmt := top 27
abbrev s_plain : Stmt := top 28
abbrev s_moved : Stmt := top 29
abbrev s_behind : Stmt := top 30
abbrev s_back : Stmt := top 31
abbrev s_done : Stmt := top 32
abbrev s_round_sizes : Stmt := top 33
abbrev s_times_back : Stmt := top 34
abbrev s_want_step : Stmt := top 37
abbrev s_hands_of : Stmt := top 38
abbrev s_move_of_deal : Stmt := top 39
abbrev s_deal_sequence : Stmt := top 40
abbrev s_deal_move : Stmt := top 41
abbrev s_prepared : Stmt := top 42
abbrev s_deal_times : Stmt := top 43
abbrev s__law_pot : Stmt := top 45
abbrev s__law_draw : Stmt := top 46
abbrev s__law_pick : Stmt := top 47
abbrev s__law_is : Stmt := top 48
abbrev s__law_mixed : Stmt := top 49
abbrev s__law_pack : Stmt := top 50
abbrev s__law_cards : Stmt := top 51
abbrev s__law_step : Stmt := top 52
abbrev s__law_dealt : Stmt := top 53
abbrev s__law_common : Stmt := top 54
abbrev s__law_right : Stmt := top 55
abbrev s_law : Stmt := top 56
def d_is_integer : He.DefD := ⟨("is_integer", none), "is_integer", "is_integer", defArgs s_is_integer, defBody s_is_integer, defScope s_is_integer, [], []⟩
def d_is_within : He.DefD := ⟨("is_within", none), "is_within", "is_within", defArgs s_is_within, defBody s_is_within, defScope s_is_within, [], []⟩
def d_is_count : He.DefD := ⟨("is_count", none), "is_count", "is_count", defArgs s_is_count, defBody s_is_count, defScope s_is_count, [], []⟩
def d_is_pack_value : He.DefD := ⟨("is_pack_value", none), "is_pack_value", "is_pack_value", defArgs s_is_pack_value, defBody s_is_pack_value, defScope s_is_pack_value, [], []⟩
def d_want_pack : He.DefD := ⟨("want_pack", none), "want_pack", "want_pack", defArgs s_want_pack, defBody s_want_pack, defScope s_want_pack, [], []⟩
def d_want_move : He.DefD := ⟨("want_move", none), "want_move", "want_move", defArgs s_want_move, defBody s_want_move, defScope s_want_move, [], []⟩
def d_want_as_many : He.DefD := ⟨("want_as_many", none), "want_as_many", "want_as_many", defArgs s_want_as_many, defBody s_want_as_many, defScope s_want_as_many, [], []⟩
def d_want_cards : He.DefD := ⟨("want_cards", none), "want_cards", "want_cards", defArgs s_want_cards, defBody s_want_cards, defScope s_want_cards, [], []⟩
def d_want_times : He.DefD := ⟨("want_times", none), "want_times", "want_times", defArgs s_want_times, defBody s_want_times, defScope s_want_times, [], []⟩
def d_still_of : He.DefD := ⟨("still_of", none), "still_of", "still_of", defArgs s_still_of, defBody s_still_of, defScope s_still_of, [], []⟩
def d_moved_of : He.DefD := ⟨("moved_of", none), "moved_of", "moved_of", defArgs s_moved_of, defBody s_moved_of, defScope s_moved_of, [], []⟩
def d_back_of : He.DefD := ⟨("back_of", none), "back_of", "back_of", defArgs s_back_of, defBody s_back_of, defScope s_back_of, [], []⟩
def d_power_of : He.DefD := ⟨("power_of", none), "power_of", "power_of", defArgs s_power_of, defBody s_power_of, defScope s_power_of, [], []⟩
def d_rounds_of : He.DefD := ⟨("rounds_of", none), "rounds_of", "rounds_of", defArgs s_rounds_of, defBody s_rounds_of, defScope s_rounds_of, [], []⟩
def d_common_of : He.DefD := ⟨("common_of", none), "common_of", "common_of", defArgs s_common_of, defBody s_common_of, defScope s_common_of, [], []⟩
def d_order_of : He.DefD := ⟨("order_of", none), "order_of", "order_of", defArgs s_order_of, defBody s_order_of, defScope s_order_of, [], []⟩
def d_plain : He.DefD := ⟨("plain", none), "plain", "plain", defArgs s_plain, defBody s_plain, defScope s_plain, [], []⟩
def d_moved : He.DefD := ⟨("moved", none), "moved", "moved", defArgs s_moved, defBody s_moved, defScope s_moved, [], []⟩
def d_behind : He.DefD := ⟨("behind", none), "behind", "behind", defArgs s_behind, defBody s_behind, defScope s_behind, [], []⟩
def d_back : He.DefD := ⟨("back", none), "back", "back", defArgs s_back, defBody s_back, defScope s_back, [], []⟩
def d_done : He.DefD := ⟨("done", none), "done", "done", defArgs s_done, defBody s_done, defScope s_done, [], []⟩
def d_round_sizes : He.DefD := ⟨("round_sizes", none), "round_sizes", "round_sizes", defArgs s_round_sizes, defBody s_round_sizes, defScope s_round_sizes, [], []⟩
def d_times_back : He.DefD := ⟨("times_back", none), "times_back", "times_back", defArgs s_times_back, defBody s_times_back, defScope s_times_back, [], []⟩
def d_want_step : He.DefD := ⟨("want_step", none), "want_step", "want_step", defArgs s_want_step, defBody s_want_step, defScope s_want_step, [.int 1000000000000000000000000000000], []⟩
def d_hands_of : He.DefD := ⟨("hands_of", none), "hands_of", "hands_of", defArgs s_hands_of, defBody s_hands_of, defScope s_hands_of, [], []⟩
def d_move_of_deal : He.DefD := ⟨("move_of_deal", none), "move_of_deal", "move_of_deal", defArgs s_move_of_deal, defBody s_move_of_deal, defScope s_move_of_deal, [], []⟩
def d_deal_sequence : He.DefD := ⟨("deal_sequence", none), "deal_sequence", "deal_sequence", defArgs s_deal_sequence, defBody s_deal_sequence, defScope s_deal_sequence, [], []⟩
def d_deal_move : He.DefD := ⟨("deal_move", none), "deal_move", "deal_move", defArgs s_deal_move, defBody s_deal_move, defScope s_deal_move, [], []⟩
def d_prepared : He.DefD := ⟨("prepared", none), "prepared", "prepared", defArgs s_prepared, defBody s_prepared, defScope s_prepared, [], []⟩
def d_deal_times : He.DefD := ⟨("deal_times", none), "deal_times", "deal_times", defArgs s_deal_times, defBody s_deal_times, defScope s_deal_times, [], []⟩
def d__law_pot : He.DefD := ⟨("_law_pot", none), "_law_pot", "_law_pot", defArgs s__law_pot, defBody s__law_pot, defScope s__law_pot, [], []⟩
def d__law_draw : He.DefD := ⟨("_law_draw", none), "_law_draw", "_law_draw", defArgs s__law_draw, defBody s__law_draw, defScope s__law_draw, [], []⟩
def d__law_pick : He.DefD := ⟨("_law_pick", none), "_law_pick", "_law_pick", defArgs s__law_pick, defBody s__law_pick, defScope s__law_pick, [], []⟩
def d__law_is : He.DefD := ⟨("_law_is", none), "_law_is", "_law_is", defArgs s__law_is, defBody s__law_is, defScope s__law_is, [], []⟩
def d__law_mixed : He.DefD := ⟨("_law_mixed", none), "_law_mixed", "_law_mixed", defArgs s__law_mixed, defBody s__law_mixed, defScope s__law_mixed, [], []⟩
def d__law_pack : He.DefD := ⟨("_law_pack", none), "_law_pack", "_law_pack", defArgs s__law_pack, defBody s__law_pack, defScope s__law_pack, [], []⟩
def d__law_cards : He.DefD := ⟨("_law_cards", none), "_law_cards", "_law_cards", defArgs s__law_cards, defBody s__law_cards, defScope s__law_cards, [], []⟩
def d__law_step : He.DefD := ⟨("_law_step", none), "_law_step", "_law_step", defArgs s__law_step, defBody s__law_step, defScope s__law_step, [], []⟩
def d__law_dealt : He.DefD := ⟨("_law_dealt", none), "_law_dealt", "_law_dealt", defArgs s__law_dealt, defBody s__law_dealt, defScope s__law_dealt, [], []⟩
def d__law_common : He.DefD := ⟨("_law_common", none), "_law_common", "_law_common", defArgs s__law_common, defBody s__law_common, defScope s__law_common, [], []⟩
def d__law_right : He.DefD := ⟨("_law_right", none), "_law_right", "_law_right", defArgs s__law_right, defBody s__law_right, defScope s__law_right, [], []⟩
def d_law : He.DefD := ⟨("law", none), "law", "law", defArgs s_law, defBody s_law, defScope s_law, [], []⟩
def fn : List He.DefD := [d_is_integer, d_is_within, d_is_count, d_is_pack_value, d_want_pack, d_want_move, d_want_as_many, d_want_cards, d_want_times, d_still_of, d_moved_of, d_back_of, d_power_of, d_rounds_of, d_common_of, d_order_of, d_plain, d_moved, d_behind, d_back] ++ [d_done, d_round_sizes, d_times_back, d_want_step, d_hands_of, d_move_of_deal, d_deal_sequence, d_deal_move, d_prepared, d_deal_times, d__law_pot, d__law_draw, d__law_pick, d__law_is, d__law_mixed, d__law_pack, d__law_cards, d__law_step, d__law_dealt, d__law_common] ++ [d__law_right, d_law]
def fa : List He.Fa := ([.glo "is_integer", .glo "is_within", .glo "is_count", .glo "is_pack_value", .glo "want_pack", .glo "want_move", .glo "want_as_many", .glo "want_cards", .glo "want_times", .glo "still_of", .glo "moved_of", .glo "back_of", .glo "power_of", .glo "rounds_of", .glo "common_of", .glo "order_of", .glo "plain", .glo "moved", .glo "behind", .glo "back"] : List He.Fa) ++ ([.glo "done", .glo "round_sizes", .glo "times_back", .glo "want_step", .glo "hands_of", .glo "move_of_deal", .glo "deal_sequence", .glo "deal_move", .glo "prepared", .glo "deal_times", .glo "_law_pot", .glo "_law_draw", .glo "_law_pick", .glo "_law_is", .glo "_law_mixed", .glo "_law_pack", .glo "_law_cards", .glo "_law_step", .glo "_law_dealt", .glo "_law_common"] : List He.Fa) ++ ([.glo "_law_right", .glo "law", .free "abs", .free "all", .free "bool", .free "divmod", .free "enumerate", .free "int", .free "isinstance", .free "len", .free "list", .free "max", .free "min", .free "range", .free "repr", .free "set", .free "sorted", .free "str", .free "sum", .free "tuple"] : List He.Fa) ++ ([.int "MOST_CARDS" 52, .int "MOST_STEP" 1000000000000000000000000000000] : List He.Fa)
abbrev R : PySem.W.OpenRow := PySem.W.OpenLaw.row PySem.Challenge.rw_cardpacks_k52_whole_prepared_packs
abbrev hk : PySem.W.Hook := He.hookD 4 fa fn
def ob (s : PySem.W.SharedT) : He.AlD := He.obsDG 4 fa fn (HandSHeadRun.getT s)
theorem ob_eq (s : PySem.W.SharedT) : ob s = hk.obs s.abs := He.obsDG_eq (HandSHeadRun.getT_eq s)
def loose : List PySem.Str := (["is_integer", "is_within", "is_count", "PackError", "StateError", "InvalidPack", "InvalidMove", "InvalidCards", "InvalidTimes", "InvalidStep", "UnlikeCards", "MOST_CARDS", "is_pack_value", "want_pack", "want_move", "want_as_many", "want_cards", "want_times", "still_of", "moved_of", "back_of", "power_of", "rounds_of", "common_of", "order_of", "plain", "moved", "behind", "back", "done"] : List PySem.Str) ++ (["round_sizes", "times_back", "MOST_STEP", "want_step", "hands_of", "move_of_deal", "deal_sequence", "deal_move", "prepared", "deal_times", "_law_pot", "_law_draw", "_law_pick", "_law_is", "_law_mixed", "_law_pack", "_law_cards", "_law_step", "_law_dealt", "_law_common", "_law_right"] : List PySem.Str)
theorem run (w : World) : HandSHeadRun.RunEq R (PySem.W.view R.prog [56]) hk ob 6000 loose w := by
  intro os
  kernel_rfl
end Hd
end
section
set_option maxRecDepth 100000
set_option maxHeartbeats 4000000
namespace GG
open PySem PySem.Spec PyProof.Rows L2 DL Hd
section
variable {P : Program} {w : World} {K : KF} {mg : Str → Option Value} {base : Heap} {h0 : Heap} (KX : K.In h0) (G0 : h0.Ns mainGlobals mg) (c0 : He.SaysD fa fn K)
include KX G0 c0
theorem fr_abs : mg "abs" = none := He.free_ok KX G0 (c0.fact 42 (f := .free "abs") rfl)
theorem fr_all : mg "all" = none := He.free_ok KX G0 (c0.fact 43 (f := .free "all") rfl)
theorem fr_bool : mg "bool" = none := He.free_ok KX G0 (c0.fact 44 (f := .free "bool") rfl)
theorem fr_divmod : mg "divmod" = none := He.free_ok KX G0 (c0.fact 45 (f := .free "divmod") rfl)
theorem fr_enumerate : mg "enumerate" = none := He.free_ok KX G0 (c0.fact 46 (f := .free "enumerate") rfl)
theorem fr_int : mg "int" = none := He.free_ok KX G0 (c0.fact 47 (f := .free "int") rfl)
theorem fr_isinstance : mg "isinstance" = none := He.free_ok KX G0 (c0.fact 48 (f := .free "isinstance") rfl)
theorem fr_len : mg "len" = none := He.free_ok KX G0 (c0.fact 49 (f := .free "len") rfl)
theorem fr_list : mg "list" = none := He.free_ok KX G0 (c0.fact 50 (f := .free "list") rfl)
theorem fr_max : mg "max" = none := He.free_ok KX G0 (c0.fact 51 (f := .free "max") rfl)
theorem fr_min : mg "min" = none := He.free_ok KX G0 (c0.fact 52 (f := .free "min") rfl)
theorem fr_range : mg "range" = none := He.free_ok KX G0 (c0.fact 53 (f := .free "range") rfl)
theorem fr_repr : mg "repr" = none := He.free_ok KX G0 (c0.fact 54 (f := .free "repr") rfl)
theorem fr_set : mg "set" = none := He.free_ok KX G0 (c0.fact 55 (f := .free "set") rfl)
theorem fr_sorted : mg "sorted" = none := He.free_ok KX G0 (c0.fact 56 (f := .free "sorted") rfl)
theorem fr_str : mg "str" = none := He.free_ok KX G0 (c0.fact 57 (f := .free "str") rfl)
theorem fr_sum : mg "sum" = none := He.free_ok KX G0 (c0.fact 58 (f := .free "sum") rfl)
theorem fr_tuple : mg "tuple" = none := He.free_ok KX G0 (c0.fact 59 (f := .free "tuple") rfl)
theorem mi_MOST_CARDS : ∃ t, mg "MOST_CARDS" = some (.int 52 t) := He.int_ok KX G0 (c0.fact 60 (f := .int "MOST_CARDS" 52) rfl)
theorem mi_MOST_STEP : ∃ t, mg "MOST_STEP" = some (.int 1000000000000000000000000000000 t) := He.int_ok KX G0 (c0.fact 61 (f := .int "MOST_STEP" 1000000000000000000000000000000) rfl)
omit KX G0 c0
/-! _law_draw -/
theorem S__law_draw : FnScope ["pot", "sides", "digit"] ["pot", "sides"] (defScope s__law_draw) := ⟨rfl, rfl, rfl, by decide +kernel, rfl, by decide +kernel, by decide +kernel⟩
def g__law_draw : Sx :=
  sSeq (sIf (sT (xB gtD (xB ixD (xVar 0) (xC (.int 0))) (xC (.int 0)))) (sSeq (sAsg (xN dmD (yCons (xB ixD (xVar 0) (xC (.int 0))) (yCons (xVar 1) yNil))) (gT 2 (gsCons (gSubT 0 (xC (.int 0))) (gsCons (gN 2) gsNil))))
  (sRet (xVar 2))) sNil)
  (sSeq (sAsg (xB modD (xN intD (yCons (xB addD (xB mulD (xB ixD (xVar 0) (xC (.int 1))) (xC (.int 40709))) (xC (.int 8623))) yNil)) (xC (.int 2147483587))) (gSubT 0 (xC (.int 1))))
  (sRet (xB modD (xN intD (yCons (xB divD (xB modD (xN intD (yCons (xB mulD (xB ixD (xVar 0) (xC (.int 1))) (xB ixD (xVar 0) (xC (.int 1)))) yNil)) (xC (.int 2147483629))) (xC (.int 23))) yNil)) (xVar 1))))
def m__law_draw : Fn := mkFn 3 2 g__law_draw
theorem u__law_draw {s0 s1 : Sl} : m__law_draw [s0, s1] = @bI _ _ (g__law_draw [s0, s1, .em]) ⟨fun fl e => @oI _ _ (outOf [s0, s1] e) ⟨fun out => fnK fl out⟩⟩ := mkFn_go rfl
include KX G0 c0 in
theorem ok__law_draw {fd : FuncData} (F : FunD K "_law_draw" "_law_draw" (defArgs s__law_draw) (defBody s__law_draw) (defScope s__law_draw) [] [] (He.fAd K ("_law_draw", none)) fd) : FnG P w K mg base CX0 1 (He.fAd K ("_law_draw", none)) fd ["pot", "sides"] (spD K 2 m__law_draw) :=
  okD F S__law_draw fun cdv A outer s H hr hG =>
  hss_cons (hs_if (ht_cmp op_gt (reads_cmpI _) (he_ix (he_var (pv 0)) he_int (fun _ _ => rfl)) he_int (nomark _)) (hss_cons (hs_asg (he_callB call_dmF reads_dm rfl (fr_divmod KX G0 c0) bt_divmod (ha_cons (he_ix (he_var (pv 0)) he_int (fun _ _ => rfl)) (ha_cons (he_var (pv 1)) ha_nil))) (hg_tup rfl (hgs_cons (hg_sub (pv 0) he_int) (hgs_cons (hg_name (pg_name (i := 2) S__law_draw.nd rfl (Or.inl rfl))) hgs_nil))))
  (hss_one (hs_ret (he_var (pv 2))))) hss_nil)
  (hss_cons (hs_asg (he_op op_mod reads_mod (he_callTy call_int1 reads_int rfl (fr_int KX G0 c0) bt_int (ha_cons (he_op op_addD reads_add (he_op op_mulD reads_mul (he_ix (he_var (pv 0)) he_int (fun _ _ => rfl)) he_int) he_int) ha_nil)) he_int) (hg_sub (pv 0) he_int))
  (hss_one (hs_ret (he_op op_mod reads_mod (he_callTy call_int1 reads_int rfl (fr_int KX G0 c0) bt_int (ha_cons (he_op op_fdivW reads_div (he_op op_mod reads_mod (he_callTy call_int1 reads_int rfl (fr_int KX G0 c0) bt_int (ha_cons (he_op op_mulD reads_mul (he_ix (he_var (pv 0)) he_int (fun _ _ => rfl)) (he_ix (he_var (pv 0)) he_int (fun _ _ => rfl))) ha_nil)) he_int) he_int) ha_nil)) (he_var (pv 1))))))
include KX G0 c0 in
theorem cal__law_draw : Cal P w K mg base 1 "_law_draw" [.mu, .vl] m__law_draw := by
  obtain ⟨fd, F⟩ : ∃ fd, FunD K "_law_draw" "_law_draw" (defArgs s__law_draw) (defBody s__law_draw) (defScope s__law_draw) [] [] (He.fAd K ("_law_draw", none)) fd := c0.def_ 31 (d := d__law_draw) rfl
  exact calD F (ok__law_draw KX G0 c0 F) (He.glo_ok KX G0 (c0.fact 31 (f := .glo "_law_draw") rfl)) rfl fun _ _ _ _ _ _ us hl => match us, hl with | [_, _], _ => rfl
/-! _law_mixed -/
theorem S__law_mixed : FnScope ["pot", "some", "left", "found"] ["pot", "some"] (defScope s__law_mixed) := ⟨rfl, rfl, rfl, by decide +kernel, rfl, by decide +kernel, by decide +kernel⟩
def wt__law_mixed_1 : Ts :=
  sT (xB neD (xVar 2) (xFz (yLst yNil)))
def wb__law_mixed_2 : Sx :=
  sApp 3 (xPop 2 (xCall [.mu, .vl] m__law_draw (zCons (xVar 0) (zCons (xN lenD (yCons (xVar 2) yNil)) zNil))))
def g__law_mixed : Sx :=
  sSeq (sPar 2 3 (zConsO (yN lstD (yCons (xVar 1) yNil)) (zConsO (yLst yNil) zNil)))
  (sSeq (sWh wt__law_mixed_1 wb__law_mixed_2)
  (sRet (xVar 3)))
def m__law_mixed : Fn := mkFn 4 2 g__law_mixed
theorem u__law_mixed {s0 s1 : Sl} : m__law_mixed [s0, s1] = @bI _ _ (g__law_mixed [s0, s1, .em, .em]) ⟨fun fl e => @oI _ _ (outOf [s0, s1] e) ⟨fun out => fnK fl out⟩⟩ := mkFn_go rfl
include KX G0 c0 in
theorem ok__law_mixed {fd : FuncData} (F : FunD K "_law_mixed" "_law_mixed" (defArgs s__law_mixed) (defBody s__law_mixed) (defScope s__law_mixed) [] [] (He.fAd K ("_law_mixed", none)) fd) : FnG P w K mg base CX0 2 (He.fAd K ("_law_mixed", none)) fd ["pot", "some"] (spD K 2 m__law_mixed) :=
  okD F S__law_mixed fun cdv A outer s H hr hG =>
  hss_cons (hs_par (i := 2) (j := 3) rfl S__law_mixed.nd rfl rfl (by decide) rfl rfl (hr_consO (fe_callTy call_list_of reads_lst rfl (fr_list KX G0 c0) bt_list (ha_cons (he_var (pv 1)) ha_nil)) (hr_consO (fe_lst ha_nil) hr_nil)) (by rfl))
  (hss_cons (hs_while (fun _ => fuel) PassesOwn.never (ht_cmp (op_neA hr.units) reads_ne (he_var (pv 2)) (he_of_fe (fe_lst ha_nil)) (nomark _)) (hss_one (hs_append (pv 3) (he_pop (pv 2) (he_call' (cal__law_draw KX G0 c0) (hr.mono (by decide)) hG rfl (hr_cons (he_var (pv 0)) (hr_cons (he_callB call_len_seq reads_len rfl (fr_len KX G0 c0) bt_len (ha_cons (he_var (pv 2)) ha_nil)) hr_nil)))))))
  (hss_one (hs_ret (he_var (pv 3)))))
include KX G0 c0 in
theorem cal__law_mixed : Cal P w K mg base 2 "_law_mixed" [.mu, .vl] m__law_mixed := by
  obtain ⟨fd, F⟩ : ∃ fd, FunD K "_law_mixed" "_law_mixed" (defArgs s__law_mixed) (defBody s__law_mixed) (defScope s__law_mixed) [] [] (He.fAd K ("_law_mixed", none)) fd := c0.def_ 34 (d := d__law_mixed) rfl
  exact calD F (ok__law_mixed KX G0 c0 F) (He.glo_ok KX G0 (c0.fact 34 (f := .glo "_law_mixed") rfl)) rfl fun _ _ _ _ _ _ us hl => match us, hl with | [_, _], _ => rfl
/-! _law_pack -/
theorem S__law_pack : FnScope ["pot", "cards"] ["pot", "cards"] (defScope s__law_pack) := ⟨rfl, rfl, rfl, by decide +kernel, rfl, by decide +kernel, by decide +kernel⟩
def g__law_pack : Sx :=
  sRet (xN tupD (yCons (xCall [.mu, .vl] m__law_mixed (zCons (xVar 0) (zCons (xFz (yLrg (rg1 (xVar 1)))) zNil))) yNil))
def m__law_pack : Fn := mkFn 2 2 g__law_pack
theorem u__law_pack {s0 s1 : Sl} : m__law_pack [s0, s1] = @bI _ _ (g__law_pack [s0, s1]) ⟨fun fl e => @oI _ _ (outOf [s0, s1] e) ⟨fun out => fnK fl out⟩⟩ := mkFn_go rfl
include KX G0 c0 in
theorem ok__law_pack {fd : FuncData} (F : FunD K "_law_pack" "_law_pack" (defArgs s__law_pack) (defBody s__law_pack) (defScope s__law_pack) [] [] (He.fAd K ("_law_pack", none)) fd) : FnG P w K mg base CX0 3 (He.fAd K ("_law_pack", none)) fd ["pot", "cards"] (spD K 2 m__law_pack) :=
  okD F S__law_pack fun cdv A outer s H hr hG =>
  hss_one (hs_ret (he_callTy call_tupF reads_tup rfl (fr_tuple KX G0 c0) bt_tuple (ha_cons (he_call' (cal__law_mixed KX G0 c0) (hr.mono (by decide)) hG rfl (hr_cons (he_var (pv 0)) (hr_cons (he_of_fe (fe_listRg rfl rfl (fr_list KX G0 c0) (hrg_1 rfl (fr_range KX G0 c0) (he_var (pv 1))))) hr_nil))) ha_nil)))
include KX G0 c0 in
theorem cal__law_pack : Cal P w K mg base 3 "_law_pack" [.mu, .vl] m__law_pack := by
  obtain ⟨fd, F⟩ : ∃ fd, FunD K "_law_pack" "_law_pack" (defArgs s__law_pack) (defBody s__law_pack) (defScope s__law_pack) [] [] (He.fAd K ("_law_pack", none)) fd := c0.def_ 35 (d := d__law_pack) rfl
  exact calD F (ok__law_pack KX G0 c0 F) (He.glo_ok KX G0 (c0.fact 35 (f := .glo "_law_pack") rfl)) rfl fun _ _ _ _ _ _ us hl => match us, hl with | [_, _], _ => rfl
/-! is_integer -/
theorem S_is_integer : FnScope ["value"] ["value"] (defScope s_is_integer) := ⟨rfl, rfl, rfl, by decide +kernel, rfl, by decide +kernel, by decide +kernel⟩
def g_is_integer : Sx :=
  sRet (xAnd (xIsi "int" (xVar 0)) (xNot (xIsi "bool" (xVar 0))))
def m_is_integer : Fn := mkFn 1 1 g_is_integer
theorem u_is_integer {s0 : Sl} : m_is_integer [s0] = @bI _ _ (g_is_integer [s0]) ⟨fun fl e => @oI _ _ (outOf [s0] e) ⟨fun out => fnK fl out⟩⟩ := mkFn_go rfl
include KX G0 c0 in
theorem ok_is_integer {fd : FuncData} (F : FunD K "is_integer" "is_integer" (defArgs s_is_integer) (defBody s_is_integer) (defScope s_is_integer) [] [] (He.fAd K ("is_integer", none)) fd) : FnG P w K mg base CX0 1 (He.fAd K ("is_integer", none)) fd ["value"] (spD K 1 m_is_integer) :=
  okD F S_is_integer fun cdv A outer s H hr hG =>
  hss_one (hs_ret (he_and (he_isi (T := "int") rfl bt_int rfl (fr_isinstance KX G0 c0) rfl (fr_int KX G0 c0) (he_var (pv 0))) (he_one (he_not (he_isi (T := "bool") rfl bt_bool rfl (fr_isinstance KX G0 c0) rfl (fr_bool KX G0 c0) (he_var (pv 0)))))))
include KX G0 c0 in
theorem cal_is_integer : Cal P w K mg base 1 "is_integer" [.vl] m_is_integer := by
  obtain ⟨fd, F⟩ : ∃ fd, FunD K "is_integer" "is_integer" (defArgs s_is_integer) (defBody s_is_integer) (defScope s_is_integer) [] [] (He.fAd K ("is_integer", none)) fd := c0.def_ 0 (d := d_is_integer) rfl
  exact calD F (ok_is_integer KX G0 c0 F) (He.glo_ok KX G0 (c0.fact 0 (f := .glo "is_integer") rfl)) rfl fun _ _ _ _ _ _ us hl => match us, hl with | [_], _ => rfl
/-! is_within -/
theorem S_is_within : FnScope ["value", "least", "most"] ["value", "least", "most"] (defScope s_is_within) := ⟨rfl, rfl, rfl, by decide +kernel, rfl, by decide +kernel, by decide +kernel⟩
def g_is_within : Sx :=
  sRet (xAnd (xCall [.vl] m_is_integer (zCons (xVar 0) zNil)) (xCh leD leD (xVar 1) (xVar 0) (xVar 2)))
def m_is_within : Fn := mkFn 3 3 g_is_within
theorem u_is_within {s0 s1 s2 : Sl} : m_is_within [s0, s1, s2] = @bI _ _ (g_is_within [s0, s1, s2]) ⟨fun fl e => @oI _ _ (outOf [s0, s1, s2] e) ⟨fun out => fnK fl out⟩⟩ := mkFn_go rfl
include KX G0 c0 in
theorem ok_is_within {fd : FuncData} (F : FunD K "is_within" "is_within" (defArgs s_is_within) (defBody s_is_within) (defScope s_is_within) [] [] (He.fAd K ("is_within", none)) fd) : FnG P w K mg base CX0 2 (He.fAd K ("is_within", none)) fd ["value", "least", "most"] (spD K 3 m_is_within) :=
  okD F S_is_within fun cdv A outer s H hr hG =>
  hss_one (hs_ret (he_and (he_call' (cal_is_integer KX G0 c0) (hr.mono (by decide)) hG rfl (hr_cons (he_var (pv 0)) hr_nil)) (he_one (he_chain op_le op_le (reads_cmpI _) (reads_cmpI _) (he_var (pv 1)) (he_var (pv 0)) (he_var (pv 2))))))
include KX G0 c0 in
theorem cal_is_within : Cal P w K mg base 2 "is_within" [.vl, .vl, .vl] m_is_within := by
  obtain ⟨fd, F⟩ : ∃ fd, FunD K "is_within" "is_within" (defArgs s_is_within) (defBody s_is_within) (defScope s_is_within) [] [] (He.fAd K ("is_within", none)) fd := c0.def_ 1 (d := d_is_within) rfl
  exact calD F (ok_is_within KX G0 c0 F) (He.glo_ok KX G0 (c0.fact 1 (f := .glo "is_within") rfl)) rfl fun _ _ _ _ _ _ us hl => match us, hl with | [_, _, _], _ => rfl
/-! want_cards -/
theorem S_want_cards : FnScope ["cards"] ["cards"] (defScope s_want_cards) := ⟨rfl, rfl, rfl, by decide +kernel, rfl, by decide +kernel, by decide +kernel⟩
def g_want_cards : Sx :=
  sIf (sNot (sT (xCall [.vl, .vl, .vl] m_is_within (zCons (xVar 0) (zCons (xC (.int 1)) (zCons (xC (.int 52)) zNil)))))) sNever sNil
def m_want_cards : Fn := mkFn 1 1 g_want_cards
theorem u_want_cards {s0 : Sl} : m_want_cards [s0] = @bI _ _ (g_want_cards [s0]) ⟨fun fl e => @oI _ _ (outOf [s0] e) ⟨fun out => fnK fl out⟩⟩ := mkFn_go rfl
include KX G0 c0 in
theorem ok_want_cards {fd : FuncData} (F : FunD K "want_cards" "want_cards" (defArgs s_want_cards) (defBody s_want_cards) (defScope s_want_cards) [] [] (He.fAd K ("want_cards", none)) fd) : FnG P w K mg base CX0 3 (He.fAd K ("want_cards", none)) fd ["cards"] (spD K 1 m_want_cards) :=
  okD F S_want_cards fun cdv A outer s H hr hG =>
  hss_one (hs_if (ht_not (ht_val (he_call' (cal_is_within KX G0 c0) (hr.mono (by decide)) hG rfl (hr_cons (he_var (pv 0)) (hr_cons he_int (hr_cons (he_mi (mi_MOST_CARDS KX G0 c0) rfl) hr_nil)))))) (hss_one hs_never) hss_nil)
include KX G0 c0 in
theorem cal_want_cards : Cal P w K mg base 3 "want_cards" [.vl] m_want_cards := by
  obtain ⟨fd, F⟩ : ∃ fd, FunD K "want_cards" "want_cards" (defArgs s_want_cards) (defBody s_want_cards) (defScope s_want_cards) [] [] (He.fAd K ("want_cards", none)) fd := c0.def_ 7 (d := d_want_cards) rfl
  exact calD F (ok_want_cards KX G0 c0 F) (He.glo_ok KX G0 (c0.fact 7 (f := .glo "want_cards") rfl)) rfl fun _ _ _ _ _ _ us hl => match us, hl with | [_], _ => rfl
/-! want_step -/
theorem S_want_step : FnScope ["step", "most"] ["step", "most"] (defScope s_want_step) := ⟨rfl, rfl, rfl, by decide +kernel, rfl, by decide +kernel, by decide +kernel⟩
def g_want_step : Sx :=
  sIf (sNot (sT (xCall [.vl, .vl, .vl] m_is_within (zCons (xVar 0) (zCons (xC (.int 1)) (zCons (xVar 1) zNil)))))) sNever sNil
def m_want_step : Fn := mkFn 2 2 g_want_step
theorem u_want_step {s0 s1 : Sl} : m_want_step [s0, s1] = @bI _ _ (g_want_step [s0, s1]) ⟨fun fl e => @oI _ _ (outOf [s0, s1] e) ⟨fun out => fnK fl out⟩⟩ := mkFn_go rfl
include KX G0 c0 in
theorem ok_want_step {fd : FuncData} (F : FunD K "want_step" "want_step" (defArgs s_want_step) (defBody s_want_step) (defScope s_want_step) [.int 1000000000000000000000000000000] [] (He.fAd K ("want_step", none)) fd) : FnG P w K mg base CX0 3 (He.fAd K ("want_step", none)) fd ["step", "most"] (spD K 2 m_want_step) :=
  okD F S_want_step fun cdv A outer s H hr hG =>
  hss_one (hs_if (ht_not (ht_val (he_call' (cal_is_within KX G0 c0) (hr.mono (by decide)) hG rfl (hr_cons (he_var (pv 0)) (hr_cons he_int (hr_cons (he_var (pv 1)) hr_nil)))))) (hss_one hs_never) hss_nil)
include KX G0 c0 in
theorem cal_want_step : Cal P w K mg base 3 "want_step" [.vl, .vl] m_want_step := by
  obtain ⟨fd, F⟩ : ∃ fd, FunD K "want_step" "want_step" (defArgs s_want_step) (defBody s_want_step) (defScope s_want_step) [.int 1000000000000000000000000000000] [] (He.fAd K ("want_step", none)) fd := c0.def_ 23 (d := d_want_step) rfl
  exact calDa F (ok_want_step KX G0 c0 F) (He.glo_ok KX G0 (c0.fact 23 (f := .glo "want_step") rfl)) rfl rfl fun _ _ _ _ _ _ _ us its hl hl2 => match us, its, hl, hl2 with | [_, _], [_], _, _ => ⟨_, rfl, rfl⟩
def md_want_step : Fn := fun ss => m_want_step (ss ++ [.fz (.int 1000000000000000000000000000000)])
include KX G0 c0 in
theorem cald_want_step : Cal P w K mg base 3 "want_step" [.vl] md_want_step := by
  obtain ⟨fd, F⟩ : ∃ fd, FunD K "want_step" "want_step" (defArgs s_want_step) (defBody s_want_step) (defScope s_want_step) [.int 1000000000000000000000000000000] [] (He.fAd K ("want_step", none)) fd := c0.def_ 23 (d := d_want_step) rfl
  exact calDf F (ok_want_step KX G0 c0 F) (He.glo_ok KX G0 (c0.fact 23 (f := .glo "want_step") rfl)) rfl rfl fun _ _ _ _ _ _ _ us its hl hl2 => match us, its, hl, hl2 with | [_], [_], _, _ => ⟨_, rfl, rfl⟩
/-! hands_of -/
theorem S_hands_of : FnScope ["cards", "step", "many", "left", "found", "turn", "here"] ["cards", "step", "many"] (defScope s_hands_of) := ⟨rfl, rfl, rfl, by decide +kernel, rfl, by decide +kernel, by decide +kernel⟩
def fb_hands_of_1 : Sx :=
  sSeq (sSet 6 (xB modD (xB subD (xVar 1) (xC (.int 1))) (xN lenD (yCons (xVar 3) yNil))))
  (sSeq (sApp 4 (xB ixD (xVar 3) (xVar 6)))
  (sSet 3 (xFz (yB catL (xFz (ySl (xVar 3) (oSo (xB addD (xVar 6) (xC (.int 1)))) oNo)) (xFz (ySl (xVar 3) oNo (oSo (xVar 6))))))))
def g_hands_of : Sx :=
  sSeq (sPar 3 4 (zCons (xFz (yLrg (rg1 (xVar 0)))) (zConsO (yLst yNil) zNil)))
  (sSeq (sFor (srcR1 (xVar 2)) (gN 5) fb_hands_of_1)
  (sRet (xTup (yCons (xVar 4) (yCons (xVar 3) yNil)))))
def m_hands_of : Fn := mkFn 7 3 g_hands_of
theorem u_hands_of {s0 s1 s2 : Sl} : m_hands_of [s0, s1, s2] = @bI _ _ (g_hands_of [s0, s1, s2, .em, .em, .em, .em]) ⟨fun fl e => @oI _ _ (outOf [s0, s1, s2] e) ⟨fun out => fnK fl out⟩⟩ := mkFn_go rfl
include KX G0 c0 in
theorem ok_hands_of {fd : FuncData} (F : FunD K "hands_of" "hands_of" (defArgs s_hands_of) (defBody s_hands_of) (defScope s_hands_of) [] [] (He.fAd K ("hands_of", none)) fd) : FnG P w K mg base CX0 1 (He.fAd K ("hands_of", none)) fd ["cards", "step", "many"] (spD K 3 m_hands_of) :=
  okD F S_hands_of fun cdv A outer s H hr hG =>
  hss_cons (hs_par (i := 3) (j := 4) rfl S_hands_of.nd rfl rfl (by decide) rfl rfl (hr_cons (he_of_fe (fe_listRg rfl rfl (fr_list KX G0 c0) (hrg_1 rfl (fr_range KX G0 c0) (he_var (pv 0))))) (hr_consO (fe_lst ha_nil) hr_nil)) (by rfl))
  (hss_cons (hs_for PassesOwn.never rfl (hi_range1 rfl (fr_range KX G0 c0) (he_var (pv 2))) (hg_name (pg_name (i := 5) S_hands_of.nd rfl (Or.inl rfl))) (hss_cons (hs_set (i := 6) S_hands_of.nd rfl (Or.inl rfl) (he_op op_mod reads_mod (he_op op_sub reads_sub (he_var (pv 1)) he_int) (he_callB call_len_seq reads_len rfl (fr_len KX G0 c0) bt_len (ha_cons (he_var (pv 3)) ha_nil))))
  (hss_cons (hs_append (pv 4) (he_ix (he_var (pv 3)) (he_var (pv 6)) (fun _ _ => rfl)))
  (hss_one (hs_set (i := 3) S_hands_of.nd rfl (Or.inl rfl) (he_of_fe (fe_op op_cat reads_catL (he_of_fe (fe_slice (he_var (pv 3)) (ho_so (he_op op_addD reads_add (he_var (pv 6)) he_int)) ho_no)) (he_of_fe (fe_slice (he_var (pv 3)) ho_no (ho_so (he_var (pv 6))))))))))))
  (hss_one (hs_ret (he_tup (ha_cons (he_var (pv 4)) (ha_cons (he_var (pv 3)) ha_nil))))))
include KX G0 c0 in
theorem cal_hands_of : Cal P w K mg base 1 "hands_of" [.vl, .vl, .vl] m_hands_of := by
  obtain ⟨fd, F⟩ : ∃ fd, FunD K "hands_of" "hands_of" (defArgs s_hands_of) (defBody s_hands_of) (defScope s_hands_of) [] [] (He.fAd K ("hands_of", none)) fd := c0.def_ 24 (d := d_hands_of) rfl
  exact calD F (ok_hands_of KX G0 c0 F) (He.glo_ok KX G0 (c0.fact 24 (f := .glo "hands_of") rfl)) rfl fun _ _ _ _ _ _ us hl => match us, hl with | [_, _, _], _ => rfl
/-! move_of_deal -/
theorem S_move_of_deal : FnScope ["cards", "step"] ["cards", "step"] (defScope s_move_of_deal) := ⟨rfl, rfl, rfl, by decide +kernel, rfl, by decide +kernel, by decide +kernel⟩
def g_move_of_deal : Sx :=
  sRet (xN tupD (yCons (xB ixD (xCall [.vl, .vl, .vl] m_hands_of (zCons (xVar 0) (zCons (xVar 1) (zCons (xVar 0) zNil)))) (xC (.int 0))) yNil))
def m_move_of_deal : Fn := mkFn 2 2 g_move_of_deal
theorem u_move_of_deal {s0 s1 : Sl} : m_move_of_deal [s0, s1] = @bI _ _ (g_move_of_deal [s0, s1]) ⟨fun fl e => @oI _ _ (outOf [s0, s1] e) ⟨fun out => fnK fl out⟩⟩ := mkFn_go rfl
include KX G0 c0 in
theorem ok_move_of_deal {fd : FuncData} (F : FunD K "move_of_deal" "move_of_deal" (defArgs s_move_of_deal) (defBody s_move_of_deal) (defScope s_move_of_deal) [] [] (He.fAd K ("move_of_deal", none)) fd) : FnG P w K mg base CX0 2 (He.fAd K ("move_of_deal", none)) fd ["cards", "step"] (spD K 2 m_move_of_deal) :=
  okD F S_move_of_deal fun cdv A outer s H hr hG =>
  hss_one (hs_ret (he_callTy call_tupF reads_tup rfl (fr_tuple KX G0 c0) bt_tuple (ha_cons (he_ix (he_call' (cal_hands_of KX G0 c0) (hr.mono (by decide)) hG rfl (hr_cons (he_var (pv 0)) (hr_cons (he_var (pv 1)) (hr_cons (he_var (pv 0)) hr_nil)))) he_int (fun _ _ => rfl)) ha_nil)))
include KX G0 c0 in
theorem cal_move_of_deal : Cal P w K mg base 2 "move_of_deal" [.vl, .vl] m_move_of_deal := by
  obtain ⟨fd, F⟩ : ∃ fd, FunD K "move_of_deal" "move_of_deal" (defArgs s_move_of_deal) (defBody s_move_of_deal) (defScope s_move_of_deal) [] [] (He.fAd K ("move_of_deal", none)) fd := c0.def_ 25 (d := d_move_of_deal) rfl
  exact calD F (ok_move_of_deal KX G0 c0 F) (He.glo_ok KX G0 (c0.fact 25 (f := .glo "move_of_deal") rfl)) rfl fun _ _ _ _ _ _ us hl => match us, hl with | [_, _], _ => rfl
/-! deal_move -/
theorem S_deal_move : FnScope ["cards", "step"] ["cards", "step"] (defScope s_deal_move) := ⟨rfl, rfl, rfl, by decide +kernel, rfl, by decide +kernel, by decide +kernel⟩
def g_deal_move : Sx :=
  sSeq (sDrop (xCall [.vl] m_want_cards (zCons (xVar 0) zNil)))
  (sSeq (sDrop (xCall [.vl] md_want_step (zCons (xVar 1) zNil)))
  (sRet (xCall [.vl, .vl] m_move_of_deal (zCons (xVar 0) (zCons (xVar 1) zNil)))))
def m_deal_move : Fn := mkFn 2 2 g_deal_move
theorem u_deal_move {s0 s1 : Sl} : m_deal_move [s0, s1] = @bI _ _ (g_deal_move [s0, s1]) ⟨fun fl e => @oI _ _ (outOf [s0, s1] e) ⟨fun out => fnK fl out⟩⟩ := mkFn_go rfl
include KX G0 c0 in
theorem ok_deal_move {fd : FuncData} (F : FunD K "deal_move" "deal_move" (defArgs s_deal_move) (defBody s_deal_move) (defScope s_deal_move) [] [] (He.fAd K ("deal_move", none)) fd) : FnG P w K mg base CX0 4 (He.fAd K ("deal_move", none)) fd ["cards", "step"] (spD K 2 m_deal_move) :=
  okD F S_deal_move fun cdv A outer s H hr hG =>
  hss_cons (hs_expr (he_call' (cal_want_cards KX G0 c0) (hr.mono (by decide)) hG rfl (hr_cons (he_var (pv 0)) hr_nil)))
  (hss_cons (hs_expr (he_call' (cald_want_step KX G0 c0) (hr.mono (by decide)) hG rfl (hr_cons (he_var (pv 1)) hr_nil)))
  (hss_one (hs_ret (he_call' (cal_move_of_deal KX G0 c0) (hr.mono (by decide)) hG rfl (hr_cons (he_var (pv 0)) (hr_cons (he_var (pv 1)) hr_nil))))))
include KX G0 c0 in
theorem cal_deal_move : Cal P w K mg base 4 "deal_move" [.vl, .vl] m_deal_move := by
  obtain ⟨fd, F⟩ : ∃ fd, FunD K "deal_move" "deal_move" (defArgs s_deal_move) (defBody s_deal_move) (defScope s_deal_move) [] [] (He.fAd K ("deal_move", none)) fd := c0.def_ 27 (d := d_deal_move) rfl
  exact calD F (ok_deal_move KX G0 c0 F) (He.glo_ok KX G0 (c0.fact 27 (f := .glo "deal_move") rfl)) rfl fun _ _ _ _ _ _ us hl => match us, hl with | [_, _], _ => rfl
/-! is_pack_value -/
theorem S_is_pack_value : FnScope ["value", "one"] ["value"] (defScope s_is_pack_value) := ⟨rfl, rfl, rfl, by decide +kernel, rfl, by decide +kernel, by decide +kernel⟩
theorem bo_is_pack_value_1 : BlkOk ["value", "one"] (defScope s_is_pack_value) ⟨.function, [(".0", .local), ("one", .local), ("is_within", .globalImplicit), ("len", .globalImplicit), ("value", .free)], false, false, []⟩ [("one", 1)] := ⟨rfl, by decide +kernel, by decide +kernel, by decide +kernel, by decide +kernel⟩
def ce_is_pack_value_1 : Ex :=
  xCall [.vl, .vl, .vl] m_is_within (zCons (xVar 1) (zCons (xC (.int 0)) (zCons (xB subD (xN lenD (yCons (xVar 0) yNil)) (xC (.int 1))) zNil)))
def g_is_pack_value : Sx :=
  sSeq (sIf (sOr (sNot (sT (xIsi "tuple" (xVar 0)))) (sNot (sT (xCh leD leD (xC (.int 1)) (xN lenD (yCons (xVar 0) yNil)) (xC (.int 52)))))) (sRet (xC (.bool false))) sNil)
  (sRet (xAnd (xN allD (yCons (xFz (yLc [1] (srcSeq (xVar 0)) (gN 1) sYes ce_is_pack_value_1)) yNil)) (xB eqD (xLenSet (xVar 0)) (xN lenD (yCons (xVar 0) yNil)))))
def m_is_pack_value : Fn := mkFn 2 1 g_is_pack_value
theorem u_is_pack_value {s0 : Sl} : m_is_pack_value [s0] = @bI _ _ (g_is_pack_value [s0, .em]) ⟨fun fl e => @oI _ _ (outOf [s0] e) ⟨fun out => fnK fl out⟩⟩ := mkFn_go rfl
include KX G0 c0 in
theorem ok_is_pack_value {fd : FuncData} (F : FunD K "is_pack_value" "is_pack_value" (defArgs s_is_pack_value) (defBody s_is_pack_value) (defScope s_is_pack_value) [] [] (He.fAd K ("is_pack_value", none)) fd) : FnG P w K mg base CX0 3 (He.fAd K ("is_pack_value", none)) fd ["value"] (spD K 1 m_is_pack_value) :=
  okD F S_is_pack_value fun cdv A outer s H hr hG =>
  hss_cons (hs_if (ht_w (hw_or (ht_not (ht_val (he_isi (T := "tuple") rfl bt_tuple rfl (fr_isinstance KX G0 c0) rfl (fr_tuple KX G0 c0) (he_var (pv 0))))) (hw_or1 (ht_not (ht_chain op_le op_le (reads_cmpI _) (reads_cmpI _) he_int (he_callB call_len_seq reads_len rfl (fr_len KX G0 c0) bt_len (ha_cons (he_var (pv 0)) ha_nil)) (he_mi (mi_MOST_CARDS KX G0 c0) rfl)))))) (hss_one (hs_ret he_bl)) hss_nil)
  (hss_one (hs_ret (he_and (he_callB (cr_all rfl) reads_all rfl (fr_all KX G0 c0) bt_all (ha_cons (he_of_fe (fe_lc (own := [("one", 1)]) (is := [1]) rfl S_is_pack_value.nd (hi_seq (he_var (pv 0))) bo_is_pack_value_1 (by decide) (by exact fun _ _ _ _ _ => hg_name (pg_name (i := 1) S_is_pack_value.nd rfl (Or.inl rfl))) (by exact fun _ _ _ _ _ => hts_nil) (by exact fun _ _ _ _ _ => he_call' (cal_is_within KX G0 c0) (hr.mono (by decide)) hG rfl (hr_cons (he_var (pv 1)) (hr_cons he_int (hr_cons (he_op op_sub reads_sub (he_callB call_len_seq reads_len rfl (fr_len KX G0 c0) bt_len (ha_cons (he_var (pv 0)) ha_nil)) he_int) hr_nil)))))) ha_nil)) (he_one (he_cmp (op_eqA hr.units) reads_eq (he_lenSet rfl rfl (fr_len KX G0 c0) rfl (fr_set KX G0 c0) (he_var (pv 0))) (he_callB call_len_seq reads_len rfl (fr_len KX G0 c0) bt_len (ha_cons (he_var (pv 0)) ha_nil)) (nomark _))))))
include KX G0 c0 in
theorem cal_is_pack_value : Cal P w K mg base 3 "is_pack_value" [.vl] m_is_pack_value := by
  obtain ⟨fd, F⟩ : ∃ fd, FunD K "is_pack_value" "is_pack_value" (defArgs s_is_pack_value) (defBody s_is_pack_value) (defScope s_is_pack_value) [] [] (He.fAd K ("is_pack_value", none)) fd := c0.def_ 3 (d := d_is_pack_value) rfl
  exact calD F (ok_is_pack_value KX G0 c0 F) (He.glo_ok KX G0 (c0.fact 3 (f := .glo "is_pack_value") rfl)) rfl fun _ _ _ _ _ _ us hl => match us, hl with | [_], _ => rfl
/-! want_move -/
theorem S_want_move : FnScope ["move"] ["move"] (defScope s_want_move) := ⟨rfl, rfl, rfl, by decide +kernel, rfl, by decide +kernel, by decide +kernel⟩
def g_want_move : Sx :=
  sIf (sNot (sT (xCall [.vl] m_is_pack_value (zCons (xVar 0) zNil)))) sNever sNil
def m_want_move : Fn := mkFn 1 1 g_want_move
theorem u_want_move {s0 : Sl} : m_want_move [s0] = @bI _ _ (g_want_move [s0]) ⟨fun fl e => @oI _ _ (outOf [s0] e) ⟨fun out => fnK fl out⟩⟩ := mkFn_go rfl
include KX G0 c0 in
theorem ok_want_move {fd : FuncData} (F : FunD K "want_move" "want_move" (defArgs s_want_move) (defBody s_want_move) (defScope s_want_move) [] [] (He.fAd K ("want_move", none)) fd) : FnG P w K mg base CX0 4 (He.fAd K ("want_move", none)) fd ["move"] (spD K 1 m_want_move) :=
  okD F S_want_move fun cdv A outer s H hr hG =>
  hss_one (hs_if (ht_not (ht_val (he_call' (cal_is_pack_value KX G0 c0) (hr.mono (by decide)) hG rfl (hr_cons (he_var (pv 0)) hr_nil)))) (hss_one hs_never) hss_nil)
include KX G0 c0 in
theorem cal_want_move : Cal P w K mg base 4 "want_move" [.vl] m_want_move := by
  obtain ⟨fd, F⟩ : ∃ fd, FunD K "want_move" "want_move" (defArgs s_want_move) (defBody s_want_move) (defScope s_want_move) [] [] (He.fAd K ("want_move", none)) fd := c0.def_ 5 (d := d_want_move) rfl
  exact calD F (ok_want_move KX G0 c0 F) (He.glo_ok KX G0 (c0.fact 5 (f := .glo "want_move") rfl)) rfl fun _ _ _ _ _ _ us hl => match us, hl with | [_], _ => rfl
/-! want_as_many -/
theorem S_want_as_many : FnScope ["pack", "move"] ["pack", "move"] (defScope s_want_as_many) := ⟨rfl, rfl, rfl, by decide +kernel, rfl, by decide +kernel, by decide +kernel⟩
def g_want_as_many : Sx :=
  sIf (sT (xB neD (xN lenD (yCons (xVar 0) yNil)) (xN lenD (yCons (xVar 1) yNil)))) sNever sNil
def m_want_as_many : Fn := mkFn 2 2 g_want_as_many
theorem u_want_as_many {s0 s1 : Sl} : m_want_as_many [s0, s1] = @bI _ _ (g_want_as_many [s0, s1]) ⟨fun fl e => @oI _ _ (outOf [s0, s1] e) ⟨fun out => fnK fl out⟩⟩ := mkFn_go rfl
include KX G0 c0 in
theorem ok_want_as_many {fd : FuncData} (F : FunD K "want_as_many" "want_as_many" (defArgs s_want_as_many) (defBody s_want_as_many) (defScope s_want_as_many) [] [] (He.fAd K ("want_as_many", none)) fd) : FnG P w K mg base CX0 1 (He.fAd K ("want_as_many", none)) fd ["pack", "move"] (spD K 2 m_want_as_many) :=
  okD F S_want_as_many fun cdv A outer s H hr hG =>
  hss_one (hs_if (ht_cmp (op_neA hr.units) reads_ne (he_callB call_len_seq reads_len rfl (fr_len KX G0 c0) bt_len (ha_cons (he_var (pv 0)) ha_nil)) (he_callB call_len_seq reads_len rfl (fr_len KX G0 c0) bt_len (ha_cons (he_var (pv 1)) ha_nil)) (nomark _)) (hss_one hs_never) hss_nil)
include KX G0 c0 in
theorem cal_want_as_many : Cal P w K mg base 1 "want_as_many" [.vl, .vl] m_want_as_many := by
  obtain ⟨fd, F⟩ : ∃ fd, FunD K "want_as_many" "want_as_many" (defArgs s_want_as_many) (defBody s_want_as_many) (defScope s_want_as_many) [] [] (He.fAd K ("want_as_many", none)) fd := c0.def_ 6 (d := d_want_as_many) rfl
  exact calD F (ok_want_as_many KX G0 c0 F) (He.glo_ok KX G0 (c0.fact 6 (f := .glo "want_as_many") rfl)) rfl fun _ _ _ _ _ _ us hl => match us, hl with | [_, _], _ => rfl
/-! moved_of -/
theorem S_moved_of : FnScope ["pack", "move", "place"] ["pack", "move"] (defScope s_moved_of) := ⟨rfl, rfl, rfl, by decide +kernel, rfl, by decide +kernel, by decide +kernel⟩
theorem bo_moved_of_1 : BlkOk ["pack", "move", "place"] (defScope s_moved_of) ⟨.function, [(".0", .local), ("place", .local), ("pack", .free)], false, false, []⟩ [("place", 2)] := ⟨rfl, by decide +kernel, by decide +kernel, by decide +kernel, by decide +kernel⟩
def ce_moved_of_1 : Ex :=
  xB ixD (xVar 0) (xVar 2)
def g_moved_of : Sx :=
  sRet (xN tupD (yCons (xFz (yLc [2] (srcSeq (xVar 1)) (gN 2) sYes ce_moved_of_1)) yNil))
def m_moved_of : Fn := mkFn 3 2 g_moved_of
theorem u_moved_of {s0 s1 : Sl} : m_moved_of [s0, s1] = @bI _ _ (g_moved_of [s0, s1, .em]) ⟨fun fl e => @oI _ _ (outOf [s0, s1] e) ⟨fun out => fnK fl out⟩⟩ := mkFn_go rfl
include KX G0 c0 in
theorem ok_moved_of {fd : FuncData} (F : FunD K "moved_of" "moved_of" (defArgs s_moved_of) (defBody s_moved_of) (defScope s_moved_of) [] [] (He.fAd K ("moved_of", none)) fd) : FnG P w K mg base CX0 1 (He.fAd K ("moved_of", none)) fd ["pack", "move"] (spD K 2 m_moved_of) :=
  okD F S_moved_of fun cdv A outer s H hr hG =>
  hss_one (hs_ret (he_callTy call_tupF reads_tup rfl (fr_tuple KX G0 c0) bt_tuple (ha_cons (he_of_fe (fe_lc (own := [("place", 2)]) (is := [2]) rfl S_moved_of.nd (hi_seq (he_var (pv 1))) bo_moved_of_1 (by decide) (by exact fun _ _ _ _ _ => hg_name (pg_name (i := 2) S_moved_of.nd rfl (Or.inl rfl))) (by exact fun _ _ _ _ _ => hts_nil) (by exact fun _ _ _ _ _ => he_ix (he_var (pv 0)) (he_var (pv 2)) (fun _ _ => rfl)))) ha_nil)))
include KX G0 c0 in
theorem cal_moved_of : Cal P w K mg base 1 "moved_of" [.vl, .vl] m_moved_of := by
  obtain ⟨fd, F⟩ : ∃ fd, FunD K "moved_of" "moved_of" (defArgs s_moved_of) (defBody s_moved_of) (defScope s_moved_of) [] [] (He.fAd K ("moved_of", none)) fd := c0.def_ 10 (d := d_moved_of) rfl
  exact calD F (ok_moved_of KX G0 c0 F) (He.glo_ok KX G0 (c0.fact 10 (f := .glo "moved_of") rfl)) rfl fun _ _ _ _ _ _ us hl => match us, hl with | [_, _], _ => rfl
/-! behind -/
theorem S_behind : FnScope ["move", "other"] ["move", "other"] (defScope s_behind) := ⟨rfl, rfl, rfl, by decide +kernel, rfl, by decide +kernel, by decide +kernel⟩
def g_behind : Sx :=
  sSeq (sDrop (xCall [.vl] m_want_move (zCons (xVar 0) zNil)))
  (sSeq (sDrop (xCall [.vl] m_want_move (zCons (xVar 1) zNil)))
  (sSeq (sDrop (xCall [.vl, .vl] m_want_as_many (zCons (xVar 0) (zCons (xVar 1) zNil))))
  (sRet (xCall [.vl, .vl] m_moved_of (zCons (xVar 0) (zCons (xVar 1) zNil))))))
def m_behind : Fn := mkFn 2 2 g_behind
theorem u_behind {s0 s1 : Sl} : m_behind [s0, s1] = @bI _ _ (g_behind [s0, s1]) ⟨fun fl e => @oI _ _ (outOf [s0, s1] e) ⟨fun out => fnK fl out⟩⟩ := mkFn_go rfl
include KX G0 c0 in
theorem ok_behind {fd : FuncData} (F : FunD K "behind" "behind" (defArgs s_behind) (defBody s_behind) (defScope s_behind) [] [] (He.fAd K ("behind", none)) fd) : FnG P w K mg base CX0 5 (He.fAd K ("behind", none)) fd ["move", "other"] (spD K 2 m_behind) :=
  okD F S_behind fun cdv A outer s H hr hG =>
  hss_cons (hs_expr (he_call' (cal_want_move KX G0 c0) (hr.mono (by decide)) hG rfl (hr_cons (he_var (pv 0)) hr_nil)))
  (hss_cons (hs_expr (he_call' (cal_want_move KX G0 c0) (hr.mono (by decide)) hG rfl (hr_cons (he_var (pv 1)) hr_nil)))
  (hss_cons (hs_expr (he_call' (cal_want_as_many KX G0 c0) (hr.mono (by decide)) hG rfl (hr_cons (he_var (pv 0)) (hr_cons (he_var (pv 1)) hr_nil))))
  (hss_one (hs_ret (he_call' (cal_moved_of KX G0 c0) (hr.mono (by decide)) hG rfl (hr_cons (he_var (pv 0)) (hr_cons (he_var (pv 1)) hr_nil)))))))
include KX G0 c0 in
theorem cal_behind : Cal P w K mg base 5 "behind" [.vl, .vl] m_behind := by
  obtain ⟨fd, F⟩ : ∃ fd, FunD K "behind" "behind" (defArgs s_behind) (defBody s_behind) (defScope s_behind) [] [] (He.fAd K ("behind", none)) fd := c0.def_ 18 (d := d_behind) rfl
  exact calD F (ok_behind KX G0 c0 F) (He.glo_ok KX G0 (c0.fact 18 (f := .glo "behind") rfl)) rfl fun _ _ _ _ _ _ us hl => match us, hl with | [_, _], _ => rfl
/-! _law_pick -/
theorem S__law_pick : FnScope ["pot", "some"] ["pot", "some"] (defScope s__law_pick) := ⟨rfl, rfl, rfl, by decide +kernel, rfl, by decide +kernel, by decide +kernel⟩
def g__law_pick : Sx :=
  sRet (xB ixD (xVar 1) (xCall [.mu, .vl] m__law_draw (zCons (xVar 0) (zCons (xN lenD (yCons (xVar 1) yNil)) zNil))))
def m__law_pick : Fn := mkFn 2 2 g__law_pick
theorem u__law_pick {s0 s1 : Sl} : m__law_pick [s0, s1] = @bI _ _ (g__law_pick [s0, s1]) ⟨fun fl e => @oI _ _ (outOf [s0, s1] e) ⟨fun out => fnK fl out⟩⟩ := mkFn_go rfl
include KX G0 c0 in
theorem ok__law_pick {fd : FuncData} (F : FunD K "_law_pick" "_law_pick" (defArgs s__law_pick) (defBody s__law_pick) (defScope s__law_pick) [] [] (He.fAd K ("_law_pick", none)) fd) : FnG P w K mg base CX0 2 (He.fAd K ("_law_pick", none)) fd ["pot", "some"] (spD K 2 m__law_pick) :=
  okD F S__law_pick fun cdv A outer s H hr hG =>
  hss_one (hs_ret (he_ix (he_var (pv 1)) (he_call' (cal__law_draw KX G0 c0) (hr.mono (by decide)) hG rfl (hr_cons (he_var (pv 0)) (hr_cons (he_callB call_len_seq reads_len rfl (fr_len KX G0 c0) bt_len (ha_cons (he_var (pv 1)) ha_nil)) hr_nil))) (fun _ _ => rfl)))
include KX G0 c0 in
theorem cal__law_pick : Cal P w K mg base 2 "_law_pick" [.mu, .vl] m__law_pick := by
  obtain ⟨fd, F⟩ : ∃ fd, FunD K "_law_pick" "_law_pick" (defArgs s__law_pick) (defBody s__law_pick) (defScope s__law_pick) [] [] (He.fAd K ("_law_pick", none)) fd := c0.def_ 32 (d := d__law_pick) rfl
  exact calD F (ok__law_pick KX G0 c0 F) (He.glo_ok KX G0 (c0.fact 32 (f := .glo "_law_pick") rfl)) rfl fun _ _ _ _ _ _ us hl => match us, hl with | [_, _], _ => rfl
/-! _law_cards -/
theorem S__law_cards : FnScope ["pot"] ["pot"] (defScope s__law_cards) := ⟨rfl, rfl, rfl, by decide +kernel, rfl, by decide +kernel, by decide +kernel⟩
def g__law_cards : Sx :=
  sRet (xB addD (xC (.int 1)) (xCall [.mu, .vl] m__law_draw (zCons (xVar 0) (zCons (xCall [.mu, .vl] m__law_pick (zCons (xVar 0) (zCons (xFz (yLst (yCons (xC (.int 3)) (yCons (xC (.int 8)) (yCons (xC (.int 52)) yNil))))) zNil))) zNil))))
def m__law_cards : Fn := mkFn 1 1 g__law_cards
theorem u__law_cards {s0 : Sl} : m__law_cards [s0] = @bI _ _ (g__law_cards [s0]) ⟨fun fl e => @oI _ _ (outOf [s0] e) ⟨fun out => fnK fl out⟩⟩ := mkFn_go rfl
include KX G0 c0 in
theorem ok__law_cards {fd : FuncData} (F : FunD K "_law_cards" "_law_cards" (defArgs s__law_cards) (defBody s__law_cards) (defScope s__law_cards) [] [] (He.fAd K ("_law_cards", none)) fd) : FnG P w K mg base CX0 3 (He.fAd K ("_law_cards", none)) fd ["pot"] (spD K 1 m__law_cards) :=
  okD F S__law_cards fun cdv A outer s H hr hG =>
  hss_one (hs_ret (he_op op_addD reads_add he_int (he_call' (cal__law_draw KX G0 c0) (hr.mono (by decide)) hG rfl (hr_cons (he_var (pv 0)) (hr_cons (he_call' (cal__law_pick KX G0 c0) (hr.mono (by decide)) hG rfl (hr_cons (he_var (pv 0)) (hr_cons (he_of_fe (fe_lst (ha_cons he_int (ha_cons he_int (ha_cons he_int ha_nil))))) hr_nil))) hr_nil)))))
include KX G0 c0 in
theorem cal__law_cards : Cal P w K mg base 3 "_law_cards" [.mu] m__law_cards := by
  obtain ⟨fd, F⟩ : ∃ fd, FunD K "_law_cards" "_law_cards" (defArgs s__law_cards) (defBody s__law_cards) (defScope s__law_cards) [] [] (He.fAd K ("_law_cards", none)) fd := c0.def_ 36 (d := d__law_cards) rfl
  exact calD F (ok__law_cards KX G0 c0 F) (He.glo_ok KX G0 (c0.fact 36 (f := .glo "_law_cards") rfl)) rfl fun _ _ _ _ _ _ us hl => match us, hl with | [_], _ => rfl
/-! _law_step -/
theorem S__law_step : FnScope ["pot"] ["pot"] (defScope s__law_step) := ⟨rfl, rfl, rfl, by decide +kernel, rfl, by decide +kernel, by decide +kernel⟩
def g__law_step : Sx :=
  sRet (xB addD (xC (.int 1)) (xCall [.mu, .vl] m__law_draw (zCons (xVar 0) (zCons (xCall [.mu, .vl] m__law_pick (zCons (xVar 0) (zCons (xFz (yLst (yCons (xC (.int 3)) (yCons (xC (.int 12)) (yCons (xC (.int 52)) (yCons (xC (.int 1000)) (yCons (xB powD (xC (.int 10)) (xC (.int 30))) yNil))))))) zNil))) zNil))))
def m__law_step : Fn := mkFn 1 1 g__law_step
theorem u__law_step {s0 : Sl} : m__law_step [s0] = @bI _ _ (g__law_step [s0]) ⟨fun fl e => @oI _ _ (outOf [s0] e) ⟨fun out => fnK fl out⟩⟩ := mkFn_go rfl
include KX G0 c0 in
theorem ok__law_step {fd : FuncData} (F : FunD K "_law_step" "_law_step" (defArgs s__law_step) (defBody s__law_step) (defScope s__law_step) [] [] (He.fAd K ("_law_step", none)) fd) : FnG P w K mg base CX0 3 (He.fAd K ("_law_step", none)) fd ["pot"] (spD K 1 m__law_step) :=
  okD F S__law_step fun cdv A outer s H hr hG =>
  hss_one (hs_ret (he_op op_addD reads_add he_int (he_call' (cal__law_draw KX G0 c0) (hr.mono (by decide)) hG rfl (hr_cons (he_var (pv 0)) (hr_cons (he_call' (cal__law_pick KX G0 c0) (hr.mono (by decide)) hG rfl (hr_cons (he_var (pv 0)) (hr_cons (he_of_fe (fe_lst (ha_cons he_int (ha_cons he_int (ha_cons he_int (ha_cons he_int (ha_cons (he_op op_pow reads_pow he_int he_int) ha_nil))))))) hr_nil))) hr_nil)))))
include KX G0 c0 in
theorem cal__law_step : Cal P w K mg base 3 "_law_step" [.mu] m__law_step := by
  obtain ⟨fd, F⟩ : ∃ fd, FunD K "_law_step" "_law_step" (defArgs s__law_step) (defBody s__law_step) (defScope s__law_step) [] [] (He.fAd K ("_law_step", none)) fd := c0.def_ 37 (d := d__law_step) rfl
  exact calD F (ok__law_step KX G0 c0 F) (He.glo_ok KX G0 (c0.fact 37 (f := .glo "_law_step") rfl)) rfl fun _ _ _ _ _ _ us hl => match us, hl with | [_], _ => rfl
/-! _law_is -/
theorem S__law_is : FnScope ["told", "due", "alike", "at"] ["told", "due"] (defScope s__law_is) := ⟨rfl, rfl, rfl, by decide +kernel, rfl, by decide +kernel, by decide +kernel⟩
theorem bo__law_is_1 : BlkOk ["told", "due", "alike", "at"] (defScope s__law_is) ⟨.function, [(".0", .local), ("at", .local), ("_law_is", .globalImplicit), ("due", .free), ("told", .free)], false, false, []⟩ [("at", 3)] := ⟨rfl, by decide +kernel, by decide +kernel, by decide +kernel, by decide +kernel⟩
def ck__law_is_1 (r : Fn) : Ts :=
  sNot (sT (xCall [.vl, .vl] r (zCons (xB ixD (xVar 0) (xVar 3)) (zCons (xB ixD (xVar 1) (xVar 3)) zNil))))
def ce__law_is_2 (r : Fn) : Ex :=
  xVar 3
def g__law_is (r : Fn) : Sx :=
  sSeq (sIf (sT (xB isO (xVar 1) (xC .none))) (sRet (xB isO (xVar 0) (xC .none))) sNil)
  (sSeq (sIf (sT (xIsi "bool" (xVar 1))) (sRet (xAnd (xIsi "bool" (xVar 0)) (xB eqD (xVar 0) (xVar 1)))) sNil)
  (sSeq (sIf (sT (xIsi "int" (xVar 1))) (sRet (xAnd (xIsi "int" (xVar 0)) (xAnd (xNot (xIsi "bool" (xVar 0))) (xB eqD (xVar 0) (xVar 1))))) sNil)
  (sSeq (sIf (sT (xIsi "str" (xVar 1))) (sRet (xAnd (xIsi "str" (xVar 0)) (xB eqD (xVar 0) (xVar 1)))) sNil)
  (sSeq (sSet 2 (xIf (sT (xIsi "list" (xVar 1))) (xIsi "list" (xVar 0)) (xIsi "tuple" (xVar 0))))
  (sSeq (sIf (sOr (sNot (sT (xVar 2))) (sT (xB neD (xN lenD (yCons (xVar 0) yNil)) (xN lenD (yCons (xVar 1) yNil))))) (sRet (xC (.bool false))) sNil)
  (sRet (xB eqD (xFz (yLc [3] (srcR1 (xN lenD (yCons (xVar 1) yNil))) (gN 3) (ck__law_is_1 r) (ce__law_is_2 r))) (xFz (yLst yNil)))))))))
def m__law_is : Nat → Fn
  | 0 => fun _ => none
  | k + 1 => mkFn 4 2 (g__law_is (m__law_is k))
theorem u__law_is {k : Nat} {s0 s1 : Sl} : m__law_is (k + 1) [s0, s1] = @bI _ _ (g__law_is (m__law_is k) [s0, s1, .em, .em]) ⟨fun fl e => @oI _ _ (outOf [s0, s1] e) ⟨fun out => fnK fl out⟩⟩ := mkFn_go rfl
include KX G0 c0 in
theorem ok__law_is {fd : FuncData} {r : Fn} {k : Nat} (F : FunD K "_law_is" "_law_is" (defArgs s__law_is) (defBody s__law_is) (defScope s__law_is) [] [] (He.fAd K ("_law_is", none)) fd) (ih : Cal P w K mg base (k + 0) "_law_is" [.vl, .vl] r) : FnG P w K mg base CX0 (k + 1) (He.fAd K ("_law_is", none)) fd ["told", "due"] (spD K 2 (mkFn 4 2 (g__law_is r))) :=
  okD F S__law_is fun cdv A outer s H hr hG =>
  hss_cons (hs_if (ht_cmp op_isA reads_is (he_var (pv 1)) he_non (nomark _)) (hss_one (hs_ret (he_cmp op_isA reads_is (he_var (pv 0)) he_non (nomark _)))) hss_nil)
  (hss_cons (hs_if (ht_val (he_isi (T := "bool") rfl bt_bool rfl (fr_isinstance KX G0 c0) rfl (fr_bool KX G0 c0) (he_var (pv 1)))) (hss_one (hs_ret (he_and (he_isi (T := "bool") rfl bt_bool rfl (fr_isinstance KX G0 c0) rfl (fr_bool KX G0 c0) (he_var (pv 0))) (he_one (he_cmp (op_eqA hr.units) reads_eq (he_var (pv 0)) (he_var (pv 1)) (nomark _)))))) hss_nil)
  (hss_cons (hs_if (ht_val (he_isi (T := "int") rfl bt_int rfl (fr_isinstance KX G0 c0) rfl (fr_int KX G0 c0) (he_var (pv 1)))) (hss_one (hs_ret (he_and (he_isi (T := "int") rfl bt_int rfl (fr_isinstance KX G0 c0) rfl (fr_int KX G0 c0) (he_var (pv 0))) (he_and (he_not (he_isi (T := "bool") rfl bt_bool rfl (fr_isinstance KX G0 c0) rfl (fr_bool KX G0 c0) (he_var (pv 0)))) (he_one (he_cmp (op_eqA hr.units) reads_eq (he_var (pv 0)) (he_var (pv 1)) (nomark _))))))) hss_nil)
  (hss_cons (hs_if (ht_val (he_isi (T := "str") rfl bt_str rfl (fr_isinstance KX G0 c0) rfl (fr_str KX G0 c0) (he_var (pv 1)))) (hss_one (hs_ret (he_and (he_isi (T := "str") rfl bt_str rfl (fr_isinstance KX G0 c0) rfl (fr_str KX G0 c0) (he_var (pv 0))) (he_one (he_cmp (op_eqA hr.units) reads_eq (he_var (pv 0)) (he_var (pv 1)) (nomark _)))))) hss_nil)
  (hss_cons (hs_set (i := 2) S__law_is.nd rfl (Or.inl rfl) (he_if (ht_val (he_isi (T := "list") rfl bt_list rfl (fr_isinstance KX G0 c0) rfl (fr_list KX G0 c0) (he_var (pv 1)))) (he_isi (T := "list") rfl bt_list rfl (fr_isinstance KX G0 c0) rfl (fr_list KX G0 c0) (he_var (pv 0))) (he_isi (T := "tuple") rfl bt_tuple rfl (fr_isinstance KX G0 c0) rfl (fr_tuple KX G0 c0) (he_var (pv 0)))))
  (hss_cons (hs_if (ht_w (hw_or (ht_not (ht_val (he_var (pv 2)))) (hw_or1 (ht_cmp (op_neA hr.units) reads_ne (he_callB call_len_seq reads_len rfl (fr_len KX G0 c0) bt_len (ha_cons (he_var (pv 0)) ha_nil)) (he_callB call_len_seq reads_len rfl (fr_len KX G0 c0) bt_len (ha_cons (he_var (pv 1)) ha_nil)) (nomark _))))) (hss_one (hs_ret he_bl)) hss_nil)
  (hss_one (hs_ret (he_cmp (op_eqA hr.units) reads_eq (he_of_fe (fe_lc (own := [("at", 3)]) (is := [3]) rfl S__law_is.nd (hi_range1 rfl (fr_range KX G0 c0) (he_callB call_len_seq reads_len rfl (fr_len KX G0 c0) bt_len (ha_cons (he_var (pv 1)) ha_nil))) bo__law_is_1 (by decide) (by exact fun _ _ _ _ _ => hg_name (pg_name (i := 3) S__law_is.nd rfl (Or.inl rfl))) (by exact fun _ _ _ _ _ => hts_one (ht_not (ht_val (he_call' ih hr hG rfl (hr_cons (he_ix (he_var (pv 0)) (he_var (pv 3)) (fun _ _ => rfl)) (hr_cons (he_ix (he_var (pv 1)) (he_var (pv 3)) (fun _ _ => rfl)) hr_nil)))))) (by exact fun _ _ _ _ _ => he_var (pv 3)))) (he_of_fe (fe_lst ha_nil)) (nomark _)))))))))
include KX G0 c0 in
theorem cal__law_is : ∀ k : Nat, Cal P w K mg base (k + 0) "_law_is" [.vl, .vl] (m__law_is k)
  | 0 => by
    obtain ⟨fd, F⟩ : ∃ fd, FunD K "_law_is" "_law_is" (defArgs s__law_is) (defBody s__law_is) (defScope s__law_is) [] [] (He.fAd K ("_law_is", none)) fd := c0.def_ 33 (d := d__law_is) rfl
    exact calNone ⟨_, He.glo_ok KX G0 (c0.fact 33 (f := .glo "_law_is") rfl), F.kp⟩ rfl
  | k + 1 => by
    obtain ⟨fd, F⟩ : ∃ fd, FunD K "_law_is" "_law_is" (defArgs s__law_is) (defBody s__law_is) (defScope s__law_is) [] [] (He.fAd K ("_law_is", none)) fd := c0.def_ 33 (d := d__law_is) rfl
    have q := calD F (ok__law_is KX G0 c0 F (cal__law_is k)) (He.glo_ok KX G0 (c0.fact 33 (f := .glo "_law_is") rfl)) (ms := [.vl, .vl]) rfl fun _ _ _ _ _ _ us hl => match us, hl with | [_, _], _ => rfl
    exact (show k + 1 = k + 1 + 0 by omega) ▸ q
/-! want_pack -/
theorem S_want_pack : FnScope ["pack"] ["pack"] (defScope s_want_pack) := ⟨rfl, rfl, rfl, by decide +kernel, rfl, by decide +kernel, by decide +kernel⟩
def g_want_pack : Sx :=
  sIf (sNot (sT (xCall [.vl] m_is_pack_value (zCons (xVar 0) zNil)))) sNever sNil
def m_want_pack : Fn := mkFn 1 1 g_want_pack
theorem u_want_pack {s0 : Sl} : m_want_pack [s0] = @bI _ _ (g_want_pack [s0]) ⟨fun fl e => @oI _ _ (outOf [s0] e) ⟨fun out => fnK fl out⟩⟩ := mkFn_go rfl
include KX G0 c0 in
theorem ok_want_pack {fd : FuncData} (F : FunD K "want_pack" "want_pack" (defArgs s_want_pack) (defBody s_want_pack) (defScope s_want_pack) [] [] (He.fAd K ("want_pack", none)) fd) : FnG P w K mg base CX0 4 (He.fAd K ("want_pack", none)) fd ["pack"] (spD K 1 m_want_pack) :=
  okD F S_want_pack fun cdv A outer s H hr hG =>
  hss_one (hs_if (ht_not (ht_val (he_call' (cal_is_pack_value KX G0 c0) (hr.mono (by decide)) hG rfl (hr_cons (he_var (pv 0)) hr_nil)))) (hss_one hs_never) hss_nil)
include KX G0 c0 in
theorem cal_want_pack : Cal P w K mg base 4 "want_pack" [.vl] m_want_pack := by
  obtain ⟨fd, F⟩ : ∃ fd, FunD K "want_pack" "want_pack" (defArgs s_want_pack) (defBody s_want_pack) (defScope s_want_pack) [] [] (He.fAd K ("want_pack", none)) fd := c0.def_ 4 (d := d_want_pack) rfl
  exact calD F (ok_want_pack KX G0 c0 F) (He.glo_ok KX G0 (c0.fact 4 (f := .glo "want_pack") rfl)) rfl fun _ _ _ _ _ _ us hl => match us, hl with | [_], _ => rfl
/-! back_of -/
theorem S_back_of : FnScope ["move", "found", "place", "one"] ["move"] (defScope s_back_of) := ⟨rfl, rfl, rfl, by decide +kernel, rfl, by decide +kernel, by decide +kernel⟩
def fb_back_of_1 : Sx :=
  sAsg (xVar 2) (gSubT 1 (xVar 3))
def g_back_of : Sx :=
  sSeq (sSetO 1 (yB repL (xFz (yLst (yCons (xC (.int 0)) yNil))) (xN lenD (yCons (xVar 0) yNil))))
  (sSeq (sFor (srcEn (xVar 0)) (gT 2 (gsCons (gN 2) (gsCons (gN 3) gsNil))) fb_back_of_1)
  (sRet (xN tupD (yCons (xVar 1) yNil))))
def m_back_of : Fn := mkFn 4 1 g_back_of
theorem u_back_of {s0 : Sl} : m_back_of [s0] = @bI _ _ (g_back_of [s0, .em, .em, .em]) ⟨fun fl e => @oI _ _ (outOf [s0] e) ⟨fun out => fnK fl out⟩⟩ := mkFn_go rfl
include KX G0 c0 in
theorem ok_back_of {fd : FuncData} (F : FunD K "back_of" "back_of" (defArgs s_back_of) (defBody s_back_of) (defScope s_back_of) [] [] (He.fAd K ("back_of", none)) fd) : FnG P w K mg base CX0 1 (He.fAd K ("back_of", none)) fd ["move"] (spD K 1 m_back_of) :=
  okD F S_back_of fun cdv A outer s H hr hG =>
  hss_cons (hs_setO (i := 1) S_back_of.nd rfl (Or.inl rfl) (fe_op op_rep reads_repL (he_of_fe (fe_lst (ha_cons he_int ha_nil))) (he_callB call_len_seq reads_len rfl (fr_len KX G0 c0) bt_len (ha_cons (he_var (pv 0)) ha_nil))))
  (hss_cons (hs_for PassesOwn.never rfl (hi_enum rfl (fr_enumerate KX G0 c0) (he_var (pv 0))) (hg_tup rfl (hgs_cons (hg_name (pg_name (i := 2) S_back_of.nd rfl (Or.inl rfl))) (hgs_cons (hg_name (pg_name (i := 3) S_back_of.nd rfl (Or.inl rfl))) hgs_nil))) (hss_one (hs_asg (he_var (pv 2)) (hg_sub (pv 1) (he_var (pv 3))))))
  (hss_one (hs_ret (he_callTy call_tupF reads_tup rfl (fr_tuple KX G0 c0) bt_tuple (ha_cons (he_var (pv 1)) ha_nil)))))
include KX G0 c0 in
theorem cal_back_of : Cal P w K mg base 1 "back_of" [.vl] m_back_of := by
  obtain ⟨fd, F⟩ : ∃ fd, FunD K "back_of" "back_of" (defArgs s_back_of) (defBody s_back_of) (defScope s_back_of) [] [] (He.fAd K ("back_of", none)) fd := c0.def_ 11 (d := d_back_of) rfl
  exact calD F (ok_back_of KX G0 c0 F) (He.glo_ok KX G0 (c0.fact 11 (f := .glo "back_of") rfl)) rfl fun _ _ _ _ _ _ us hl => match us, hl with | [_], _ => rfl
/-! prepared -/
theorem S_prepared : FnScope ["pack", "step"] ["pack", "step"] (defScope s_prepared) := ⟨rfl, rfl, rfl, by decide +kernel, rfl, by decide +kernel, by decide +kernel⟩
def g_prepared : Sx :=
  sSeq (sDrop (xCall [.vl] m_want_pack (zCons (xVar 0) zNil)))
  (sSeq (sDrop (xCall [.vl] md_want_step (zCons (xVar 1) zNil)))
  (sRet (xCall [.vl, .vl] m_moved_of (zCons (xVar 0) (zCons (xCall [.vl] m_back_of (zCons (xCall [.vl, .vl] m_move_of_deal (zCons (xN lenD (yCons (xVar 0) yNil)) (zCons (xVar 1) zNil))) zNil)) zNil)))))
def m_prepared : Fn := mkFn 2 2 g_prepared
theorem u_prepared {s0 s1 : Sl} : m_prepared [s0, s1] = @bI _ _ (g_prepared [s0, s1]) ⟨fun fl e => @oI _ _ (outOf [s0, s1] e) ⟨fun out => fnK fl out⟩⟩ := mkFn_go rfl
include KX G0 c0 in
theorem ok_prepared {fd : FuncData} (F : FunD K "prepared" "prepared" (defArgs s_prepared) (defBody s_prepared) (defScope s_prepared) [] [] (He.fAd K ("prepared", none)) fd) : FnG P w K mg base CX0 5 (He.fAd K ("prepared", none)) fd ["pack", "step"] (spD K 2 m_prepared) :=
  okD F S_prepared fun cdv A outer s H hr hG =>
  hss_cons (hs_expr (he_call' (cal_want_pack KX G0 c0) (hr.mono (by decide)) hG rfl (hr_cons (he_var (pv 0)) hr_nil)))
  (hss_cons (hs_expr (he_call' (cald_want_step KX G0 c0) (hr.mono (by decide)) hG rfl (hr_cons (he_var (pv 1)) hr_nil)))
  (hss_one (hs_ret (he_call' (cal_moved_of KX G0 c0) (hr.mono (by decide)) hG rfl (hr_cons (he_var (pv 0)) (hr_cons (he_call' (cal_back_of KX G0 c0) (hr.mono (by decide)) hG rfl (hr_cons (he_call' (cal_move_of_deal KX G0 c0) (hr.mono (by decide)) hG rfl (hr_cons (he_callB call_len_seq reads_len rfl (fr_len KX G0 c0) bt_len (ha_cons (he_var (pv 0)) ha_nil)) (hr_cons (he_var (pv 1)) hr_nil))) hr_nil)) hr_nil))))))
include KX G0 c0 in
theorem cal_prepared : Cal P w K mg base 5 "prepared" [.vl, .vl] m_prepared := by
  obtain ⟨fd, F⟩ : ∃ fd, FunD K "prepared" "prepared" (defArgs s_prepared) (defBody s_prepared) (defScope s_prepared) [] [] (He.fAd K ("prepared", none)) fd := c0.def_ 28 (d := d_prepared) rfl
  exact calD F (ok_prepared KX G0 c0 F) (He.glo_ok KX G0 (c0.fact 28 (f := .glo "prepared") rfl)) rfl fun _ _ _ _ _ _ us hl => match us, hl with | [_, _], _ => rfl
include KX G0 c0 in
theorem calk_prepared_step_pack : CalK P w K mg base 5 "prepared" ["step", "pack"] [1, 0] [.vl, .vl] m_prepared := by
  obtain ⟨fd, F⟩ : ∃ fd, FunD K "prepared" "prepared" (defArgs s_prepared) (defBody s_prepared) (defScope s_prepared) [] [] (He.fAd K ("prepared", none)) fd := c0.def_ 28 (d := d_prepared) rfl
  exact calKD F (ok_prepared KX G0 c0 F) (He.glo_ok KX G0 (c0.fact 28 (f := .glo "prepared") rfl)) rfl rfl fun _ _ _ _ _ _ us hl => match us, hl with | [_, _], _ => rfl
/-! back -/
theorem S_back : FnScope ["move"] ["move"] (defScope s_back) := ⟨rfl, rfl, rfl, by decide +kernel, rfl, by decide +kernel, by decide +kernel⟩
def g_back : Sx :=
  sSeq (sDrop (xCall [.vl] m_want_move (zCons (xVar 0) zNil)))
  (sRet (xCall [.vl] m_back_of (zCons (xVar 0) zNil)))
def m_back : Fn := mkFn 1 1 g_back
theorem u_back {s0 : Sl} : m_back [s0] = @bI _ _ (g_back [s0]) ⟨fun fl e => @oI _ _ (outOf [s0] e) ⟨fun out => fnK fl out⟩⟩ := mkFn_go rfl
include KX G0 c0 in
theorem ok_back {fd : FuncData} (F : FunD K "back" "back" (defArgs s_back) (defBody s_back) (defScope s_back) [] [] (He.fAd K ("back", none)) fd) : FnG P w K mg base CX0 5 (He.fAd K ("back", none)) fd ["move"] (spD K 1 m_back) :=
  okD F S_back fun cdv A outer s H hr hG =>
  hss_cons (hs_expr (he_call' (cal_want_move KX G0 c0) (hr.mono (by decide)) hG rfl (hr_cons (he_var (pv 0)) hr_nil)))
  (hss_one (hs_ret (he_call' (cal_back_of KX G0 c0) (hr.mono (by decide)) hG rfl (hr_cons (he_var (pv 0)) hr_nil))))
include KX G0 c0 in
theorem cal_back : Cal P w K mg base 5 "back" [.vl] m_back := by
  obtain ⟨fd, F⟩ : ∃ fd, FunD K "back" "back" (defArgs s_back) (defBody s_back) (defScope s_back) [] [] (He.fAd K ("back", none)) fd := c0.def_ 19 (d := d_back) rfl
  exact calD F (ok_back KX G0 c0 F) (He.glo_ok KX G0 (c0.fact 19 (f := .glo "back") rfl)) rfl fun _ _ _ _ _ _ us hl => match us, hl with | [_], _ => rfl
/-! moved -/
theorem S_moved : FnScope ["pack", "move"] ["pack", "move"] (defScope s_moved) := ⟨rfl, rfl, rfl, by decide +kernel, rfl, by decide +kernel, by decide +kernel⟩
def g_moved : Sx :=
  sSeq (sDrop (xCall [.vl] m_want_pack (zCons (xVar 0) zNil)))
  (sSeq (sDrop (xCall [.vl] m_want_move (zCons (xVar 1) zNil)))
  (sSeq (sDrop (xCall [.vl, .vl] m_want_as_many (zCons (xVar 0) (zCons (xVar 1) zNil))))
  (sRet (xCall [.vl, .vl] m_moved_of (zCons (xVar 0) (zCons (xVar 1) zNil))))))
def m_moved : Fn := mkFn 2 2 g_moved
theorem u_moved {s0 s1 : Sl} : m_moved [s0, s1] = @bI _ _ (g_moved [s0, s1]) ⟨fun fl e => @oI _ _ (outOf [s0, s1] e) ⟨fun out => fnK fl out⟩⟩ := mkFn_go rfl
include KX G0 c0 in
theorem ok_moved {fd : FuncData} (F : FunD K "moved" "moved" (defArgs s_moved) (defBody s_moved) (defScope s_moved) [] [] (He.fAd K ("moved", none)) fd) : FnG P w K mg base CX0 5 (He.fAd K ("moved", none)) fd ["pack", "move"] (spD K 2 m_moved) :=
  okD F S_moved fun cdv A outer s H hr hG =>
  hss_cons (hs_expr (he_call' (cal_want_pack KX G0 c0) (hr.mono (by decide)) hG rfl (hr_cons (he_var (pv 0)) hr_nil)))
  (hss_cons (hs_expr (he_call' (cal_want_move KX G0 c0) (hr.mono (by decide)) hG rfl (hr_cons (he_var (pv 1)) hr_nil)))
  (hss_cons (hs_expr (he_call' (cal_want_as_many KX G0 c0) (hr.mono (by decide)) hG rfl (hr_cons (he_var (pv 0)) (hr_cons (he_var (pv 1)) hr_nil))))
  (hss_one (hs_ret (he_call' (cal_moved_of KX G0 c0) (hr.mono (by decide)) hG rfl (hr_cons (he_var (pv 0)) (hr_cons (he_var (pv 1)) hr_nil)))))))
include KX G0 c0 in
theorem cal_moved : Cal P w K mg base 5 "moved" [.vl, .vl] m_moved := by
  obtain ⟨fd, F⟩ : ∃ fd, FunD K "moved" "moved" (defArgs s_moved) (defBody s_moved) (defScope s_moved) [] [] (He.fAd K ("moved", none)) fd := c0.def_ 17 (d := d_moved) rfl
  exact calD F (ok_moved KX G0 c0 F) (He.glo_ok KX G0 (c0.fact 17 (f := .glo "moved") rfl)) rfl fun _ _ _ _ _ _ us hl => match us, hl with | [_, _], _ => rfl
/-! deal_sequence -/
theorem S_deal_sequence : FnScope ["pack", "step"] ["pack", "step"] (defScope s_deal_sequence) := ⟨rfl, rfl, rfl, by decide +kernel, rfl, by decide +kernel, by decide +kernel⟩
def g_deal_sequence : Sx :=
  sSeq (sDrop (xCall [.vl] m_want_pack (zCons (xVar 0) zNil)))
  (sSeq (sDrop (xCall [.vl] md_want_step (zCons (xVar 1) zNil)))
  (sRet (xCall [.vl, .vl] m_moved_of (zCons (xVar 0) (zCons (xCall [.vl, .vl] m_move_of_deal (zCons (xN lenD (yCons (xVar 0) yNil)) (zCons (xVar 1) zNil))) zNil)))))
def m_deal_sequence : Fn := mkFn 2 2 g_deal_sequence
theorem u_deal_sequence {s0 s1 : Sl} : m_deal_sequence [s0, s1] = @bI _ _ (g_deal_sequence [s0, s1]) ⟨fun fl e => @oI _ _ (outOf [s0, s1] e) ⟨fun out => fnK fl out⟩⟩ := mkFn_go rfl
include KX G0 c0 in
theorem ok_deal_sequence {fd : FuncData} (F : FunD K "deal_sequence" "deal_sequence" (defArgs s_deal_sequence) (defBody s_deal_sequence) (defScope s_deal_sequence) [] [] (He.fAd K ("deal_sequence", none)) fd) : FnG P w K mg base CX0 5 (He.fAd K ("deal_sequence", none)) fd ["pack", "step"] (spD K 2 m_deal_sequence) :=
  okD F S_deal_sequence fun cdv A outer s H hr hG =>
  hss_cons (hs_expr (he_call' (cal_want_pack KX G0 c0) (hr.mono (by decide)) hG rfl (hr_cons (he_var (pv 0)) hr_nil)))
  (hss_cons (hs_expr (he_call' (cald_want_step KX G0 c0) (hr.mono (by decide)) hG rfl (hr_cons (he_var (pv 1)) hr_nil)))
  (hss_one (hs_ret (he_call' (cal_moved_of KX G0 c0) (hr.mono (by decide)) hG rfl (hr_cons (he_var (pv 0)) (hr_cons (he_call' (cal_move_of_deal KX G0 c0) (hr.mono (by decide)) hG rfl (hr_cons (he_callB call_len_seq reads_len rfl (fr_len KX G0 c0) bt_len (ha_cons (he_var (pv 0)) ha_nil)) (hr_cons (he_var (pv 1)) hr_nil))) hr_nil))))))
include KX G0 c0 in
theorem cal_deal_sequence : Cal P w K mg base 5 "deal_sequence" [.vl, .vl] m_deal_sequence := by
  obtain ⟨fd, F⟩ : ∃ fd, FunD K "deal_sequence" "deal_sequence" (defArgs s_deal_sequence) (defBody s_deal_sequence) (defScope s_deal_sequence) [] [] (He.fAd K ("deal_sequence", none)) fd := c0.def_ 26 (d := d_deal_sequence) rfl
  exact calD F (ok_deal_sequence KX G0 c0 F) (He.glo_ok KX G0 (c0.fact 26 (f := .glo "deal_sequence") rfl)) rfl fun _ _ _ _ _ _ us hl => match us, hl with | [_, _], _ => rfl
/-! _law_dealt -/
theorem S__law_dealt : FnScope ["cards", "step", "many", "hand", "found", "turn", "under"] ["cards", "step", "many"] (defScope s__law_dealt) := ⟨rfl, rfl, rfl, by decide +kernel, rfl, by decide +kernel, by decide +kernel⟩
def fb__law_dealt_1 : Sx :=
  sSeq (sSet 6 (xB modD (xN intD (yCons (xB subD (xVar 1) (xC (.int 1))) yNil)) (xN lenD (yCons (xVar 3) yNil))))
  (sSeq (sSetO 3 (yB catL (xFz (ySl (xVar 3) (oSo (xVar 6)) oNo)) (xFz (ySl (xVar 3) oNo (oSo (xVar 6))))))
  (sApp 4 (xPop 3 (xC (.int 0)))))
def g__law_dealt : Sx :=
  sSeq (sPar 3 4 (zConsO (yLrg (rg1 (xVar 0))) (zConsO (yLst yNil) zNil)))
  (sSeq (sFor (srcR1 (xVar 2)) (gN 5) fb__law_dealt_1)
  (sRet (xTup (yCons (xVar 4) (yCons (xVar 3) yNil)))))
def m__law_dealt : Fn := mkFn 7 3 g__law_dealt
theorem u__law_dealt {s0 s1 s2 : Sl} : m__law_dealt [s0, s1, s2] = @bI _ _ (g__law_dealt [s0, s1, s2, .em, .em, .em, .em]) ⟨fun fl e => @oI _ _ (outOf [s0, s1, s2] e) ⟨fun out => fnK fl out⟩⟩ := mkFn_go rfl
include KX G0 c0 in
theorem ok__law_dealt {fd : FuncData} (F : FunD K "_law_dealt" "_law_dealt" (defArgs s__law_dealt) (defBody s__law_dealt) (defScope s__law_dealt) [] [] (He.fAd K ("_law_dealt", none)) fd) : FnG P w K mg base CX0 1 (He.fAd K ("_law_dealt", none)) fd ["cards", "step", "many"] (spD K 3 m__law_dealt) :=
  okD F S__law_dealt fun cdv A outer s H hr hG =>
  hss_cons (hs_par (i := 3) (j := 4) rfl S__law_dealt.nd rfl rfl (by decide) rfl rfl (hr_consO (fe_listRg rfl rfl (fr_list KX G0 c0) (hrg_1 rfl (fr_range KX G0 c0) (he_var (pv 0)))) (hr_consO (fe_lst ha_nil) hr_nil)) (by rfl))
  (hss_cons (hs_for PassesOwn.never rfl (hi_range1 rfl (fr_range KX G0 c0) (he_var (pv 2))) (hg_name (pg_name (i := 5) S__law_dealt.nd rfl (Or.inl rfl))) (hss_cons (hs_set (i := 6) S__law_dealt.nd rfl (Or.inl rfl) (he_op op_mod reads_mod (he_callTy call_int1 reads_int rfl (fr_int KX G0 c0) bt_int (ha_cons (he_op op_sub reads_sub (he_var (pv 1)) he_int) ha_nil)) (he_callB call_len_seq reads_len rfl (fr_len KX G0 c0) bt_len (ha_cons (he_var (pv 3)) ha_nil))))
  (hss_cons (hs_setO (i := 3) S__law_dealt.nd rfl (Or.inl rfl) (fe_op op_cat reads_catL (he_of_fe (fe_slice (he_var (pv 3)) (ho_so (he_var (pv 6))) ho_no)) (he_of_fe (fe_slice (he_var (pv 3)) ho_no (ho_so (he_var (pv 6)))))))
  (hss_one (hs_append (pv 4) (he_pop (pv 3) he_int))))))
  (hss_one (hs_ret (he_tup (ha_cons (he_var (pv 4)) (ha_cons (he_var (pv 3)) ha_nil))))))
include KX G0 c0 in
theorem cal__law_dealt : Cal P w K mg base 1 "_law_dealt" [.vl, .vl, .vl] m__law_dealt := by
  obtain ⟨fd, F⟩ : ∃ fd, FunD K "_law_dealt" "_law_dealt" (defArgs s__law_dealt) (defBody s__law_dealt) (defScope s__law_dealt) [] [] (He.fAd K ("_law_dealt", none)) fd := c0.def_ 38 (d := d__law_dealt) rfl
  exact calD F (ok__law_dealt KX G0 c0 F) (He.glo_ok KX G0 (c0.fact 38 (f := .glo "_law_dealt") rfl)) rfl fun _ _ _ _ _ _ us hl => match us, hl with | [_, _, _], _ => rfl
/-! still_of -/
theorem S_still_of : FnScope ["cards"] ["cards"] (defScope s_still_of) := ⟨rfl, rfl, rfl, by decide +kernel, rfl, by decide +kernel, by decide +kernel⟩
def g_still_of : Sx :=
  sRet (xTrg (rg1 (xVar 0)))
def m_still_of : Fn := mkFn 1 1 g_still_of
theorem u_still_of {s0 : Sl} : m_still_of [s0] = @bI _ _ (g_still_of [s0]) ⟨fun fl e => @oI _ _ (outOf [s0] e) ⟨fun out => fnK fl out⟩⟩ := mkFn_go rfl
include KX G0 c0 in
theorem ok_still_of {fd : FuncData} (F : FunD K "still_of" "still_of" (defArgs s_still_of) (defBody s_still_of) (defScope s_still_of) [] [] (He.fAd K ("still_of", none)) fd) : FnG P w K mg base CX0 1 (He.fAd K ("still_of", none)) fd ["cards"] (spD K 1 m_still_of) :=
  okD F S_still_of fun cdv A outer s H hr hG =>
  hss_one (hs_ret (he_tupRg rfl rfl (fr_tuple KX G0 c0) (hrg_1 rfl (fr_range KX G0 c0) (he_var (pv 0)))))
include KX G0 c0 in
theorem cal_still_of : Cal P w K mg base 1 "still_of" [.vl] m_still_of := by
  obtain ⟨fd, F⟩ : ∃ fd, FunD K "still_of" "still_of" (defArgs s_still_of) (defBody s_still_of) (defScope s_still_of) [] [] (He.fAd K ("still_of", none)) fd := c0.def_ 9 (d := d_still_of) rfl
  exact calD F (ok_still_of KX G0 c0 F) (He.glo_ok KX G0 (c0.fact 9 (f := .glo "still_of") rfl)) rfl fun _ _ _ _ _ _ us hl => match us, hl with | [_], _ => rfl
/-! plain -/
theorem S_plain : FnScope ["cards"] ["cards"] (defScope s_plain) := ⟨rfl, rfl, rfl, by decide +kernel, rfl, by decide +kernel, by decide +kernel⟩
def g_plain : Sx :=
  sSeq (sDrop (xCall [.vl] m_want_cards (zCons (xVar 0) zNil)))
  (sRet (xCall [.vl] m_still_of (zCons (xVar 0) zNil)))
def m_plain : Fn := mkFn 1 1 g_plain
theorem u_plain {s0 : Sl} : m_plain [s0] = @bI _ _ (g_plain [s0]) ⟨fun fl e => @oI _ _ (outOf [s0] e) ⟨fun out => fnK fl out⟩⟩ := mkFn_go rfl
include KX G0 c0 in
theorem ok_plain {fd : FuncData} (F : FunD K "plain" "plain" (defArgs s_plain) (defBody s_plain) (defScope s_plain) [] [] (He.fAd K ("plain", none)) fd) : FnG P w K mg base CX0 4 (He.fAd K ("plain", none)) fd ["cards"] (spD K 1 m_plain) :=
  okD F S_plain fun cdv A outer s H hr hG =>
  hss_cons (hs_expr (he_call' (cal_want_cards KX G0 c0) (hr.mono (by decide)) hG rfl (hr_cons (he_var (pv 0)) hr_nil)))
  (hss_one (hs_ret (he_call' (cal_still_of KX G0 c0) (hr.mono (by decide)) hG rfl (hr_cons (he_var (pv 0)) hr_nil))))
include KX G0 c0 in
theorem cal_plain : Cal P w K mg base 4 "plain" [.vl] m_plain := by
  obtain ⟨fd, F⟩ : ∃ fd, FunD K "plain" "plain" (defArgs s_plain) (defBody s_plain) (defScope s_plain) [] [] (He.fAd K ("plain", none)) fd := c0.def_ 16 (d := d_plain) rfl
  exact calD F (ok_plain KX G0 c0 F) (He.glo_ok KX G0 (c0.fact 16 (f := .glo "plain") rfl)) rfl fun _ _ _ _ _ _ us hl => match us, hl with | [_], _ => rfl
/-! is_count -/
theorem S_is_count : FnScope ["value"] ["value"] (defScope s_is_count) := ⟨rfl, rfl, rfl, by decide +kernel, rfl, by decide +kernel, by decide +kernel⟩
def g_is_count : Sx :=
  sRet (xAnd (xCall [.vl] m_is_integer (zCons (xVar 0) zNil)) (xB geD (xVar 0) (xC (.int 0))))
def m_is_count : Fn := mkFn 1 1 g_is_count
theorem u_is_count {s0 : Sl} : m_is_count [s0] = @bI _ _ (g_is_count [s0]) ⟨fun fl e => @oI _ _ (outOf [s0] e) ⟨fun out => fnK fl out⟩⟩ := mkFn_go rfl
include KX G0 c0 in
theorem ok_is_count {fd : FuncData} (F : FunD K "is_count" "is_count" (defArgs s_is_count) (defBody s_is_count) (defScope s_is_count) [] [] (He.fAd K ("is_count", none)) fd) : FnG P w K mg base CX0 2 (He.fAd K ("is_count", none)) fd ["value"] (spD K 1 m_is_count) :=
  okD F S_is_count fun cdv A outer s H hr hG =>
  hss_one (hs_ret (he_and (he_call' (cal_is_integer KX G0 c0) (hr.mono (by decide)) hG rfl (hr_cons (he_var (pv 0)) hr_nil)) (he_one (he_cmp op_ge (reads_cmpI _) (he_var (pv 0)) he_int (nomark _)))))
include KX G0 c0 in
theorem cal_is_count : Cal P w K mg base 2 "is_count" [.vl] m_is_count := by
  obtain ⟨fd, F⟩ : ∃ fd, FunD K "is_count" "is_count" (defArgs s_is_count) (defBody s_is_count) (defScope s_is_count) [] [] (He.fAd K ("is_count", none)) fd := c0.def_ 2 (d := d_is_count) rfl
  exact calD F (ok_is_count KX G0 c0 F) (He.glo_ok KX G0 (c0.fact 2 (f := .glo "is_count") rfl)) rfl fun _ _ _ _ _ _ us hl => match us, hl with | [_], _ => rfl
/-! want_times -/
theorem S_want_times : FnScope ["times"] ["times"] (defScope s_want_times) := ⟨rfl, rfl, rfl, by decide +kernel, rfl, by decide +kernel, by decide +kernel⟩
def g_want_times : Sx :=
  sIf (sNot (sT (xCall [.vl] m_is_count (zCons (xVar 0) zNil)))) sNever sNil
def m_want_times : Fn := mkFn 1 1 g_want_times
theorem u_want_times {s0 : Sl} : m_want_times [s0] = @bI _ _ (g_want_times [s0]) ⟨fun fl e => @oI _ _ (outOf [s0] e) ⟨fun out => fnK fl out⟩⟩ := mkFn_go rfl
include KX G0 c0 in
theorem ok_want_times {fd : FuncData} (F : FunD K "want_times" "want_times" (defArgs s_want_times) (defBody s_want_times) (defScope s_want_times) [] [] (He.fAd K ("want_times", none)) fd) : FnG P w K mg base CX0 3 (He.fAd K ("want_times", none)) fd ["times"] (spD K 1 m_want_times) :=
  okD F S_want_times fun cdv A outer s H hr hG =>
  hss_one (hs_if (ht_not (ht_val (he_call' (cal_is_count KX G0 c0) (hr.mono (by decide)) hG rfl (hr_cons (he_var (pv 0)) hr_nil)))) (hss_one hs_never) hss_nil)
include KX G0 c0 in
theorem cal_want_times : Cal P w K mg base 3 "want_times" [.vl] m_want_times := by
  obtain ⟨fd, F⟩ : ∃ fd, FunD K "want_times" "want_times" (defArgs s_want_times) (defBody s_want_times) (defScope s_want_times) [] [] (He.fAd K ("want_times", none)) fd := c0.def_ 8 (d := d_want_times) rfl
  exact calD F (ok_want_times KX G0 c0 F) (He.glo_ok KX G0 (c0.fact 8 (f := .glo "want_times") rfl)) rfl fun _ _ _ _ _ _ us hl => match us, hl with | [_], _ => rfl
/-! power_of -/
theorem S_power_of : FnScope ["move", "times", "found", "here", "left"] ["move", "times"] (defScope s_power_of) := ⟨rfl, rfl, rfl, by decide +kernel, rfl, by decide +kernel, by decide +kernel⟩
def wt_power_of_1 : Ts :=
  sT (xB gtD (xVar 4) (xC (.int 0)))
def wb_power_of_2 : Sx :=
  sSeq (sSet 2 (xIf (sT (xB eqD (xB modD (xVar 4) (xC (.int 2))) (xC (.int 1)))) (xCall [.vl, .vl] m_moved_of (zCons (xVar 2) (zCons (xVar 3) zNil))) (xVar 2)))
  (sPar 3 4 (zCons (xCall [.vl, .vl] m_moved_of (zCons (xVar 3) (zCons (xVar 3) zNil))) (zCons (xB divD (xVar 4) (xC (.int 2))) zNil)))
def g_power_of : Sx :=
  sSeq (sPar3 2 3 4 (zCons (xCall [.vl] m_still_of (zCons (xN lenD (yCons (xVar 0) yNil)) zNil)) (zCons (xVar 0) (zCons (xVar 1) zNil))))
  (sSeq (sWh wt_power_of_1 wb_power_of_2)
  (sRet (xVar 2)))
def m_power_of : Fn := mkFn 5 2 g_power_of
theorem u_power_of {s0 s1 : Sl} : m_power_of [s0, s1] = @bI _ _ (g_power_of [s0, s1, .em, .em, .em]) ⟨fun fl e => @oI _ _ (outOf [s0, s1] e) ⟨fun out => fnK fl out⟩⟩ := mkFn_go rfl
include KX G0 c0 in
theorem ok_power_of {fd : FuncData} (F : FunD K "power_of" "power_of" (defArgs s_power_of) (defBody s_power_of) (defScope s_power_of) [] [] (He.fAd K ("power_of", none)) fd) : FnG P w K mg base CX0 2 (He.fAd K ("power_of", none)) fd ["move", "times"] (spD K 2 m_power_of) :=
  okD F S_power_of fun cdv A outer s H hr hG =>
  hss_cons (hs_par3 (i := 2) (j := 3) (k := 4) rfl S_power_of.nd rfl rfl rfl (by decide) (by decide) (by decide) rfl rfl rfl (hr_cons (he_call' (cal_still_of KX G0 c0) (hr.mono (by decide)) hG rfl (hr_cons (he_callB call_len_seq reads_len rfl (fr_len KX G0 c0) bt_len (ha_cons (he_var (pv 0)) ha_nil)) hr_nil)) (hr_cons (he_var (pv 0)) (hr_cons (he_var (pv 1)) hr_nil))) (by rfl))
  (hss_cons (hs_while (fun _ => fuel) PassesOwn.never (ht_cmp op_gt (reads_cmpI _) (he_var (pv 4)) he_int (nomark _)) (hss_cons (hs_set (i := 2) S_power_of.nd rfl (Or.inl rfl) (he_if (ht_cmp (op_eqA hr.units) reads_eq (he_op op_mod reads_mod (he_var (pv 4)) he_int) he_int (nomark _)) (he_call' (cal_moved_of KX G0 c0) (hr.mono (by decide)) hG rfl (hr_cons (he_var (pv 2)) (hr_cons (he_var (pv 3)) hr_nil))) (he_var (pv 2))))
  (hss_one (hs_par (i := 3) (j := 4) rfl S_power_of.nd rfl rfl (by decide) rfl rfl (hr_cons (he_call' (cal_moved_of KX G0 c0) (hr.mono (by decide)) hG rfl (hr_cons (he_var (pv 3)) (hr_cons (he_var (pv 3)) hr_nil))) (hr_cons (he_op op_fdivW reads_div (he_var (pv 4)) he_int) hr_nil)) (by rfl)))))
  (hss_one (hs_ret (he_var (pv 2)))))
include KX G0 c0 in
theorem cal_power_of : Cal P w K mg base 2 "power_of" [.vl, .vl] m_power_of := by
  obtain ⟨fd, F⟩ : ∃ fd, FunD K "power_of" "power_of" (defArgs s_power_of) (defBody s_power_of) (defScope s_power_of) [] [] (He.fAd K ("power_of", none)) fd := c0.def_ 12 (d := d_power_of) rfl
  exact calD F (ok_power_of KX G0 c0 F) (He.glo_ok KX G0 (c0.fact 12 (f := .glo "power_of") rfl)) rfl fun _ _ _ _ _ _ us hl => match us, hl with | [_, _], _ => rfl
/-! done -/
theorem S_done : FnScope ["move", "times"] ["move", "times"] (defScope s_done) := ⟨rfl, rfl, rfl, by decide +kernel, rfl, by decide +kernel, by decide +kernel⟩
def g_done : Sx :=
  sSeq (sDrop (xCall [.vl] m_want_move (zCons (xVar 0) zNil)))
  (sSeq (sDrop (xCall [.vl] m_want_times (zCons (xVar 1) zNil)))
  (sRet (xCall [.vl, .vl] m_power_of (zCons (xVar 0) (zCons (xVar 1) zNil)))))
def m_done : Fn := mkFn 2 2 g_done
theorem u_done {s0 s1 : Sl} : m_done [s0, s1] = @bI _ _ (g_done [s0, s1]) ⟨fun fl e => @oI _ _ (outOf [s0, s1] e) ⟨fun out => fnK fl out⟩⟩ := mkFn_go rfl
include KX G0 c0 in
theorem ok_done {fd : FuncData} (F : FunD K "done" "done" (defArgs s_done) (defBody s_done) (defScope s_done) [] [] (He.fAd K ("done", none)) fd) : FnG P w K mg base CX0 5 (He.fAd K ("done", none)) fd ["move", "times"] (spD K 2 m_done) :=
  okD F S_done fun cdv A outer s H hr hG =>
  hss_cons (hs_expr (he_call' (cal_want_move KX G0 c0) (hr.mono (by decide)) hG rfl (hr_cons (he_var (pv 0)) hr_nil)))
  (hss_cons (hs_expr (he_call' (cal_want_times KX G0 c0) (hr.mono (by decide)) hG rfl (hr_cons (he_var (pv 1)) hr_nil)))
  (hss_one (hs_ret (he_call' (cal_power_of KX G0 c0) (hr.mono (by decide)) hG rfl (hr_cons (he_var (pv 0)) (hr_cons (he_var (pv 1)) hr_nil))))))
include KX G0 c0 in
theorem cal_done : Cal P w K mg base 5 "done" [.vl, .vl] m_done := by
  obtain ⟨fd, F⟩ : ∃ fd, FunD K "done" "done" (defArgs s_done) (defBody s_done) (defScope s_done) [] [] (He.fAd K ("done", none)) fd := c0.def_ 20 (d := d_done) rfl
  exact calD F (ok_done KX G0 c0 F) (He.glo_ok KX G0 (c0.fact 20 (f := .glo "done") rfl)) rfl fun _ _ _ _ _ _ us hl => match us, hl with | [_, _], _ => rfl
/-! rounds_of -/
theorem S_rounds_of : FnScope ["move", "found", "seen", "begin", "row", "here"] ["move"] (defScope s_rounds_of) := ⟨rfl, rfl, rfl, by decide +kernel, rfl, by decide +kernel, by decide +kernel⟩
def wt_rounds_of_1 : Ts :=
  sNot (sT (xB ixD (xVar 2) (xVar 5)))
def wb_rounds_of_2 : Sx :=
  sSeq (sAsg (xC (.bool true)) (gSubT 2 (xVar 5)))
  (sSeq (sApp 4 (xVar 5))
  (sSet 5 (xB ixD (xVar 0) (xVar 5))))
def fb_rounds_of_3 : Sx :=
  sIf (sNot (sT (xB ixD (xVar 2) (xVar 3)))) (sSeq (sPar 4 5 (zConsO (yLst yNil) (zCons (xVar 3) zNil)))
  (sSeq (sWh wt_rounds_of_1 wb_rounds_of_2)
  (sApp 1 (xN tupD (yCons (xVar 4) yNil))))) sNil
def g_rounds_of : Sx :=
  sSeq (sPar 1 2 (zConsO (yLst yNil) (zConsO (yB repL (xFz (yLst (yCons (xC (.bool false)) yNil))) (xN lenD (yCons (xVar 0) yNil))) zNil)))
  (sSeq (sFor (srcR1 (xN lenD (yCons (xVar 0) yNil))) (gN 3) fb_rounds_of_3)
  (sRet (xVar 1)))
def m_rounds_of : Fn := mkFn 6 1 g_rounds_of
theorem u_rounds_of {s0 : Sl} : m_rounds_of [s0] = @bI _ _ (g_rounds_of [s0, .em, .em, .em, .em, .em]) ⟨fun fl e => @oI _ _ (outOf [s0] e) ⟨fun out => fnK fl out⟩⟩ := mkFn_go rfl
include KX G0 c0 in
theorem ok_rounds_of {fd : FuncData} (F : FunD K "rounds_of" "rounds_of" (defArgs s_rounds_of) (defBody s_rounds_of) (defScope s_rounds_of) [] [] (He.fAd K ("rounds_of", none)) fd) : FnG P w K mg base CX0 1 (He.fAd K ("rounds_of", none)) fd ["move"] (spD K 1 m_rounds_of) :=
  okD F S_rounds_of fun cdv A outer s H hr hG =>
  hss_cons (hs_par (i := 1) (j := 2) rfl S_rounds_of.nd rfl rfl (by decide) rfl rfl (hr_consO (fe_lst ha_nil) (hr_consO (fe_op op_rep reads_repL (he_of_fe (fe_lst (ha_cons he_bl ha_nil))) (he_callB call_len_seq reads_len rfl (fr_len KX G0 c0) bt_len (ha_cons (he_var (pv 0)) ha_nil))) hr_nil)) (by rfl))
  (hss_cons (hs_for PassesOwn.never rfl (hi_range1 rfl (fr_range KX G0 c0) (he_callB call_len_seq reads_len rfl (fr_len KX G0 c0) bt_len (ha_cons (he_var (pv 0)) ha_nil))) (hg_name (pg_name (i := 3) S_rounds_of.nd rfl (Or.inl rfl))) (hss_one (hs_if (ht_not (ht_val (he_ix (he_var (pv 2)) (he_var (pv 3)) (fun _ _ => rfl)))) (hss_cons (hs_par (i := 4) (j := 5) rfl S_rounds_of.nd rfl rfl (by decide) rfl rfl (hr_consO (fe_lst ha_nil) (hr_cons (he_var (pv 3)) hr_nil)) (by rfl))
  (hss_cons (hs_while (fun _ => fuel) PassesOwn.never (ht_not (ht_val (he_ix (he_var (pv 2)) (he_var (pv 5)) (fun _ _ => rfl)))) (hss_cons (hs_asg he_bl (hg_sub (pv 2) (he_var (pv 5))))
  (hss_cons (hs_append (pv 4) (he_var (pv 5)))
  (hss_one (hs_set (i := 5) S_rounds_of.nd rfl (Or.inl rfl) (he_ix (he_var (pv 0)) (he_var (pv 5)) (fun _ _ => rfl)))))))
  (hss_one (hs_append (pv 1) (he_callTy call_tupF reads_tup rfl (fr_tuple KX G0 c0) bt_tuple (ha_cons (he_var (pv 4)) ha_nil)))))) hss_nil)))
  (hss_one (hs_ret (he_var (pv 1)))))
include KX G0 c0 in
theorem cal_rounds_of : Cal P w K mg base 1 "rounds_of" [.vl] m_rounds_of := by
  obtain ⟨fd, F⟩ : ∃ fd, FunD K "rounds_of" "rounds_of" (defArgs s_rounds_of) (defBody s_rounds_of) (defScope s_rounds_of) [] [] (He.fAd K ("rounds_of", none)) fd := c0.def_ 13 (d := d_rounds_of) rfl
  exact calD F (ok_rounds_of KX G0 c0 F) (He.glo_ok KX G0 (c0.fact 13 (f := .glo "rounds_of") rfl)) rfl fun _ _ _ _ _ _ us hl => match us, hl with | [_], _ => rfl
/-! common_of -/
theorem S_common_of : FnScope ["one", "other"] ["one", "other"] (defScope s_common_of) := ⟨rfl, rfl, rfl, by decide +kernel, rfl, by decide +kernel, by decide +kernel⟩
def wt_common_of_1 : Ts :=
  sT (xB gtD (xVar 1) (xC (.int 0)))
def wb_common_of_2 : Sx :=
  sPar 0 1 (zCons (xVar 1) (zCons (xB modD (xVar 0) (xVar 1)) zNil))
def g_common_of : Sx :=
  sSeq (sWh wt_common_of_1 wb_common_of_2)
  (sRet (xVar 0))
def m_common_of : Fn := mkFn 2 2 g_common_of
theorem u_common_of {s0 s1 : Sl} : m_common_of [s0, s1] = @bI _ _ (g_common_of [s0, s1]) ⟨fun fl e => @oI _ _ (outOf [s0, s1] e) ⟨fun out => fnK fl out⟩⟩ := mkFn_go rfl
include KX G0 c0 in
theorem ok_common_of {fd : FuncData} (F : FunD K "common_of" "common_of" (defArgs s_common_of) (defBody s_common_of) (defScope s_common_of) [] [] (He.fAd K ("common_of", none)) fd) : FnG P w K mg base CX0 1 (He.fAd K ("common_of", none)) fd ["one", "other"] (spD K 2 m_common_of) :=
  okD F S_common_of fun cdv A outer s H hr hG =>
  hss_cons (hs_while (fun _ => fuel) PassesOwn.never (ht_cmp op_gt (reads_cmpI _) (he_var (pv 1)) he_int (nomark _)) (hss_one (hs_par (i := 0) (j := 1) rfl S_common_of.nd rfl rfl (by decide) rfl rfl (hr_cons (he_var (pv 1)) (hr_cons (he_op op_mod reads_mod (he_var (pv 0)) (he_var (pv 1))) hr_nil)) (by rfl))))
  (hss_one (hs_ret (he_var (pv 0))))
include KX G0 c0 in
theorem cal_common_of : Cal P w K mg base 1 "common_of" [.vl, .vl] m_common_of := by
  obtain ⟨fd, F⟩ : ∃ fd, FunD K "common_of" "common_of" (defArgs s_common_of) (defBody s_common_of) (defScope s_common_of) [] [] (He.fAd K ("common_of", none)) fd := c0.def_ 14 (d := d_common_of) rfl
  exact calD F (ok_common_of KX G0 c0 F) (He.glo_ok KX G0 (c0.fact 14 (f := .glo "common_of") rfl)) rfl fun _ _ _ _ _ _ us hl => match us, hl with | [_, _], _ => rfl
/-! order_of -/
theorem S_order_of : FnScope ["move", "found", "row"] ["move"] (defScope s_order_of) := ⟨rfl, rfl, rfl, by decide +kernel, rfl, by decide +kernel, by decide +kernel⟩
def fb_order_of_1 : Sx :=
  sSet 1 (xB mulD (xB divD (xVar 1) (xCall [.vl, .vl] m_common_of (zCons (xVar 1) (zCons (xN lenD (yCons (xVar 2) yNil)) zNil)))) (xN lenD (yCons (xVar 2) yNil)))
def g_order_of : Sx :=
  sSeq (sSet 1 (xC (.int 1)))
  (sSeq (sFor (srcSeq (xCall [.vl] m_rounds_of (zCons (xVar 0) zNil))) (gN 2) fb_order_of_1)
  (sRet (xVar 1)))
def m_order_of : Fn := mkFn 3 1 g_order_of
theorem u_order_of {s0 : Sl} : m_order_of [s0] = @bI _ _ (g_order_of [s0, .em, .em]) ⟨fun fl e => @oI _ _ (outOf [s0] e) ⟨fun out => fnK fl out⟩⟩ := mkFn_go rfl
include KX G0 c0 in
theorem ok_order_of {fd : FuncData} (F : FunD K "order_of" "order_of" (defArgs s_order_of) (defBody s_order_of) (defScope s_order_of) [] [] (He.fAd K ("order_of", none)) fd) : FnG P w K mg base CX0 2 (He.fAd K ("order_of", none)) fd ["move"] (spD K 1 m_order_of) :=
  okD F S_order_of fun cdv A outer s H hr hG =>
  hss_cons (hs_set (i := 1) S_order_of.nd rfl (Or.inl rfl) he_int)
  (hss_cons (hs_for PassesOwn.never rfl (hi_seq (he_call' (cal_rounds_of KX G0 c0) (hr.mono (by decide)) hG rfl (hr_cons (he_var (pv 0)) hr_nil))) (hg_name (pg_name (i := 2) S_order_of.nd rfl (Or.inl rfl))) (hss_one (hs_set (i := 1) S_order_of.nd rfl (Or.inl rfl) (he_op op_mulD reads_mul (he_op op_fdivW reads_div (he_var (pv 1)) (he_call' (cal_common_of KX G0 c0) (hr.mono (by decide)) hG rfl (hr_cons (he_var (pv 1)) (hr_cons (he_callB call_len_seq reads_len rfl (fr_len KX G0 c0) bt_len (ha_cons (he_var (pv 2)) ha_nil)) hr_nil)))) (he_callB call_len_seq reads_len rfl (fr_len KX G0 c0) bt_len (ha_cons (he_var (pv 2)) ha_nil))))))
  (hss_one (hs_ret (he_var (pv 1)))))
include KX G0 c0 in
theorem cal_order_of : Cal P w K mg base 2 "order_of" [.vl] m_order_of := by
  obtain ⟨fd, F⟩ : ∃ fd, FunD K "order_of" "order_of" (defArgs s_order_of) (defBody s_order_of) (defScope s_order_of) [] [] (He.fAd K ("order_of", none)) fd := c0.def_ 15 (d := d_order_of) rfl
  exact calD F (ok_order_of KX G0 c0 F) (He.glo_ok KX G0 (c0.fact 15 (f := .glo "order_of") rfl)) rfl fun _ _ _ _ _ _ us hl => match us, hl with | [_], _ => rfl
/-! deal_times -/
theorem S_deal_times : FnScope ["cards", "step"] ["cards", "step"] (defScope s_deal_times) := ⟨rfl, rfl, rfl, by decide +kernel, rfl, by decide +kernel, by decide +kernel⟩
def g_deal_times : Sx :=
  sSeq (sDrop (xCall [.vl] m_want_cards (zCons (xVar 0) zNil)))
  (sSeq (sDrop (xCall [.vl] md_want_step (zCons (xVar 1) zNil)))
  (sRet (xCall [.vl] m_order_of (zCons (xCall [.vl, .vl] m_move_of_deal (zCons (xVar 0) (zCons (xVar 1) zNil))) zNil))))
def m_deal_times : Fn := mkFn 2 2 g_deal_times
theorem u_deal_times {s0 s1 : Sl} : m_deal_times [s0, s1] = @bI _ _ (g_deal_times [s0, s1]) ⟨fun fl e => @oI _ _ (outOf [s0, s1] e) ⟨fun out => fnK fl out⟩⟩ := mkFn_go rfl
include KX G0 c0 in
theorem ok_deal_times {fd : FuncData} (F : FunD K "deal_times" "deal_times" (defArgs s_deal_times) (defBody s_deal_times) (defScope s_deal_times) [] [] (He.fAd K ("deal_times", none)) fd) : FnG P w K mg base CX0 4 (He.fAd K ("deal_times", none)) fd ["cards", "step"] (spD K 2 m_deal_times) :=
  okD F S_deal_times fun cdv A outer s H hr hG =>
  hss_cons (hs_expr (he_call' (cal_want_cards KX G0 c0) (hr.mono (by decide)) hG rfl (hr_cons (he_var (pv 0)) hr_nil)))
  (hss_cons (hs_expr (he_call' (cald_want_step KX G0 c0) (hr.mono (by decide)) hG rfl (hr_cons (he_var (pv 1)) hr_nil)))
  (hss_one (hs_ret (he_call' (cal_order_of KX G0 c0) (hr.mono (by decide)) hG rfl (hr_cons (he_call' (cal_move_of_deal KX G0 c0) (hr.mono (by decide)) hG rfl (hr_cons (he_var (pv 0)) (hr_cons (he_var (pv 1)) hr_nil))) hr_nil)))))
include KX G0 c0 in
theorem cal_deal_times : Cal P w K mg base 4 "deal_times" [.vl, .vl] m_deal_times := by
  obtain ⟨fd, F⟩ : ∃ fd, FunD K "deal_times" "deal_times" (defArgs s_deal_times) (defBody s_deal_times) (defScope s_deal_times) [] [] (He.fAd K ("deal_times", none)) fd := c0.def_ 29 (d := d_deal_times) rfl
  exact calD F (ok_deal_times KX G0 c0 F) (He.glo_ok KX G0 (c0.fact 29 (f := .glo "deal_times") rfl)) rfl fun _ _ _ _ _ _ us hl => match us, hl with | [_, _], _ => rfl
include KX G0 c0 in
theorem calk_deal_times_step_cards : CalK P w K mg base 4 "deal_times" ["step", "cards"] [1, 0] [.vl, .vl] m_deal_times := by
  obtain ⟨fd, F⟩ : ∃ fd, FunD K "deal_times" "deal_times" (defArgs s_deal_times) (defBody s_deal_times) (defScope s_deal_times) [] [] (He.fAd K ("deal_times", none)) fd := c0.def_ 29 (d := d_deal_times) rfl
  exact calKD F (ok_deal_times KX G0 c0 F) (He.glo_ok KX G0 (c0.fact 29 (f := .glo "deal_times") rfl)) rfl rfl fun _ _ _ _ _ _ us hl => match us, hl with | [_, _], _ => rfl
/-! times_back -/
theorem S_times_back : FnScope ["move"] ["move"] (defScope s_times_back) := ⟨rfl, rfl, rfl, by decide +kernel, rfl, by decide +kernel, by decide +kernel⟩
def g_times_back : Sx :=
  sSeq (sDrop (xCall [.vl] m_want_move (zCons (xVar 0) zNil)))
  (sRet (xCall [.vl] m_order_of (zCons (xVar 0) zNil)))
def m_times_back : Fn := mkFn 1 1 g_times_back
theorem u_times_back {s0 : Sl} : m_times_back [s0] = @bI _ _ (g_times_back [s0]) ⟨fun fl e => @oI _ _ (outOf [s0] e) ⟨fun out => fnK fl out⟩⟩ := mkFn_go rfl
include KX G0 c0 in
theorem ok_times_back {fd : FuncData} (F : FunD K "times_back" "times_back" (defArgs s_times_back) (defBody s_times_back) (defScope s_times_back) [] [] (He.fAd K ("times_back", none)) fd) : FnG P w K mg base CX0 5 (He.fAd K ("times_back", none)) fd ["move"] (spD K 1 m_times_back) :=
  okD F S_times_back fun cdv A outer s H hr hG =>
  hss_cons (hs_expr (he_call' (cal_want_move KX G0 c0) (hr.mono (by decide)) hG rfl (hr_cons (he_var (pv 0)) hr_nil)))
  (hss_one (hs_ret (he_call' (cal_order_of KX G0 c0) (hr.mono (by decide)) hG rfl (hr_cons (he_var (pv 0)) hr_nil))))
include KX G0 c0 in
theorem cal_times_back : Cal P w K mg base 5 "times_back" [.vl] m_times_back := by
  obtain ⟨fd, F⟩ : ∃ fd, FunD K "times_back" "times_back" (defArgs s_times_back) (defBody s_times_back) (defScope s_times_back) [] [] (He.fAd K ("times_back", none)) fd := c0.def_ 22 (d := d_times_back) rfl
  exact calD F (ok_times_back KX G0 c0 F) (He.glo_ok KX G0 (c0.fact 22 (f := .glo "times_back") rfl)) rfl fun _ _ _ _ _ _ us hl => match us, hl with | [_], _ => rfl
/-! round_sizes -/
theorem S_round_sizes : FnScope ["move", "row"] ["move"] (defScope s_round_sizes) := ⟨rfl, rfl, rfl, by decide +kernel, rfl, by decide +kernel, by decide +kernel⟩
theorem bo_round_sizes_1 : BlkOk ["move", "row"] (defScope s_round_sizes) ⟨.function, [(".0", .local), ("row", .local), ("len", .globalImplicit)], false, false, []⟩ [("row", 1)] := ⟨rfl, by decide +kernel, by decide +kernel, by decide +kernel, by decide +kernel⟩
def ce_round_sizes_1 : Ex :=
  xN lenD (yCons (xVar 1) yNil)
def g_round_sizes : Sx :=
  sSeq (sDrop (xCall [.vl] m_want_move (zCons (xVar 0) zNil)))
  (sRet (xFz (yRev (xFz (yN srtD (yCons (xFz (yLc [1] (srcSeq (xCall [.vl] m_rounds_of (zCons (xVar 0) zNil))) (gN 1) sYes ce_round_sizes_1)) yNil))))))
def m_round_sizes : Fn := mkFn 2 1 g_round_sizes
theorem u_round_sizes {s0 : Sl} : m_round_sizes [s0] = @bI _ _ (g_round_sizes [s0, .em]) ⟨fun fl e => @oI _ _ (outOf [s0] e) ⟨fun out => fnK fl out⟩⟩ := mkFn_go rfl
include KX G0 c0 in
theorem ok_round_sizes {fd : FuncData} (F : FunD K "round_sizes" "round_sizes" (defArgs s_round_sizes) (defBody s_round_sizes) (defScope s_round_sizes) [] [] (He.fAd K ("round_sizes", none)) fd) : FnG P w K mg base CX0 5 (He.fAd K ("round_sizes", none)) fd ["move"] (spD K 1 m_round_sizes) :=
  okD F S_round_sizes fun cdv A outer s H hr hG =>
  hss_cons (hs_expr (he_call' (cal_want_move KX G0 c0) (hr.mono (by decide)) hG rfl (hr_cons (he_var (pv 0)) hr_nil)))
  (hss_one (hs_ret (he_of_fe (fe_rev (he_of_fe (fe_callB cr_sortedI reads_srt rfl (fr_sorted KX G0 c0) bt_sorted (ha_cons (he_of_fe (fe_lc (own := [("row", 1)]) (is := [1]) rfl S_round_sizes.nd (hi_seq (he_call' (cal_rounds_of KX G0 c0) (hr.mono (by decide)) hG rfl (hr_cons (he_var (pv 0)) hr_nil))) bo_round_sizes_1 (by decide) (by exact fun _ _ _ _ _ => hg_name (pg_name (i := 1) S_round_sizes.nd rfl (Or.inl rfl))) (by exact fun _ _ _ _ _ => hts_nil) (by exact fun _ _ _ _ _ => he_callB call_len_seq reads_len rfl (fr_len KX G0 c0) bt_len (ha_cons (he_var (pv 1)) ha_nil)))) ha_nil)))))))
include KX G0 c0 in
theorem cal_round_sizes : Cal P w K mg base 5 "round_sizes" [.vl] m_round_sizes := by
  obtain ⟨fd, F⟩ : ∃ fd, FunD K "round_sizes" "round_sizes" (defArgs s_round_sizes) (defBody s_round_sizes) (defScope s_round_sizes) [] [] (He.fAd K ("round_sizes", none)) fd := c0.def_ 21 (d := d_round_sizes) rfl
  exact calD F (ok_round_sizes KX G0 c0 F) (He.glo_ok KX G0 (c0.fact 21 (f := .glo "round_sizes") rfl)) rfl fun _ _ _ _ _ _ us hl => match us, hl with | [_], _ => rfl
/-! _law_common -/
theorem S__law_common : FnScope ["one", "other"] ["one", "other"] (defScope s__law_common) := ⟨rfl, rfl, rfl, by decide +kernel, rfl, by decide +kernel, by decide +kernel⟩
def wt__law_common_1 : Ts :=
  sT (xB gtD (xVar 1) (xC (.int 0)))
def wb__law_common_2 : Sx :=
  sPar 0 1 (zCons (xVar 1) (zCons (xB modD (xN intD (yCons (xVar 0) yNil)) (xVar 1)) zNil))
def g__law_common : Sx :=
  sSeq (sWh wt__law_common_1 wb__law_common_2)
  (sRet (xVar 0))
def m__law_common : Fn := mkFn 2 2 g__law_common
theorem u__law_common {s0 s1 : Sl} : m__law_common [s0, s1] = @bI _ _ (g__law_common [s0, s1]) ⟨fun fl e => @oI _ _ (outOf [s0, s1] e) ⟨fun out => fnK fl out⟩⟩ := mkFn_go rfl
include KX G0 c0 in
theorem ok__law_common {fd : FuncData} (F : FunD K "_law_common" "_law_common" (defArgs s__law_common) (defBody s__law_common) (defScope s__law_common) [] [] (He.fAd K ("_law_common", none)) fd) : FnG P w K mg base CX0 1 (He.fAd K ("_law_common", none)) fd ["one", "other"] (spD K 2 m__law_common) :=
  okD F S__law_common fun cdv A outer s H hr hG =>
  hss_cons (hs_while (fun _ => fuel) PassesOwn.never (ht_cmp op_gt (reads_cmpI _) (he_var (pv 1)) he_int (nomark _)) (hss_one (hs_par (i := 0) (j := 1) rfl S__law_common.nd rfl rfl (by decide) rfl rfl (hr_cons (he_var (pv 1)) (hr_cons (he_op op_mod reads_mod (he_callTy call_int1 reads_int rfl (fr_int KX G0 c0) bt_int (ha_cons (he_var (pv 0)) ha_nil)) (he_var (pv 1))) hr_nil)) (by rfl))))
  (hss_one (hs_ret (he_var (pv 0))))
include KX G0 c0 in
theorem cal__law_common : Cal P w K mg base 1 "_law_common" [.vl, .vl] m__law_common := by
  obtain ⟨fd, F⟩ : ∃ fd, FunD K "_law_common" "_law_common" (defArgs s__law_common) (defBody s__law_common) (defScope s__law_common) [] [] (He.fAd K ("_law_common", none)) fd := c0.def_ 39 (d := d__law_common) rfl
  exact calD F (ok__law_common KX G0 c0 F) (He.glo_ok KX G0 (c0.fact 39 (f := .glo "_law_common") rfl)) rfl fun _ _ _ _ _ _ us hl => match us, hl with | [_, _], _ => rfl
/-! _law_right -/
theorem S__law_right : FnScope ["pot", "cards", "step", "late", "pack", "kept", "order", "due", "at", "place", "times", "sizes", "seen", "begin", "here", "size", "turn", "move", "both"] ["pot"] (defScope s__law_right) := ⟨rfl, rfl, rfl, by decide +kernel, rfl, by decide +kernel, by decide +kernel⟩
def fb__law_right_1 : Sx :=
  sAsg (xB ixD (xVar 4) (xVar 8)) (gSubT 7 (xVar 9))
def fb__law_right_2 : Sx :=
  sIf (sT (xB notIn (xVar 14) (xVar 12))) (sSeq (sApp 12 (xVar 14))
  (sPar 14 15 (zCons (xB ixD (xVar 6) (xVar 14)) (zCons (xB addD (xVar 15) (xC (.int 1))) zNil)))) sNil
def fb__law_right_3 : Sx :=
  sIf (sT (xB notIn (xVar 13) (xVar 12))) (sSeq (sPar 14 15 (zCons (xVar 13) (zCons (xC (.int 0)) zNil)))
  (sSeq (sFor (srcR1 (xVar 1)) (gN 16) fb__law_right_2)
  (sSeq (sApp 11 (xVar 15))
  (sSet 10 (xB mulD (xB divD (xVar 10) (xCall [.vl, .vl] m__law_common (zCons (xVar 10) (zCons (xVar 15) zNil)))) (xVar 15)))))) sNil
def g__law_right : Sx :=
  sSeq (sPar3 1 2 3 (zCons (xCall [.mu] m__law_cards (zCons (xVar 0) zNil)) (zCons (xCall [.mu] m__law_step (zCons (xVar 0) zNil)) (zCons (xCall [.mu] m__law_step (zCons (xVar 0) zNil)) zNil))))
  (sSeq (sSet 4 (xCall [.mu, .vl] m__law_pack (zCons (xVar 0) (zCons (xVar 1) zNil))))
  (sSeq (sPar 5 6 (zCons (xN repD (yCons (xVar 4) yNil)) (zCons (xB ixD (xCall [.vl, .vl, .vl] m__law_dealt (zCons (xVar 1) (zCons (xVar 2) (zCons (xVar 1) zNil)))) (xC (.int 0))) zNil)))
  (sSeq (sSetO 7 (yB repL (xFz (yLst (yCons (xC (.int 0)) yNil))) (xVar 1)))
  (sSeq (sFor (srcEn (xVar 6)) (gT 2 (gsCons (gN 8) (gsCons (gN 9) gsNil))) fb__law_right_1)
  (sSeq (sIf (sNot (sT (xCall [.vl, .vl] (m__law_is 8) (zCons (xFz (yLst (yCons (xCall [.vl, .vl] m_prepared (zCons (xVar 4) (zCons (xVar 2) zNil))) (yCons (xCallK [1, 0] [.vl, .vl] m_prepared (yCons (xVar 2) (yCons (xVar 4) yNil))) yNil)))) (zCons (xFz (yLst (yCons (xN tupD (yCons (xVar 7) yNil)) (yCons (xN tupD (yCons (xVar 7) yNil)) yNil)))) zNil))))) (sRet (xC (.bool false))) sNil)
  (sSeq (sIf (sOr (sT (xB neD (xCall [.vl, .vl] m_deal_sequence (zCons (xCall [.vl, .vl] m_prepared (zCons (xVar 4) (zCons (xVar 2) zNil))) (zCons (xVar 2) zNil))) (xVar 4))) (sT (xB neD (xCall [.vl, .vl] m_prepared (zCons (xCall [.vl, .vl] m_deal_sequence (zCons (xVar 4) (zCons (xVar 2) zNil))) (zCons (xVar 2) zNil))) (xVar 4)))) (sRet (xC (.bool false))) sNil)
  (sSeq (sIf (sT (xB neD (xCall [.vl, .vl] m_prepared (zCons (xCall [.vl] m_plain (zCons (xVar 1) zNil)) (zCons (xVar 2) zNil))) (xCall [.vl] m_back (zCons (xCall [.vl, .vl] m_deal_move (zCons (xVar 1) (zCons (xVar 2) zNil))) zNil)))) (sRet (xC (.bool false))) sNil)
  (sSeq (sPar3 10 11 12 (zCons (xC (.int 1)) (zConsO (yLst yNil) (zConsO (yLst yNil) zNil))))
  (sSeq (sFor (srcR1 (xVar 1)) (gN 13) fb__law_right_3)
  (sSeq (sSet 17 (xCall [.vl, .vl] m_deal_move (zCons (xVar 1) (zCons (xVar 2) zNil))))
  (sSeq (sIf (sNot (sT (xCall [.vl, .vl] (m__law_is 8) (zCons (xFz (yLst (yCons (xCall [.vl, .vl] m_deal_times (zCons (xVar 1) (zCons (xVar 2) zNil))) (yCons (xCallK [1, 0] [.vl, .vl] m_deal_times (yCons (xVar 2) (yCons (xVar 1) yNil))) (yCons (xCall [.vl] m_times_back (zCons (xVar 17) zNil)) (yCons (xCall [.vl] m_round_sizes (zCons (xVar 17) zNil)) yNil)))))) (zCons (xFz (yLst (yCons (xVar 10) (yCons (xVar 10) (yCons (xVar 10) (yCons (xFz (yRev (xFz (yN srtD (yCons (xVar 11) yNil))))) yNil)))))) zNil))))) (sRet (xC (.bool false))) sNil)
  (sSeq (sIf (sOr (sT (xB neD (xCall [.vl, .vl] m_done (zCons (xVar 17) (zCons (xVar 10) zNil))) (xCall [.vl] m_plain (zCons (xVar 1) zNil)))) (sAnd (sT (xB gtD (xVar 10) (xC (.int 1)))) (sT (xB neD (xCall [.vl, .vl] m_done (zCons (xVar 17) (zCons (xB subD (xVar 10) (xC (.int 1))) zNil))) (xCall [.vl] m_back (zCons (xVar 17) zNil)))))) (sRet (xC (.bool false))) sNil)
  (sSeq (sSet 18 (xCall [.vl, .vl] m_behind (zCons (xVar 17) (zCons (xCall [.vl, .vl] m_deal_move (zCons (xVar 1) (zCons (xVar 3) zNil))) zNil))))
  (sSeq (sIf (sT (xB neD (xCall [.vl, .vl] m_moved (zCons (xVar 4) (zCons (xVar 18) zNil))) (xCall [.vl, .vl] m_deal_sequence (zCons (xCall [.vl, .vl] m_deal_sequence (zCons (xVar 4) (zCons (xVar 2) zNil))) (zCons (xVar 3) zNil))))) (sRet (xC (.bool false))) sNil)
  (sRet (xAnd (xB eqD (xCall [.vl, .vl] m_prepared (zCons (xCall [.vl, .vl] m_prepared (zCons (xVar 4) (zCons (xVar 3) zNil))) (zCons (xVar 2) zNil))) (xCall [.vl, .vl] m_moved (zCons (xVar 4) (zCons (xCall [.vl] m_back (zCons (xVar 18) zNil)) zNil)))) (xB eqD (xN repD (yCons (xVar 4) yNil)) (xVar 5))))))))))))))))))
def m__law_right : Fn := mkFn 19 1 g__law_right
theorem u__law_right {s0 : Sl} : m__law_right [s0] = @bI _ _ (g__law_right [s0, .em, .em, .em, .em, .em, .em, .em, .em, .em, .em, .em, .em, .em, .em, .em, .em, .em, .em]) ⟨fun fl e => @oI _ _ (outOf [s0] e) ⟨fun out => fnK fl out⟩⟩ := mkFn_go rfl
include KX G0 c0 in
theorem ok__law_right {fd : FuncData} (F : FunD K "_law_right" "_law_right" (defArgs s__law_right) (defBody s__law_right) (defScope s__law_right) [] [] (He.fAd K ("_law_right", none)) fd) : FnG P w K mg base CX0 10 (He.fAd K ("_law_right", none)) fd ["pot"] (spD K 1 m__law_right) :=
  okD F S__law_right fun cdv A outer s H hr hG =>
  hss_cons (hs_par3 (i := 1) (j := 2) (k := 3) rfl S__law_right.nd rfl rfl rfl (by decide) (by decide) (by decide) rfl rfl rfl (hr_cons (he_call' (cal__law_cards KX G0 c0) (hr.mono (by decide)) hG rfl (hr_cons (he_var (pv 0)) hr_nil)) (hr_cons (he_call' (cal__law_step KX G0 c0) (hr.mono (by decide)) hG rfl (hr_cons (he_var (pv 0)) hr_nil)) (hr_cons (he_call' (cal__law_step KX G0 c0) (hr.mono (by decide)) hG rfl (hr_cons (he_var (pv 0)) hr_nil)) hr_nil))) (by rfl))
  (hss_cons (hs_set (i := 4) S__law_right.nd rfl (Or.inl rfl) (he_call' (cal__law_pack KX G0 c0) (hr.mono (by decide)) hG rfl (hr_cons (he_var (pv 0)) (hr_cons (he_var (pv 1)) hr_nil))))
  (hss_cons (hs_par (i := 5) (j := 6) rfl S__law_right.nd rfl rfl (by decide) rfl rfl (hr_cons (he_callB (call_repr hG hr.units) reads_repr rfl (fr_repr KX G0 c0) bt_repr (ha_cons (he_var (pv 4)) ha_nil)) (hr_cons (he_ix (he_call' (cal__law_dealt KX G0 c0) (hr.mono (by decide)) hG rfl (hr_cons (he_var (pv 1)) (hr_cons (he_var (pv 2)) (hr_cons (he_var (pv 1)) hr_nil)))) he_int (fun _ _ => rfl)) hr_nil)) (by rfl))
  (hss_cons (hs_setO (i := 7) S__law_right.nd rfl (Or.inl rfl) (fe_op op_rep reads_repL (he_of_fe (fe_lst (ha_cons he_int ha_nil))) (he_var (pv 1))))
  (hss_cons (hs_for PassesOwn.never rfl (hi_enum rfl (fr_enumerate KX G0 c0) (he_var (pv 6))) (hg_tup rfl (hgs_cons (hg_name (pg_name (i := 8) S__law_right.nd rfl (Or.inl rfl))) (hgs_cons (hg_name (pg_name (i := 9) S__law_right.nd rfl (Or.inl rfl))) hgs_nil))) (hss_one (hs_asg (he_ix (he_var (pv 4)) (he_var (pv 8)) (fun _ _ => rfl)) (hg_sub (pv 7) (he_var (pv 9))))))
  (hss_cons (hs_if (ht_not (ht_val (he_call' (cal__law_is KX G0 c0 8) (hr.mono (by decide)) hG rfl (hr_cons (he_of_fe (fe_lst (ha_cons (he_call' (cal_prepared KX G0 c0) (hr.mono (by decide)) hG rfl (hr_cons (he_var (pv 4)) (hr_cons (he_var (pv 2)) hr_nil))) (ha_cons (he_callK' (calk_prepared_step_pack KX G0 c0) (hr.mono (by decide)) hG rfl (hk_cons (he_var (pv 2)) (hk_cons (he_var (pv 4)) hk_nil))) ha_nil)))) (hr_cons (he_of_fe (fe_lst (ha_cons (he_callTy call_tupF reads_tup rfl (fr_tuple KX G0 c0) bt_tuple (ha_cons (he_var (pv 7)) ha_nil)) (ha_cons (he_callTy call_tupF reads_tup rfl (fr_tuple KX G0 c0) bt_tuple (ha_cons (he_var (pv 7)) ha_nil)) ha_nil)))) hr_nil))))) (hss_one (hs_ret he_bl)) hss_nil)
  (hss_cons (hs_if (ht_w (hw_or (ht_cmp (op_neA hr.units) reads_ne (he_call' (cal_deal_sequence KX G0 c0) (hr.mono (by decide)) hG rfl (hr_cons (he_call' (cal_prepared KX G0 c0) (hr.mono (by decide)) hG rfl (hr_cons (he_var (pv 4)) (hr_cons (he_var (pv 2)) hr_nil))) (hr_cons (he_var (pv 2)) hr_nil))) (he_var (pv 4)) (nomark _)) (hw_or1 (ht_cmp (op_neA hr.units) reads_ne (he_call' (cal_prepared KX G0 c0) (hr.mono (by decide)) hG rfl (hr_cons (he_call' (cal_deal_sequence KX G0 c0) (hr.mono (by decide)) hG rfl (hr_cons (he_var (pv 4)) (hr_cons (he_var (pv 2)) hr_nil))) (hr_cons (he_var (pv 2)) hr_nil))) (he_var (pv 4)) (nomark _))))) (hss_one (hs_ret he_bl)) hss_nil)
  (hss_cons (hs_if (ht_cmp (op_neA hr.units) reads_ne (he_call' (cal_prepared KX G0 c0) (hr.mono (by decide)) hG rfl (hr_cons (he_call' (cal_plain KX G0 c0) (hr.mono (by decide)) hG rfl (hr_cons (he_var (pv 1)) hr_nil)) (hr_cons (he_var (pv 2)) hr_nil))) (he_call' (cal_back KX G0 c0) (hr.mono (by decide)) hG rfl (hr_cons (he_call' (cal_deal_move KX G0 c0) (hr.mono (by decide)) hG rfl (hr_cons (he_var (pv 1)) (hr_cons (he_var (pv 2)) hr_nil))) hr_nil)) (nomark _)) (hss_one (hs_ret he_bl)) hss_nil)
  (hss_cons (hs_par3 (i := 10) (j := 11) (k := 12) rfl S__law_right.nd rfl rfl rfl (by decide) (by decide) (by decide) rfl rfl rfl (hr_cons he_int (hr_consO (fe_lst ha_nil) (hr_consO (fe_lst ha_nil) hr_nil))) (by rfl))
  (hss_cons (hs_for PassesOwn.never rfl (hi_range1 rfl (fr_range KX G0 c0) (he_var (pv 1))) (hg_name (pg_name (i := 13) S__law_right.nd rfl (Or.inl rfl))) (hss_one (hs_if (ht_cmp (op_notInA (u65 hr)) reads_notIn (he_var (pv 13)) (he_var (pv 12)) (by with_unfolding_all rfl)) (hss_cons (hs_par (i := 14) (j := 15) rfl S__law_right.nd rfl rfl (by decide) rfl rfl (hr_cons (he_var (pv 13)) (hr_cons he_int hr_nil)) (by rfl))
  (hss_cons (hs_for PassesOwn.never rfl (hi_range1 rfl (fr_range KX G0 c0) (he_var (pv 1))) (hg_name (pg_name (i := 16) S__law_right.nd rfl (Or.inl rfl))) (hss_one (hs_if (ht_cmp (op_notInA (u65 hr)) reads_notIn (he_var (pv 14)) (he_var (pv 12)) (by with_unfolding_all rfl)) (hss_cons (hs_append (pv 12) (he_var (pv 14)))
  (hss_one (hs_par (i := 14) (j := 15) rfl S__law_right.nd rfl rfl (by decide) rfl rfl (hr_cons (he_ix (he_var (pv 6)) (he_var (pv 14)) (fun _ _ => rfl)) (hr_cons (he_op op_addD reads_add (he_var (pv 15)) he_int) hr_nil)) (by rfl)))) hss_nil)))
  (hss_cons (hs_append (pv 11) (he_var (pv 15)))
  (hss_one (hs_set (i := 10) S__law_right.nd rfl (Or.inl rfl) (he_op op_mulD reads_mul (he_op op_fdivW reads_div (he_var (pv 10)) (he_call' (cal__law_common KX G0 c0) (hr.mono (by decide)) hG rfl (hr_cons (he_var (pv 10)) (hr_cons (he_var (pv 15)) hr_nil)))) (he_var (pv 15)))))))) hss_nil)))
  (hss_cons (hs_set (i := 17) S__law_right.nd rfl (Or.inl rfl) (he_call' (cal_deal_move KX G0 c0) (hr.mono (by decide)) hG rfl (hr_cons (he_var (pv 1)) (hr_cons (he_var (pv 2)) hr_nil))))
  (hss_cons (hs_if (ht_not (ht_val (he_call' (cal__law_is KX G0 c0 8) (hr.mono (by decide)) hG rfl (hr_cons (he_of_fe (fe_lst (ha_cons (he_call' (cal_deal_times KX G0 c0) (hr.mono (by decide)) hG rfl (hr_cons (he_var (pv 1)) (hr_cons (he_var (pv 2)) hr_nil))) (ha_cons (he_callK' (calk_deal_times_step_cards KX G0 c0) (hr.mono (by decide)) hG rfl (hk_cons (he_var (pv 2)) (hk_cons (he_var (pv 1)) hk_nil))) (ha_cons (he_call' (cal_times_back KX G0 c0) (hr.mono (by decide)) hG rfl (hr_cons (he_var (pv 17)) hr_nil)) (ha_cons (he_call' (cal_round_sizes KX G0 c0) (hr.mono (by decide)) hG rfl (hr_cons (he_var (pv 17)) hr_nil)) ha_nil)))))) (hr_cons (he_of_fe (fe_lst (ha_cons (he_var (pv 10)) (ha_cons (he_var (pv 10)) (ha_cons (he_var (pv 10)) (ha_cons (he_of_fe (fe_rev (he_of_fe (fe_callB cr_sortedI reads_srt rfl (fr_sorted KX G0 c0) bt_sorted (ha_cons (he_var (pv 11)) ha_nil))))) ha_nil)))))) hr_nil))))) (hss_one (hs_ret he_bl)) hss_nil)
  (hss_cons (hs_if (ht_w (hw_or (ht_cmp (op_neA hr.units) reads_ne (he_call' (cal_done KX G0 c0) (hr.mono (by decide)) hG rfl (hr_cons (he_var (pv 17)) (hr_cons (he_var (pv 10)) hr_nil))) (he_call' (cal_plain KX G0 c0) (hr.mono (by decide)) hG rfl (hr_cons (he_var (pv 1)) hr_nil)) (nomark _)) (hw_or1 (ht_w (hw_and (ht_cmp op_gt (reads_cmpI _) (he_var (pv 10)) he_int (nomark _)) (hw_and1 (ht_cmp (op_neA hr.units) reads_ne (he_call' (cal_done KX G0 c0) (hr.mono (by decide)) hG rfl (hr_cons (he_var (pv 17)) (hr_cons (he_op op_sub reads_sub (he_var (pv 10)) he_int) hr_nil))) (he_call' (cal_back KX G0 c0) (hr.mono (by decide)) hG rfl (hr_cons (he_var (pv 17)) hr_nil)) (nomark _)))))))) (hss_one (hs_ret he_bl)) hss_nil)
  (hss_cons (hs_set (i := 18) S__law_right.nd rfl (Or.inl rfl) (he_call' (cal_behind KX G0 c0) (hr.mono (by decide)) hG rfl (hr_cons (he_var (pv 17)) (hr_cons (he_call' (cal_deal_move KX G0 c0) (hr.mono (by decide)) hG rfl (hr_cons (he_var (pv 1)) (hr_cons (he_var (pv 3)) hr_nil))) hr_nil))))
  (hss_cons (hs_if (ht_cmp (op_neA hr.units) reads_ne (he_call' (cal_moved KX G0 c0) (hr.mono (by decide)) hG rfl (hr_cons (he_var (pv 4)) (hr_cons (he_var (pv 18)) hr_nil))) (he_call' (cal_deal_sequence KX G0 c0) (hr.mono (by decide)) hG rfl (hr_cons (he_call' (cal_deal_sequence KX G0 c0) (hr.mono (by decide)) hG rfl (hr_cons (he_var (pv 4)) (hr_cons (he_var (pv 2)) hr_nil))) (hr_cons (he_var (pv 3)) hr_nil))) (nomark _)) (hss_one (hs_ret he_bl)) hss_nil)
  (hss_one (hs_ret (he_and (he_cmp (op_eqA hr.units) reads_eq (he_call' (cal_prepared KX G0 c0) (hr.mono (by decide)) hG rfl (hr_cons (he_call' (cal_prepared KX G0 c0) (hr.mono (by decide)) hG rfl (hr_cons (he_var (pv 4)) (hr_cons (he_var (pv 3)) hr_nil))) (hr_cons (he_var (pv 2)) hr_nil))) (he_call' (cal_moved KX G0 c0) (hr.mono (by decide)) hG rfl (hr_cons (he_var (pv 4)) (hr_cons (he_call' (cal_back KX G0 c0) (hr.mono (by decide)) hG rfl (hr_cons (he_var (pv 18)) hr_nil)) hr_nil))) (nomark _)) (he_one (he_cmp (op_eqA hr.units) reads_eq (he_callB (call_repr hG hr.units) reads_repr rfl (fr_repr KX G0 c0) bt_repr (ha_cons (he_var (pv 4)) ha_nil)) (he_var (pv 5)) (nomark _))))))))))))))))))))
include KX G0 c0 in
theorem cal__law_right : Cal P w K mg base 10 "_law_right" [.mu] m__law_right := by
  obtain ⟨fd, F⟩ : ∃ fd, FunD K "_law_right" "_law_right" (defArgs s__law_right) (defBody s__law_right) (defScope s__law_right) [] [] (He.fAd K ("_law_right", none)) fd := c0.def_ 40 (d := d__law_right) rfl
  exact calD F (ok__law_right KX G0 c0 F) (He.glo_ok KX G0 (c0.fact 40 (f := .glo "_law_right") rfl)) rfl fun _ _ _ _ _ _ us hl => match us, hl with | [_], _ => rfl
/-! _law_pot -/
theorem S__law_pot : FnScope ["script", "k", "cell", "some"] ["script", "k"] (defScope s__law_pot) := ⟨rfl, rfl, rfl, by decide +kernel, rfl, by decide +kernel, by decide +kernel⟩
def g__law_pot : Sx :=
  sSeq (sSet 2 (xIf (sT (xB ltD (xVar 1) (xLenSc 0))) (xN absD (yCons (xIxSc 0 (xVar 1)) yNil)) (xB addD (xB addD (xB mulD (xC (.int 311)) (xVar 1)) (xC (.int 227))) (xB modD (xN absD (yCons (xN sumD (yCons (xFz (ySlSc 0 oNo (oSo (xC (.int 1))))) yNil)) yNil)) (xC (.int 1000003))))))
  (sSeq (sSet 3 (xB addD (xB modD (xN intD (yCons (xB addD (xB addD (xB mulD (xB modD (xN intD (yCons (xVar 2) yNil)) (xC (.int 2147483549))) (xC (.int 40507))) (xB mulD (xC (.int 8623)) (xVar 1))) (xC (.int 157))) yNil)) (xC (.int 2147483563))) (xC (.int 1))))
  (sRetO (yLst (yCons (xN maxD (yCons (xC (.int 0)) (yCons (xB subD (xVar 2) (xB powD (xC (.int 10)) (xC (.int 18)))) yNil))) (yCons (xVar 3) yNil)))))
def m__law_pot : Fn := mkFn 4 2 g__law_pot
theorem u__law_pot {s0 s1 : Sl} : m__law_pot [s0, s1] = @bI _ _ (g__law_pot [s0, s1, .em, .em]) ⟨fun fl e => @oI _ _ (outOf [s0, s1] e) ⟨fun out => fnK fl out⟩⟩ := mkFn_go rfl
include KX G0 c0 in
theorem ok__law_pot {fd : FuncData} (F : FunD K "_law_pot" "_law_pot" (defArgs s__law_pot) (defBody s__law_pot) (defScope s__law_pot) [] [] (He.fAd K ("_law_pot", none)) fd) : FnG P w K mg base CX0 1 (He.fAd K ("_law_pot", none)) fd ["script", "k"] (spD K 2 m__law_pot) :=
  okD F S__law_pot fun cdv A outer s H hr hG =>
  hss_cons (hs_set (i := 2) S__law_pot.nd rfl (Or.inl rfl) (he_if (ht_cmp op_lt (reads_cmpI _) (he_var (pv 1)) (he_lenSc (pv 0) rfl (fr_len KX G0 c0)) (nomark _)) (he_callB call_abs reads_abs rfl (fr_abs KX G0 c0) bt_abs (ha_cons (he_ixSc (pv 0) (he_var (pv 1)) (fun _ _ => rfl)) ha_nil)) (he_op op_addD reads_add (he_op op_addD reads_add (he_op op_mulD reads_mul he_int (he_var (pv 1))) he_int) (he_op op_mod reads_mod (he_callB call_abs reads_abs rfl (fr_abs KX G0 c0) bt_abs (ha_cons (he_callB (cr_sum rfl) reads_sum rfl (fr_sum KX G0 c0) bt_sum (ha_cons (he_of_fe (fe_slSc (pv 0) ho_no (ho_so he_int))) ha_nil)) ha_nil)) he_int))))
  (hss_cons (hs_set (i := 3) S__law_pot.nd rfl (Or.inl rfl) (he_op op_addD reads_add (he_op op_mod reads_mod (he_callTy call_int1 reads_int rfl (fr_int KX G0 c0) bt_int (ha_cons (he_op op_addD reads_add (he_op op_addD reads_add (he_op op_mulD reads_mul (he_op op_mod reads_mod (he_callTy call_int1 reads_int rfl (fr_int KX G0 c0) bt_int (ha_cons (he_var (pv 2)) ha_nil)) he_int) he_int) (he_op op_mulD reads_mul he_int (he_var (pv 1)))) he_int) ha_nil)) he_int) he_int))
  (hss_one (hs_retO (fe_lst (ha_cons (he_callB (call_maxD rfl) reads_max rfl (fr_max KX G0 c0) bt_max (ha_cons he_int (ha_cons (he_op op_sub reads_sub (he_var (pv 2)) (he_op op_pow reads_pow he_int he_int)) ha_nil))) (ha_cons (he_var (pv 3)) ha_nil))))))
include KX G0 c0 in
theorem cal__law_pot : Cal P w K mg base 1 "_law_pot" [.sc, .vl] m__law_pot := by
  obtain ⟨fd, F⟩ : ∃ fd, FunD K "_law_pot" "_law_pot" (defArgs s__law_pot) (defBody s__law_pot) (defScope s__law_pot) [] [] (He.fAd K ("_law_pot", none)) fd := c0.def_ 30 (d := d__law_pot) rfl
  exact calD F (ok__law_pot KX G0 c0 F) (He.glo_ok KX G0 (c0.fact 30 (f := .glo "_law_pot") rfl)) rfl fun _ _ _ _ _ _ us hl => match us, hl with | [_, _], _ => rfl
/-! law -/
theorem S_law : FnScope ["script", "k"] ["script"] (defScope s_law) := ⟨rfl, rfl, rfl, by decide +kernel, rfl, by decide +kernel, by decide +kernel⟩
theorem bo_law_1 : BlkOk ["script", "k"] (defScope s_law) ⟨.function, [(".0", .local), ("k", .local), ("_law_right", .globalImplicit), ("_law_pot", .globalImplicit), ("script", .free)], false, false, []⟩ [("k", 1)] := ⟨rfl, by decide +kernel, by decide +kernel, by decide +kernel, by decide +kernel⟩
def ce_law_1 : Ex :=
  xCall [.mu] m__law_right (zConsO (yCall [.sc, .vl] m__law_pot (zCons (xVar 0) (zCons (xVar 1) zNil))) zNil)
def g_law : Sx :=
  sRet (xN allD (yCons (xFz (yLc [1] (srcR1 (xN maxD (yCons (xC (.int 1)) (yCons (xN minD (yCons (xC (.int 3)) (yCons (xLenSc 0) yNil))) yNil)))) (gN 1) sYes ce_law_1)) yNil))
def m_law : Fn := mkFn 2 1 g_law
theorem u_law {s0 : Sl} : m_law [s0] = @bI _ _ (g_law [s0, .em]) ⟨fun fl e => @oI _ _ (outOf [s0] e) ⟨fun out => fnK fl out⟩⟩ := mkFn_go rfl
include KX G0 c0 in
theorem ok_law {fd : FuncData} (F : FunD K "law" "law" (defArgs s_law) (defBody s_law) (defScope s_law) [] [] (He.fAd K ("law", none)) fd) : FnG P w K mg base CX0 11 (He.fAd K ("law", none)) fd ["script"] (spD K 1 m_law) :=
  okD F S_law fun cdv A outer s H hr hG =>
  hss_one (hs_ret (he_callB (cr_all rfl) reads_all rfl (fr_all KX G0 c0) bt_all (ha_cons (he_of_fe (fe_lc (own := [("k", 1)]) (is := [1]) rfl S_law.nd (hi_range1 rfl (fr_range KX G0 c0) (he_callB (call_maxD rfl) reads_max rfl (fr_max KX G0 c0) bt_max (ha_cons he_int (ha_cons (he_callB (call_minD rfl) reads_min rfl (fr_min KX G0 c0) bt_min (ha_cons he_int (ha_cons (he_lenSc (pv 0) rfl (fr_len KX G0 c0)) ha_nil))) ha_nil)))) bo_law_1 (by decide) (by exact fun _ _ _ _ _ => hg_name (pg_name (i := 1) S_law.nd rfl (Or.inl rfl))) (by exact fun _ _ _ _ _ => hts_nil) (by exact fun _ _ _ _ _ => he_call' (cal__law_right KX G0 c0) (hr.mono (by decide)) hG rfl (hr_consO (fe_call' (cal__law_pot KX G0 c0) (hr.mono (by decide)) hG rfl (hr_cons (he_var (pv 0)) (hr_cons (he_var (pv 1)) hr_nil))) hr_nil)))) ha_nil)))
include KX G0 c0 in
theorem cal_law : Cal P w K mg base 11 "law" [.sc] m_law := by
  obtain ⟨fd, F⟩ : ∃ fd, FunD K "law" "law" (defArgs s_law) (defBody s_law) (defScope s_law) [] [] (He.fAd K ("law", none)) fd := c0.def_ 41 (d := d_law) rfl
  exact calD F (ok_law KX G0 c0 F) (He.glo_ok KX G0 (c0.fact 41 (f := .glo "law") rfl)) rfl fun _ _ _ _ _ _ us hl => match us, hl with | [_], _ => rfl
end
end GG
end
section
set_option maxRecDepth 100000
set_option maxHeartbeats 4000000
/-! plain part A: data of ints; equality; no program -/
namespace MM
open PySem DL
abbrev iL (ns : List Int) : List D := ns.map PyData.int
abbrev iT (ns : List Int) : D := .tuple (iL ns)
abbrev iLs (ns : List Int) : D := .list (iL ns)
def rgZ (n : Nat) : List Int := (List.range n).map fun i : Nat => (i : Int)
theorem rgZ_len (n : Nat) : (rgZ n).length = n := by simp [rgZ]
theorem rgL_iL (n : Nat) : rgL 0 (n : Int) = iL (rgZ n) := by
  rw [rgL_map]
  simp [iL, rgZ]
theorem rgZ_get {n i : Nat} (h : i < n) : (rgZ n)[i]? = some (i : Int) := by simp [rgZ, h]
theorem mem_rgZ {n : Nat} {i : Int} : i ∈ rgZ n ↔ 0 ≤ i ∧ i < n := by
  simp only [rgZ, List.mem_map, List.mem_range]
  refine ⟨fun ⟨a, h1, h2⟩ => by omega, fun ⟨h1, h2⟩ => ⟨i.toNat, by omega, by omega⟩⟩
theorem rgZ_nodup (n : Nat) : (rgZ n).Nodup := by
  unfold rgZ
  exact List.Pairwise.map _ (fun a b (h : a ≠ b) => by
    show ¬ (a : Int) = (b : Int)
    omega) (List.nodup_range (n := n))
/-! equality -/
theorem lay_iL : ∀ ns : List Int, PyData.canLayAll0 (iL ns) = true
  | [] => rfl
  | n :: ns => by simpa [iL, PyData.canLayAll0, PyData.canLay0] using lay_iL ns
theorem dep_iL : ∀ ns : List Int, PyData.depthAll (iL ns) = 0
  | [] => rfl
  | n :: ns => by
    have := dep_iL ns
    simp only [iL, List.map_cons, PyData.depthAll, PyData.depth] at this ⊢
    omega
theorem eqv_iL : ∀ a b : List Int, PyData.eqvAll (iL a) (iL b) = decide (a = b)
  | [], [] => rfl
  | [], _ :: _ => by simp [iL, PyData.eqvAll]
  | _ :: _, [] => by simp [iL, PyData.eqvAll]
  | x :: a, y :: b => by
    have h := eqv_iL a b
    simp only [iL, List.map_cons, PyData.eqvAll, PyData.eqv] at h ⊢
    rw [h]
    by_cases hx : x = y
    · subst hx
      simp
    · simp [hx]
theorem sh_i {i : Int} : SeqAt.shaped (.int i) = true := by simp [SeqAt.shaped, PyData.canLay0, PyData.depth]
theorem sh_b {i : Bool} : SeqAt.shaped (.bool i) = true := by simp [SeqAt.shaped, PyData.canLay0, PyData.depth]
theorem sh_iT {ns : List Int} : SeqAt.shaped (iT ns) = true := by
  simp only [SeqAt.shaped, PyData.canLay0, PyData.depth, lay_iL, dep_iL]
  decide
theorem sh_iLs {ns : List Int} : SeqAt.shaped (iLs ns) = true := by
  simp only [SeqAt.shaped, PyData.canLay0, PyData.depth, lay_iL, dep_iL]
  decide
@[simp] theorem eqD_i {i j : Int} : eqD (.int i) (.int j) = some (.bool (decide (i = j))) := by
  unfold eqD
  simp only []
  rw [sh_i, sh_i]
  simp [PyData.eqv, gd, BEq.beq]
@[simp] theorem neD_i {i j : Int} : neD (.int i) (.int j) = some (.bool (!decide (i = j))) := by
  unfold neD
  simp only []
  rw [sh_i, sh_i]
  simp [PyData.eqv, gd, BEq.beq]
@[simp] theorem eqD_b {i j : Bool} : eqD (.bool i) (.bool j) = some (.bool (i == j)) := by
  unfold eqD
  simp only []
  rw [sh_b, sh_b]
  simp [PyData.eqv, gd]
@[simp] theorem eqD_T {a b : List Int} : eqD (iT a) (iT b) = some (.bool (decide (a = b))) := by
  unfold eqD
  simp only []
  rw [sh_iT, sh_iT]
  simp only [PyData.eqv, eqv_iL]
  rfl
@[simp] theorem neD_T {a b : List Int} : neD (iT a) (iT b) = some (.bool (!decide (a = b))) := by
  unfold neD
  simp only []
  rw [sh_iT, sh_iT]
  simp only [PyData.eqv, eqv_iL]
  rfl
@[simp] theorem eqD_L {a b : List Int} : eqD (iLs a) (iLs b) = some (.bool (decide (a = b))) := by
  unfold eqD
  simp only []
  rw [sh_iLs, sh_iLs]
  simp only [PyData.eqv, eqv_iL]
  rfl
@[simp] theorem neD_L {a b : List Int} : neD (iLs a) (iLs b) = some (.bool (!decide (a = b))) := by
  unfold neD
  simp only []
  rw [sh_iLs, sh_iLs]
  simp only [PyData.eqv, eqv_iL]
  rfl
theorem eqv_in {ns : List Int} {k : Int} : ((iL ns).any fun z => PyData.eqv z (.int k)) = decide (k ∈ ns) := by
  induction ns with
  | nil => rfl
  | cons n ns ih =>
    rw [show iL (n :: ns) = .int n :: iL ns from rfl, List.any_cons, ih]
    simp only [PyData.eqv]
    by_cases h : n = k
    · subst h
      simp
    · have : k ≠ n := fun z => h z.symm
      simp [h, this]
theorem inD_L {ns : List Int} {k : Int} : inD (.int k) (iLs ns) = some (decide (k ∈ ns)) := by
  show gd (SeqAt.shaped (.int k) && SeqAt.shaped (iLs ns)) (some ((iL ns).any fun z => PyData.eqv z (.int k))) = _
  rw [sh_i, sh_iLs, eqv_in]
  rfl
theorem flat_iL (ns : List Int) : (iL ns).all flatD = true := by
  simp [iL, flatD]
theorem inD_T {ns : List Int} {k : Int} : inD (.int k) (iT ns) = some (decide (k ∈ ns)) := by
  show gd (flatD (.int k) && (iL ns).all flatD) (some ((iL ns).any fun z => PyData.eqv z (.int k))) = _
  rw [flat_iL, eqv_in]
  rfl
@[simp] theorem isIn_L {ns : List Int} {k : Int} : isIn (.int k) (iLs ns) = some (.bool (decide (k ∈ ns))) := by
  unfold isIn
  rw [inD_L]
  rfl
@[simp] theorem notIn_L {ns : List Int} {k : Int} : notIn (.int k) (iLs ns) = some (.bool (!decide (k ∈ ns))) := by
  unfold notIn
  rw [inD_L]
  rfl
@[simp] theorem isIn_T {ns : List Int} {k : Int} : isIn (.int k) (iT ns) = some (.bool (decide (k ∈ ns))) := by
  unfold isIn
  rw [inD_T]
  rfl
@[simp] theorem notIn_T {ns : List Int} {k : Int} : notIn (.int k) (iT ns) = some (.bool (!decide (k ∈ ns))) := by
  unfold notIn
  rw [inD_T]
  rfl
/-! lists of ints as data -/
@[simp] theorem intsD_iL (ns : List Int) : intsD (iL ns) = some ns := intsD_map ns
theorem cutD_iL (ns : List Int) (lo hi : Option Int) : cutD (iL ns) lo hi = iL ((ns.drop (HT.sIx ns.length 0 lo)).take (HT.sIx ns.length ns.length hi - HT.sIx ns.length 0 lo)) := by
  unfold cutD
  simp [iL, List.map_take, List.map_drop]
theorem cut_to (ns : List Int) (n : Nat) : cutD (iL ns) none (some (n : Int)) = iL (ns.take n) := by
  rw [cutD_to]
  simp [iL, List.map_take]
theorem cut_from (ns : List Int) (n : Nat) : cutD (iL ns) (some (n : Int)) none = iL (ns.drop n) := by
  rw [cutD_from]
  simp [iL, List.map_drop]
theorem atI_iL {ns : List Int} {i : Int} (h0 : 0 ≤ i) (h : i < ns.length) : L2.atI (iL ns) i = some (.int (ns.getD i.toNat 0)) := by
  rw [atI_int h0 (by simpa [iL] using h)]
  have hn : i.toNat < ns.length := by omega
  simp [iL, List.getElem?_map, List.getElem?_eq_getElem hn, List.getD_eq_getElem?_getD]
theorem iL_len (ns : List Int) : (iL ns).length = ns.length := by simp [iL]
@[simp] theorem neD_L0 {a : List Int} : neD (iLs a) (.list []) = some (.bool (!decide (a = []))) := neD_L (b := [])
@[simp] theorem eqD_L0 {a : List Int} : eqD (iLs a) (.list []) = some (.bool (decide (a = []))) := eqD_L (b := [])
@[simp] theorem eqD_T0 {a : List Int} : eqD (iT a) (.tuple []) = some (.bool (decide (a = []))) := eqD_T (b := [])
@[simp] theorem eqD_s {a b : Str} : eqD (.str a) (.str b) = some (.bool (a == b)) := rfl
@[simp] theorem neD_s {a b : Str} : neD (.str a) (.str b) = some (.bool (!(a == b))) := rfl
@[simp] theorem pow_18 : powD (.int 10) (.int 18) = some (.int 1000000000000000000) := by with_unfolding_all rfl
@[simp] theorem pow_30 : powD (.int 10) (.int 30) = some (.int 1000000000000000000000000000000) := by with_unfolding_all rfl
def rgF (lo : Int) (n : Nat) : List Int := (List.range n).map fun i : Nat => lo + (i : Int)
theorem rgF_len (lo : Int) (n : Nat) : (rgF lo n).length = n := by simp [rgF]
theorem rgF_zero (n : Nat) : rgF 0 n = rgZ n := by
  unfold rgF rgZ
  refine List.map_congr_left fun i _ => ?_
  omega
theorem mem_rgF {lo : Int} {n : Nat} {i : Int} : i ∈ rgF lo n ↔ lo ≤ i ∧ i < lo + n := by
  simp only [rgF, List.mem_map, List.mem_range]
  refine ⟨fun ⟨a, h1, h2⟩ => by omega, fun ⟨h1, h2⟩ => ⟨(i - lo).toNat, by omega, by omega⟩⟩
/-- ints as items -/
abbrev iI (q : List Int) : List Itm := q.map (Itm.v ∘ PyData.int)
theorem iI_cons (i : Int) (q : List Int) : iI (i :: q) = .v (.int i) :: iI q := rfl
theorem rgI_F (lo : Int) (n : Nat) : rgI lo n = iI (rgF lo n) := by
  unfold rgI rgF
  simp [iI]
theorem rgI_Z (n : Nat) : rgI 0 n = iI (rgZ n) := by rw [rgI_F, rgF_zero]
/-- a comprehension over ints that changes nothing -/
theorem lcGo_ints {own : List Nat} {t : Tg} {k : Ts} {f : Ex} {e : En} (φ : Int → Option D) {q : List Int} (h : ∀ i ∈ q, lcOne own t k f (.v (.int i)) e = some (φ i, e)) : lcGo own t k f (iI q) e = some (q.filterMap φ, e) := by
  induction q with
  | nil => rfl
  | cons i q ih =>
    rw [iI_cons, lcGo_cons, h i (List.mem_cons_self ..), bnd_some, ih fun j hj => h j (List.mem_cons_of_mem _ hj), bnd_some, List.filterMap_cons]
    cases φ i <;> rfl
theorem fm_some {α β : Type} (g : α → β) : ∀ q : List α, (q.filterMap fun i => some (g i)) = q.map g
  | [] => rfl
  | a :: q => by rw [List.filterMap_cons, fm_some g q]; rfl
theorem lcGo_intsM {own : List Nat} {t : Tg} {k : Ts} {f : Ex} {e : En} (φ : Int → D) {q : List Int} (h : ∀ i ∈ q, lcOne own t k f (.v (.int i)) e = some (some (φ i), e)) : lcGo own t k f (iI q) e = some (q.map φ, e) := by
  rw [lcGo_ints (fun i => some (φ i)) h, fm_some]
theorem iL_app (a b : List Int) : iL a ++ iL b = iL (a ++ b) := by simp [iL]
end MM
end
section
set_option maxRecDepth 100000
set_option maxHeartbeats 4000000
/-! plain part M: packs as lists of ints; no program -/
namespace MM
open PySem DL
/-- the entry at a place -/
def gt (p : List Int) (i : Int) : Int := p.getD i.toNat 0
def mv (p m : List Int) : List Int := m.map (gt p)
def Pk (p : List Int) : Prop := p.Perm (rgZ p.length)
theorem gt_nat {p : List Int} {i : Nat} (h : i < p.length) : gt p (i : Int) = p[i] := by
  unfold gt
  rw [Int.toNat_natCast, List.getD_eq_getElem?_getD, List.getElem?_eq_getElem h]
  rfl
theorem gt_get {p : List Int} {i : Int} (h0 : 0 ≤ i) (h : i < p.length) : p[i.toNat]? = some (gt p i) := by
  have hn : i.toNat < p.length := by omega
  unfold gt
  rw [List.getD_eq_getElem?_getD, List.getElem?_eq_getElem hn]
  rfl
theorem gt_mem {p : List Int} {i : Int} (h0 : 0 ≤ i) (h : i < p.length) : gt p i ∈ p := List.mem_of_getElem? (gt_get h0 h)
theorem mem_gt {p : List Int} {x : Int} (h : x ∈ p) : ∃ i : Int, 0 ≤ i ∧ i < p.length ∧ gt p i = x := by
  obtain ⟨i, hi, e⟩ := List.mem_iff_getElem.mp h
  exact ⟨i, by omega, by omega, by rw [gt_nat hi, e]⟩
theorem ext_gt {a b : List Int} (hl : a.length = b.length) (h : ∀ i : Int, 0 ≤ i → i < a.length → gt a i = gt b i) : a = b := by
  refine List.ext_getElem hl fun i h1 h2 => ?_
  have := h i (by omega) (by omega)
  rwa [gt_nat h1, gt_nat h2] at this
theorem gt_rgZ {n : Nat} {i : Int} (h0 : 0 ≤ i) (h : i < n) : gt (rgZ n) i = i := by
  have h1 : i.toNat < n := by omega
  have := rgZ_get h1
  unfold gt
  rw [List.getD_eq_getElem?_getD, this]
  show ((i.toNat : Nat) : Int) = i
  omega
section
variable {p q m : List Int}
theorem Pk.mem (h : Pk p) {i : Int} : i ∈ p ↔ 0 ≤ i ∧ i < p.length := by
  rw [h.mem_iff, mem_rgZ]
theorem Pk.nodup (h : Pk p) : p.Nodup := h.nodup_iff.mpr (rgZ_nodup _)
theorem Pk.of (hd : p.Nodup) (h : ∀ i : Int, i ∈ p ↔ 0 ≤ i ∧ i < p.length) : Pk p := (List.perm_ext_iff_of_nodup hd (rgZ_nodup _)).mpr fun i => by rw [h, mem_rgZ]
theorem Pk.gt_lo (h : Pk p) {i : Int} (h0 : 0 ≤ i) (h1 : i < p.length) : 0 ≤ gt p i := (h.mem.mp (gt_mem h0 h1)).1
theorem Pk.gt_hi (h : Pk p) {i : Int} (h0 : 0 ≤ i) (h1 : i < p.length) : gt p i < p.length := (h.mem.mp (gt_mem h0 h1)).2
theorem Pk.rg (n : Nat) : Pk (rgZ n) := by
  unfold Pk
  rw [rgZ_len]
theorem nodup_gt (h : p.Nodup) {i j : Int} (h0 : 0 ≤ i) (h1 : i < p.length) (h2 : 0 ≤ j) (h3 : j < p.length) (e : gt p i = gt p j) : i = j := by
  have a := gt_get h0 h1
  have b := gt_get h2 h3
  rw [← e] at b
  have hi : i.toNat < p.length := by omega
  have hj : j.toNat < p.length := by omega
  rw [List.getElem?_eq_getElem hi] at a
  rw [List.getElem?_eq_getElem hj] at b
  have e2 : p[i.toNat] = p[j.toNat] := by
    injection a with a
    injection b with b
    rw [a, b]
  have := (List.getElem_inj h).mp e2
  omega
theorem mv_len : (mv p m).length = m.length := by simp [mv]
theorem gt_mv {i : Int} (h0 : 0 ≤ i) (h : i < m.length) : gt (mv p m) i = gt p (gt m i) := by
  have hn : i.toNat < m.length := by omega
  show ((m.map (gt p)).getD i.toNat 0) = gt p (m.getD i.toNat 0)
  rw [List.getD_eq_getElem?_getD, List.getD_eq_getElem?_getD, List.getElem?_map, List.getElem?_eq_getElem hn]
  rfl
theorem mv_assoc (h : ∀ x ∈ q, 0 ≤ x ∧ x < m.length) : mv (mv p m) q = mv p (mv m q) := by
  unfold mv
  rw [List.map_map]
  refine List.map_congr_left fun x hx => ?_
  obtain ⟨h0, h1⟩ := h x hx
  exact gt_mv h0 h1
theorem mv_rg : mv p (rgZ p.length) = p := by
  refine ext_gt (by rw [mv_len, rgZ_len]) fun i h0 h1 => ?_
  rw [mv_len, rgZ_len] at h1
  rw [gt_mv h0 (by rw [rgZ_len]; exact h1), gt_rgZ h0 h1]
theorem rg_mv {n : Nat} (h : ∀ x ∈ m, 0 ≤ x ∧ x < n) : mv (rgZ n) m = m := by
  unfold mv
  conv => rhs; rw [← List.map_id m]
  refine List.map_congr_left fun x hx => ?_
  obtain ⟨h0, h1⟩ := h x hx
  exact gt_rgZ h0 h1
theorem Pk.mv (hp : Pk p) (hm : Pk m) (hl : p.length = m.length) : Pk (MM.mv p m) := by
  refine Pk.of ?_ fun i => ?_
  · refine List.Pairwise.map _ (fun a b h => h) ?_
    refine List.Pairwise.imp_of_mem ?_ hm.nodup
    intro a b ha hb hab e
    have h1 := hm.mem.mp ha
    have h2 := hm.mem.mp hb
    exact hab (nodup_gt hp.nodup h1.1 (by omega) h2.1 (by omega) e)
  · rw [mv_len, ← hl, ← hp.mem]
    unfold MM.mv
    rw [List.mem_map]
    refine ⟨fun ⟨j, hj, e⟩ => ?_, fun h => ?_⟩
    · have := hm.mem.mp hj
      rw [← e]
      exact gt_mem this.1 (by omega)
    · obtain ⟨j, h0, h1, e⟩ := mem_gt h
      exact ⟨j, hm.mem.mpr ⟨h0, by omega⟩, e⟩
/-! the way back -/
def bk (m : List Int) : List Int := (rgZ m.length).map fun v => (m.idxOf v : Int)
theorem bk_len : (bk m).length = m.length := by simp [bk, rgZ_len]
theorem gt_bk {v : Int} (h0 : 0 ≤ v) (h : v < m.length) : gt (bk m) v = m.idxOf v := by
  have hn : v.toNat < m.length := by omega
  show (((rgZ m.length).map fun v => (m.idxOf v : Int)).getD v.toNat 0) = _
  rw [List.getD_eq_getElem?_getD, List.getElem?_map, rgZ_get hn]
  show ((m.idxOf ((v.toNat : Nat) : Int) : Nat) : Int) = _
  rw [show ((v.toNat : Nat) : Int) = v by omega]
theorem Pk.bk_gt (h : Pk m) {i : Int} (h0 : 0 ≤ i) (h1 : i < m.length) : gt (MM.bk m) (gt m i) = i := by
  rw [gt_bk (h.gt_lo h0 h1) (h.gt_hi h0 h1)]
  have hi : i.toNat < m.length := by omega
  have hm : gt m i ∈ m := gt_mem h0 h1
  have hx : m.idxOf (gt m i) < m.length := List.idxOf_lt_length_iff.mpr hm
  have e : gt m ((m.idxOf (gt m i) : Nat) : Int) = gt m i := by
    rw [gt_nat hx]
    exact List.getElem_idxOf hx
  exact nodup_gt h.nodup (by omega) (by omega) h0 h1 e
theorem Pk.gt_gtbk (h : Pk m) {v : Int} (h0 : 0 ≤ v) (h1 : v < m.length) : gt m (gt (MM.bk m) v) = v := by
  rw [gt_bk h0 h1]
  have hm : v ∈ m := h.mem.mpr ⟨h0, h1⟩
  have hx : m.idxOf v < m.length := List.idxOf_lt_length_iff.mpr hm
  rw [gt_nat hx]
  exact List.getElem_idxOf hx
theorem Pk.gtbk_lo (h : Pk m) {v : Int} (h0 : 0 ≤ v) (h1 : v < m.length) : 0 ≤ gt (MM.bk m) v ∧ gt (MM.bk m) v < m.length := by
  rw [gt_bk h0 h1]
  have hm : v ∈ m := h.mem.mpr ⟨h0, h1⟩
  have hx : m.idxOf v < m.length := List.idxOf_lt_length_iff.mpr hm
  omega
theorem Pk.bk (h : Pk m) : Pk (MM.bk m) := by
  refine Pk.of ?_ fun i => ?_
  · refine List.Pairwise.map _ (fun a b h => h) ?_
    refine List.Pairwise.imp_of_mem ?_ (rgZ_nodup _)
    intro a b ha hb hab e
    have h1 := mem_rgZ.mp ha
    have h2 := mem_rgZ.mp hb
    refine hab ?_
    have := h.gt_gtbk h1.1 h1.2
    rw [gt_bk h1.1 h1.2, show ((m.idxOf a : Nat) : Int) = m.idxOf b from e, ← gt_bk h2.1 h2.2, h.gt_gtbk h2.1 h2.2] at this
    exact this.symm
  · rw [bk_len]
    refine ⟨fun hi => ?_, fun ⟨h0, h1⟩ => ?_⟩
    · obtain ⟨v, hv0, hv1, e⟩ := mem_gt hi
      rw [bk_len] at hv1
      have := h.gtbk_lo hv0 hv1
      rw [e] at this
      exact this
    · have := h.bk_gt h0 h1
      rw [← this]
      exact gt_mem (h.gt_lo h0 h1) (by rw [bk_len]; exact h.gt_hi h0 h1)
theorem Pk.mv_bk (h : Pk m) : MM.mv m (MM.bk m) = rgZ m.length := by
  refine ext_gt (by rw [mv_len, bk_len, rgZ_len]) fun i h0 h1 => ?_
  rw [mv_len, bk_len] at h1
  rw [gt_mv h0 (by rw [bk_len]; exact h1), h.gt_gtbk h0 h1, gt_rgZ h0 h1]
theorem Pk.bk_mv (h : Pk m) : MM.mv (MM.bk m) m = rgZ m.length := by
  refine ext_gt (by rw [mv_len, rgZ_len]) fun i h0 h1 => ?_
  rw [mv_len] at h1
  rw [gt_mv h0 h1, h.bk_gt h0 h1, gt_rgZ h0 h1]
theorem Pk.inR (h : Pk m) {n : Nat} (hn : m.length = n) : ∀ x ∈ m, 0 ≤ x ∧ x < n := fun x hx => by
  have := h.mem.mp hx
  omega
/-- what is behind m the identity is the way back -/
theorem Pk.bk_uniq (hm : Pk m) (hq : Pk q) (hl : q.length = m.length) (h : MM.mv m q = rgZ m.length) : q = MM.bk m := by
  have e : MM.mv (MM.bk m) (MM.mv m q) = MM.mv (MM.bk m) (rgZ m.length) := by rw [h]
  rw [← mv_assoc (hq.inR hl), hm.bk_mv, rg_mv (hq.inR hl)] at e
  rw [e]
  have := mv_rg (p := MM.bk m)
  rw [bk_len] at this
  exact this
theorem Pk.bk_mvs (hm : Pk m) (hq : Pk q) (hl : q.length = m.length) : MM.bk (MM.mv m q) = MM.mv (MM.bk q) (MM.bk m) := by
  symm
  have hb := hm.bk
  have hbq := hq.bk
  have l1 : (MM.bk m).length = m.length := bk_len
  have l2 : (MM.bk q).length = q.length := bk_len
  have pq : Pk (MM.mv (MM.bk q) (MM.bk m)) := hbq.mv hb (by omega)
  refine Pk.bk_uniq (hm.mv hq hl.symm) pq (by rw [mv_len, mv_len]; omega) ?_
  rw [mv_len, mv_assoc (pq.inR (by rw [mv_len]; omega)), ← mv_assoc (m := MM.bk q) (hb.inR (by omega)), hq.mv_bk, hl, rg_mv (hb.inR l1), hm.mv_bk]
end
/-! powers -/
def pw (m : List Int) : Nat → List Int
  | 0 => rgZ m.length
  | k + 1 => mv (pw m k) m
theorem pw_len (m : List Int) : ∀ k, (pw m k).length = m.length
  | 0 => rgZ_len _
  | k + 1 => by rw [pw, mv_len]
theorem Pk.pw {m : List Int} (h : Pk m) : ∀ k, Pk (MM.pw m k)
  | 0 => Pk.rg _
  | k + 1 => (h.pw k).mv h (pw_len m k)
theorem pw_add {m : List Int} (h : Pk m) (a : Nat) : ∀ b, mv (pw m a) (pw m b) = pw m (a + b)
  | 0 => by
    have := mv_rg (p := pw m a)
    rw [pw_len] at this
    exact this
  | b + 1 => by
    show mv (pw m a) (mv (pw m b) m) = mv (pw m (a + b)) m
    rw [← mv_assoc (h.inR (pw_len m b).symm), pw_add h a b]
theorem pw_one {m : List Int} (h : Pk m) : pw m 1 = m := rg_mv (h.inR rfl)
def itg (m : List Int) : Nat → Int → Int
  | 0, x => x
  | k + 1, x => itg m k (gt m x)
theorem gt_pw {m : List Int} (h : Pk m) : ∀ (k : Nat) {x : Int}, 0 ≤ x → x < m.length → gt (pw m k) x = itg m k x
  | 0, x, h0, h1 => gt_rgZ h0 h1
  | k + 1, x, h0, h1 => by
    show gt (mv (pw m k) m) x = itg m k (gt m x)
    rw [gt_mv h0 h1, gt_pw h k (h.gt_lo h0 h1) (h.gt_hi h0 h1)]
theorem itg_add (m : List Int) : ∀ (a b : Nat) (x : Int), itg m (a + b) x = itg m b (itg m a x)
  | 0, b, x => by rw [Nat.zero_add]; rfl
  | a + 1, b, x => by
    rw [show a + 1 + b = (a + b) + 1 by omega]
    exact itg_add m a b (gt m x)
theorem itg_succ (m : List Int) (k : Nat) (x : Int) : itg m (k + 1) x = gt m (itg m k x) := itg_add m k 1 x
theorem itg_mul {m : List Int} {s : Nat} {x : Int} (h : itg m s x = x) : ∀ k, itg m (s * k) x = x
  | 0 => rfl
  | k + 1 => by rw [Nat.mul_succ, itg_add, itg_mul h k, h]
theorem itg_in {m : List Int} (h : Pk m) : ∀ (k : Nat) {x : Int}, 0 ≤ x → x < m.length → 0 ≤ itg m k x ∧ itg m k x < m.length
  | 0, x, h0, h1 => ⟨h0, h1⟩
  | k + 1, x, h0, h1 => itg_in h k (h.gt_lo h0 h1) (h.gt_hi h0 h1)
theorem itg_inj {m : List Int} (h : Pk m) : ∀ (k : Nat) {x y : Int}, 0 ≤ x → x < m.length → 0 ≤ y → y < m.length → itg m k x = itg m k y → x = y
  | 0, x, y, _, _, _, _, e => e
  | k + 1, x, y, h0, h1, h2, h3, e => nodup_gt h.nodup h0 h1 h2 h3 (itg_inj h k (h.gt_lo h0 h1) (h.gt_hi h0 h1) (h.gt_lo h2 h3) (h.gt_hi h2 h3) e)
/-! rounds -/
theorem len_le_of_sub : ∀ {l L : List Int}, l.Nodup → (∀ x ∈ l, x ∈ L) → l.length ≤ L.length
  | [], L, _, _ => Nat.zero_le _
  | a :: l, L, hd, hs => by
    have hd' := List.nodup_cons.mp hd
    have ha : a ∈ L := hs a (List.mem_cons_self ..)
    have h1 : ∀ x ∈ l, x ∈ L.erase a := fun x hx => (List.mem_erase_of_ne (fun (e : x = a) => hd'.1 (e ▸ hx))).mpr (hs x (List.mem_cons_of_mem _ hx))
    have := len_le_of_sub hd'.2 h1
    have hl := List.length_erase_of_mem ha
    have hp : 0 < L.length := List.length_pos_of_mem ha
    rw [List.length_cons]
    omega
/-- from here on, until one is met that was seen -/
def crow (m : List Int) : Nat → List Int → Int → List Int
  | 0, _, _ => []
  | k + 1, seen, here => if here ∈ seen then [] else here :: crow m k (seen ++ [here]) (gt m here)
/-- seen: different cards of the pack -/
structure Sn (m seen : List Int) : Prop where
  nd : seen.Nodup
  inn : ∀ x ∈ seen, 0 ≤ x ∧ x < m.length
theorem Sn.le {m seen : List Int} (s : Sn m seen) : seen.length ≤ m.length := by
  have := len_le_of_sub (L := rgZ m.length) s.nd fun x hx => mem_rgZ.mpr (s.inn x hx)
  rwa [rgZ_len] at this
theorem Sn.snoc {m seen : List Int} {x : Int} (s : Sn m seen) (h0 : 0 ≤ x) (h1 : x < m.length) (hx : x ∉ seen) : Sn m (seen ++ [x]) := by
  refine ⟨List.nodup_append.mpr ⟨s.nd, by simp, fun a ha b hb => ?_⟩, fun y hy => ?_⟩
  · rw [List.mem_singleton.mp hb]
    exact fun e => hx (e ▸ ha)
  · rcases List.mem_append.mp hy with hy | hy
    · exact s.inn y hy
    · rw [List.mem_singleton.mp hy]
      exact ⟨h0, h1⟩
theorem crow_stable {m : List Int} (h : Pk m) : ∀ (j k : Nat) {seen : List Int} {here : Int}, Sn m seen → 0 ≤ here → here < m.length → m.length ≤ j + seen.length → m.length ≤ k + seen.length → crow m j seen here = crow m k seen here
  | 0, 0, _, _, _, _, _, _, _ => rfl
  | 0, k + 1, seen, here, s, h0, h1, hj, hk => by
    have hin : here ∈ seen := Classical.byContradiction fun hn => by
      have := (s.snoc h0 h1 hn).le
      rw [List.length_append, List.length_singleton] at this
      omega
    show [] = if here ∈ seen then [] else _
    rw [if_pos hin]
  | j + 1, 0, seen, here, s, h0, h1, hj, hk => by
    have hin : here ∈ seen := Classical.byContradiction fun hn => by
      have := (s.snoc h0 h1 hn).le
      rw [List.length_append, List.length_singleton] at this
      omega
    show (if here ∈ seen then [] else _) = []
    rw [if_pos hin]
  | j + 1, k + 1, seen, here, s, h0, h1, hj, hk => by
    unfold crow
    by_cases hin : here ∈ seen
    · rw [if_pos hin, if_pos hin]
    · rw [if_neg hin, if_neg hin, crow_stable h j k (s.snoc h0 h1 hin) (h.gt_lo h0 h1) (h.gt_hi h0 h1) (by rw [List.length_append, List.length_singleton]; omega) (by rw [List.length_append, List.length_singleton]; omega)]
/-- what a row is -/
theorem crow_get {m : List Int} : ∀ (k : Nat) {seen : List Int} {here : Int} {i : Nat}, i < (crow m k seen here).length → (crow m k seen here)[i]? = some (itg m i here)
  | 0, _, _, _, h => by simp [crow] at h
  | k + 1, seen, here, i, h => by
    unfold crow at h ⊢
    by_cases hin : here ∈ seen
    · rw [if_pos hin] at h
      simp at h
    · rw [if_neg hin] at h ⊢
      cases i with
      | zero => rfl
      | succ i =>
        rw [List.length_cons] at h
        rw [List.getElem?_cons_succ]
        exact crow_get k (by omega)
theorem crow_sn {m : List Int} (h : Pk m) : ∀ (k : Nat) {seen : List Int} {here : Int}, Sn m seen → 0 ≤ here → here < m.length → Sn m (seen ++ crow m k seen here)
  | 0, seen, here, s, _, _ => by
    show Sn m (seen ++ [])
    rw [List.append_nil]
    exact s
  | k + 1, seen, here, s, h0, h1 => by
    unfold crow
    by_cases hin : here ∈ seen
    · rw [if_pos hin, List.append_nil]
      exact s
    · rw [if_neg hin]
      have := crow_sn h k (s.snoc h0 h1 hin) (h.gt_lo h0 h1) (h.gt_hi h0 h1)
      rwa [List.append_assoc] at this
theorem crow_end {m : List Int} (h : Pk m) : ∀ (k : Nat) {seen : List Int} {here : Int}, Sn m seen → 0 ≤ here → here < m.length → m.length ≤ k + seen.length → itg m (crow m k seen here).length here ∈ seen ++ crow m k seen here
  | 0, seen, here, s, h0, h1, hk => by
    have hin : here ∈ seen := Classical.byContradiction fun hn => by
      have := (s.snoc h0 h1 hn).le
      rw [List.length_append, List.length_singleton] at this
      omega
    exact List.mem_append_left _ hin
  | k + 1, seen, here, s, h0, h1, hk => by
    unfold crow
    by_cases hin : here ∈ seen
    · rw [if_pos hin]
      exact List.mem_append_left _ hin
    · rw [if_neg hin]
      have := crow_end h k (s.snoc h0 h1 hin) (h.gt_lo h0 h1) (h.gt_hi h0 h1) (by rw [List.length_append, List.length_singleton]; omega)
      rwa [List.append_assoc] at this
/-- seen and its ways: closed both ways -/
def Clo (m seen : List Int) : Prop := ∀ x : Int, 0 ≤ x → x < m.length → (x ∈ seen ↔ gt m x ∈ seen)
theorem Clo.itg {m seen : List Int} (hm : Pk m) (h : Clo m seen) : ∀ (k : Nat) {x : Int}, 0 ≤ x → x < m.length → (itg m k x ∈ seen ↔ x ∈ seen)
  | 0, _, _, _ => Iff.rfl
  | k + 1, x, h0, h1 => (Clo.itg hm h k (hm.gt_lo h0 h1) (hm.gt_hi h0 h1)).trans (h x h0 h1).symm
theorem crow_round {m seen : List Int} {b : Int} (h : Pk m) (s : Sn m seen) (c : Clo m seen) (h0 : 0 ≤ b) (h1 : b < m.length) {k : Nat} (hk : m.length ≤ k + seen.length) (hb : b ∉ seen) :
    itg m (crow m k seen b).length b = b ∧ 0 < (crow m k seen b).length ∧ Clo m (seen ++ crow m k seen b) := by
  have nd := (crow_sn h k s h0 h1).nd
  have rnd : (crow m k seen b).Nodup := (List.nodup_append.mp nd).2.1
  have hend := crow_end h k s h0 h1 hk
  have hpos : 0 < (crow m k seen b).length := by
    cases k with
    | zero =>
      have := (s.snoc h0 h1 hb).le
      rw [List.length_append, List.length_singleton] at this
      omega
    | succ k =>
      unfold crow
      rw [if_neg hb]
      exact Nat.succ_pos _
  have ns : ∀ i, itg m i b ∉ seen := fun i hi => hb ((c.itg h i h0 h1).mp hi)
  have get := fun i hi => crow_get (m := m) k (seen := seen) (here := b) (i := i) hi
  generalize crow m k seen b = row at *
  have inr : itg m row.length b ∈ row := (List.mem_append.mp hend).elim (fun z => absurd z (ns _)) id
  have ret : itg m row.length b = b := by
    obtain ⟨j, hj, e⟩ := List.mem_iff_getElem.mp inr
    have gj := get j hj
    rw [List.getElem?_eq_getElem hj, e] at gj
    have e2 : itg m row.length b = itg m j b := Option.some.inj gj
    have e3 : itg m (row.length - j) b = b := by
      have : itg m ((row.length - j) + j) b = itg m j b := by rw [Nat.sub_add_cancel (Nat.le_of_lt hj)]; exact e2
      rw [itg_add] at this
      have bi := itg_in h (row.length - j) h0 h1
      exact itg_inj h j bi.1 bi.2 h0 h1 this
    cases j with
    | zero => exact e2
    | succ j =>
      exfalso
      have hlt : row.length - (j + 1) < row.length := by omega
      have ga := get _ hlt
      rw [e3] at ga
      have g0 := get 0 hpos
      rw [List.getElem?_eq_getElem hlt] at ga
      rw [List.getElem?_eq_getElem hpos] at g0
      have : row[row.length - (j + 1)] = row[0] := by
        rw [Option.some.inj ga, Option.some.inj g0]
        rfl
      have := (List.getElem_inj rnd).mp this
      omega
  refine ⟨ret, hpos, fun x x0 x1 => ?_⟩
  have toRow : ∀ i, itg m i b ∈ row := by
    intro i
    induction i with
    | zero =>
      have g0 := get 0 hpos
      exact List.mem_of_getElem? g0
    | succ i ih =>
      obtain ⟨j, hj, e⟩ := List.mem_iff_getElem.mp ih
      have gj := get j hj
      rw [List.getElem?_eq_getElem hj, e] at gj
      rw [itg_succ, Option.some.inj gj, ← itg_succ]
      by_cases hl : j + 1 < row.length
      · exact List.mem_of_getElem? (get _ hl)
      · rw [show j + 1 = row.length by omega, ret]
        exact List.mem_of_getElem? (get 0 hpos)
  have ofRow : ∀ y ∈ row, ∃ i, y = itg m i b := fun y hy => by
    obtain ⟨j, hj, e⟩ := List.mem_iff_getElem.mp hy
    have gj := get j hj
    rw [List.getElem?_eq_getElem hj, e] at gj
    exact ⟨j, Option.some.inj gj⟩
  rw [List.mem_append, List.mem_append, ← c x x0 x1]
  refine or_congr_right ⟨fun hx => ?_, fun hx => ?_⟩
  · obtain ⟨i, e⟩ := ofRow x hx
    rw [e, ← itg_succ]
    exact toRow _
  · obtain ⟨i, e⟩ := ofRow _ hx
    cases i with
    | zero =>
      have e' : gt m x = b := e
      have : gt m x = gt m (itg m (row.length - 1) b) := by
        rw [← itg_succ, Nat.sub_add_cancel hpos, ret, e']
      have bi := itg_in h (row.length - 1) h0 h1
      rw [nodup_gt h.nodup x0 x1 bi.1 bi.2 this]
      exact toRow _
    | succ i =>
      rw [itg_succ] at e
      have bi := itg_in h i h0 h1
      rw [nodup_gt h.nodup x0 x1 bi.1 bi.2 e]
      exact toRow _
/-- the rounds, begun at each of the cards bs -/
def rnds (m : List Int) : List Int → List Int → List (List Int)
  | [], _ => []
  | b :: bs, seen => if b ∈ seen then rnds m bs seen else crow m m.length seen b :: rnds m bs (seen ++ crow m m.length seen b)
def seenAt (m : List Int) : List Int → List Int → List Int
  | [], seen => seen
  | b :: bs, seen => if b ∈ seen then seenAt m bs seen else seenAt m bs (seen ++ crow m m.length seen b)
theorem rnds_ok {m : List Int} (h : Pk m) {T : Nat} : ∀ {bs seen : List Int}, Sn m seen → Clo m seen → (∀ b ∈ bs, 0 ≤ b ∧ b < m.length) → (∀ x ∈ seen, itg m T x = x) → (∀ r ∈ rnds m bs seen, r.length ∣ T) → ∀ x, x ∈ bs ∨ x ∈ seen → itg m T x = x
  | [], seen, s, c, hb, hs, hr, x, hx => hs x (hx.resolve_left (by simp))
  | b :: bs, seen, s, c, hb, hs, hr, x, hx => by
    obtain ⟨b0, b1⟩ := hb b (List.mem_cons_self ..)
    unfold rnds at hr
    by_cases hin : b ∈ seen
    · rw [if_pos hin] at hr
      refine rnds_ok h s c (fun y hy => hb y (List.mem_cons_of_mem _ hy)) hs hr x ?_
      rcases hx with hx | hx
      · rcases List.mem_cons.mp hx with hx | hx
        · exact .inr (hx ▸ hin)
        · exact .inl hx
      · exact .inr hx
    · rw [if_neg hin] at hr
      obtain ⟨r1, r2, r3⟩ := crow_round h s c b0 b1 (k := m.length) (by omega) hin
      obtain ⟨t, ht⟩ := hr _ (List.mem_cons_self ..)
      have hbT : itg m T b = b := by
        rw [ht]
        exact itg_mul r1 t
      have hrow : ∀ y ∈ crow m m.length seen b, itg m T y = y := fun y hy => by
        obtain ⟨j, hj, e⟩ := List.mem_iff_getElem.mp hy
        have gj := crow_get (m := m) m.length (seen := seen) (here := b) hj
        rw [List.getElem?_eq_getElem hj, e] at gj
        rw [Option.some.inj gj, ← itg_add, Nat.add_comm, itg_add, hbT]
      refine rnds_ok h (crow_sn h _ s b0 b1) r3 (fun y hy => hb y (List.mem_cons_of_mem _ hy)) (fun y hy => ?_) (fun r hr' => hr r (List.mem_cons_of_mem _ hr')) x ?_
      · rcases List.mem_append.mp hy with hy | hy
        · exact hs y hy
        · exact hrow y hy
      · rcases hx with hx | hx
        · rcases List.mem_cons.mp hx with hx | hx
          · refine .inr (List.mem_append_right _ ?_)
            rw [hx]
            exact List.mem_of_getElem? (crow_get (m := m) m.length r2)
          · exact .inl hx
        · exact .inr (List.mem_append_left _ hx)
/-- a pack's power by a number that every round's size divides -/
theorem pw_rounds {m : List Int} (h : Pk m) {T : Nat} (hr : ∀ r ∈ rnds m (rgZ m.length) [], r.length ∣ T) : pw m T = rgZ m.length := by
  refine ext_gt (by rw [pw_len, rgZ_len]) fun i h0 h1 => ?_
  rw [pw_len] at h1
  rw [gt_pw h T h0 h1, gt_rgZ h0 h1]
  exact rnds_ok h ⟨.nil, fun x hx => by cases hx⟩ (fun x _ _ => by simp) (fun b hb => mem_rgZ.mp hb) (fun x hx => by cases hx) hr i (.inl (mem_rgZ.mpr ⟨h0, h1⟩))
theorem pw_pred {m : List Int} (h : Pk m) {T : Nat} (hT : 0 < T) (e : pw m T = rgZ m.length) : pw m (T - 1) = bk m := by
  refine Pk.bk_uniq h (h.pw _) (pw_len m _) ?_
  have := pw_add h 1 (T - 1)
  rw [pw_one h] at this
  rw [this, show 1 + (T - 1) = T by omega, e]
/-! entries set one behind another -/
def setF (f : Nat → Int) : Nat → List Int → List Int → List Int
  | _, [], r => r
  | k, x :: q, r => setF f (k + 1) q (r.set x.toNat (f k))
theorem setF_len (f : Nat → Int) : ∀ (q : List Int) (k : Nat) (r : List Int), (setF f k q r).length = r.length
  | [], _, _ => rfl
  | x :: q, k, r => by
    show (setF f (k + 1) q _).length = _
    rw [setF_len f q, List.length_set]
theorem gt_set {r : List Int} {x v w : Int} (h0 : 0 ≤ x) (h1 : x < r.length) (v0 : 0 ≤ v) (v1 : v < r.length) : gt (r.set x.toNat w) v = if v = x then w else gt r v := by
  have hx : x.toNat < r.length := by omega
  have hv : v.toNat < r.length := by omega
  unfold gt
  rw [List.getD_eq_getElem?_getD, List.getD_eq_getElem?_getD, List.getElem?_set]
  by_cases h : v = x
  · subst h
    rw [if_pos rfl, if_pos rfl, if_pos hv]
    rfl
  · rw [if_neg (by omega), if_neg h]
theorem gt_setF (f : Nat → Int) : ∀ {q : List Int} (k : Nat) {r : List Int} {v : Int}, q.Nodup → (∀ x ∈ q, 0 ≤ x ∧ x < r.length) → 0 ≤ v → v < r.length → gt (setF f k q r) v = if v ∈ q then f (k + q.idxOf v) else gt r v
  | [], k, r, v, _, _, _, _ => by simp [setF]
  | x :: q, k, r, v, hd, hs, v0, v1 => by
    have hd' := List.nodup_cons.mp hd
    obtain ⟨x0, x1⟩ := hs x (List.mem_cons_self ..)
    show gt (setF f (k + 1) q (r.set x.toNat (f k))) v = _
    rw [gt_setF f (k + 1) hd'.2 (fun y hy => by rw [List.length_set]; exact hs y (List.mem_cons_of_mem _ hy)) v0 (by rw [List.length_set]; exact v1), gt_set x0 x1 v0 v1]
    by_cases h : v = x
    · subst h
      rw [if_neg hd'.1, if_pos rfl, if_pos (List.mem_cons_self ..)]
      simp
    · by_cases hq : v ∈ q
      · rw [if_pos hq, if_pos (List.mem_cons_of_mem _ hq), show (x :: q).idxOf v = q.idxOf v + 1 by
          rw [List.idxOf_cons, show (x == v) = false from beq_eq_false_iff_ne.mpr (fun e => h e.symm)]
          rfl]
        congr 1
        omega
      · rw [if_neg hq, if_neg h, if_neg (fun z => (List.mem_cons.mp z).elim h hq)]
theorem setF_bk {m r : List Int} (h : Pk m) (hr : r.length = m.length) (f : Nat → Int) (g : Int → Int) (hf : ∀ k : Nat, k < m.length → f k = g k) : setF f 0 m r = (bk m).map g := by
  refine ext_gt (by rw [setF_len, List.length_map, bk_len, hr]) fun i h0 h1 => ?_
  rw [setF_len] at h1
  have him : i ∈ m := h.mem.mpr ⟨h0, by omega⟩
  have hx : m.idxOf i < m.length := List.idxOf_lt_length_iff.mpr him
  rw [gt_setF f 0 h.nodup (fun x hx => by have := h.mem.mp hx; omega) h0 h1, if_pos him, Nat.zero_add, hf _ hx, ← gt_bk h0 (by omega)]
  have hn : i.toNat < (bk m).length := by rw [bk_len]; omega
  show g ((bk m).getD i.toNat 0) = ((bk m).map g).getD i.toNat 0
  rw [List.getD_eq_getElem?_getD, List.getD_eq_getElem?_getD, List.getElem?_map, List.getElem?_eq_getElem hn]
  rfl
/-! how long the rounds are -/
theorem rnds_sum {m : List Int} (h : Pk m) : ∀ {bs seen : List Int}, Sn m seen → (∀ b ∈ bs, 0 ≤ b ∧ b < m.length) → ((rnds m bs seen).map List.length).sum + seen.length ≤ m.length
  | [], seen, s, _ => by
    show 0 + seen.length ≤ _
    have := s.le
    omega
  | b :: bs, seen, s, hb => by
    obtain ⟨b0, b1⟩ := hb b (List.mem_cons_self ..)
    unfold rnds
    by_cases hin : b ∈ seen
    · rw [if_pos hin]
      exact rnds_sum h s fun y hy => hb y (List.mem_cons_of_mem _ hy)
    · rw [if_neg hin, List.map_cons, List.sum_cons]
      have := rnds_sum h (crow_sn h m.length s b0 b1) (bs := bs) fun y hy => hb y (List.mem_cons_of_mem _ hy)
      rw [List.length_append] at this
      omega
def lcmF (T : Nat) : List (List Int) → Nat
  | [] => T
  | r :: rs => lcmF (Nat.lcm T r.length) rs
theorem lcmF_dvd : ∀ {rs : List (List Int)} {T : Nat}, T ∣ lcmF T rs ∧ ∀ r ∈ rs, r.length ∣ lcmF T rs
  | [], T => ⟨Nat.dvd_refl _, fun r hr => by cases hr⟩
  | r :: rs, T => by
    obtain ⟨h1, h2⟩ := lcmF_dvd (rs := rs) (T := Nat.lcm T r.length)
    refine ⟨Nat.dvd_trans (Nat.dvd_lcm_left _ _) h1, fun q hq => ?_⟩
    rcases List.mem_cons.mp hq with rfl | hq
    · exact Nat.dvd_trans (Nat.dvd_lcm_right _ _) h1
    · exact h2 q hq
theorem lcm_step (T s : Nat) : T / Nat.gcd T s * s = Nat.lcm T s := by
  unfold Nat.lcm
  rw [Nat.mul_comm T s, Nat.mul_div_assoc _ (Nat.gcd_dvd_left T s), Nat.mul_comm]
end MM
end
section
set_option maxRecDepth 100000
set_option maxHeartbeats 4000000
namespace MM
open PySem DL GG
theorem blsD_const {α : Type} (b : Bool) : ∀ q : List α, blsD (q.map fun _ => PyData.bool b) = some (q.map fun _ => b)
  | [] => rfl
  | a :: q => by
    rw [List.map_cons, List.map_cons]
    show obn (blsD (q.map fun _ => PyData.bool b)) _ = _
    rw [blsD_const b q]
    rfl
theorem w23 : 23 < wid := wid_200 (by decide)
theorem is_integer_ap (d : D) : m_is_integer [.fz d] = some (.v (.bool (isTy "int" d && !isTy "bool" d)), none) := by
  rw [u_is_integer]
  unfold g_is_integer
  simp
  cases isTy "int" d <;> simp
theorem is_within_i (i lo hi : Int) : m_is_within [.fz (.int i), .fz (.int lo), .fz (.int hi)] = some (.v (.bool (decide (lo ≤ i) && decide (i ≤ hi))), none) := by
  rw [u_is_within]
  unfold g_is_within
  simp [is_integer_ap]
  by_cases h : lo ≤ i
  · simp [h]
  · simp [h]
theorem is_count_i {i : Int} (h : 0 ≤ i) : m_is_count [.fz (.int i)] = some (.v (.bool true), none) := by
  rw [u_is_count]
  unfold g_is_count
  simp [is_integer_ap, h]
/-- a pack (or a move) of 1 to 52 cards -/
structure Pak (p : List Int) : Prop where
  pk : Pk p
  lo : 1 ≤ p.length
  hi : p.length ≤ 52
theorem is_pack_ap {p : List Int} (h : Pak p) : m_is_pack_value [.fz (iT p)] = some (.v (.bool true), none) := by
  rw [u_is_pack_value]
  unfold g_is_pack_value
  have h1 : (1 : Int) ≤ (p.length : Nat) := by have := h.lo; omega
  have h2 : ((p.length : Nat) : Int) ≤ 52 := by have := h.hi; omega
  have h3 : p.length ≤ lim := by have := h.hi; show _ ≤ 1000000; omega
  have h4 : p.length ≤ 1000 := by have := h.hi; omega
  have key := lcGo_intsM (own := [1]) (t := gN 1) (k := sYes) (f := ce_is_pack_value_1) (e := [.fz (iT p), .em]) (fun _ => .bool true) (q := p) (fun i hi => by
    have hb := h.pk.mem.mp hi
    have b1 : i ≤ ((p.length : Nat) : Int) - 1 := by omega
    rw [lcOne_ap]
    unfold ce_is_pack_value_1
    simp [is_within_i, hb.1, b1])
  simp [h1, h2, h3, key, blsD_const, h4, ndI_of_nodup h.pk.nodup]
theorem want_pack_ap {p : List Int} (h : Pak p) : m_want_pack [.fz (iT p)] = some (.v .none, none) := by
  rw [u_want_pack]
  unfold g_want_pack
  simp [is_pack_ap h]
theorem want_move_ap {p : List Int} (h : Pak p) : m_want_move [.fz (iT p)] = some (.v .none, none) := by
  rw [u_want_move]
  unfold g_want_move
  simp [is_pack_ap h]
theorem want_as_many_ap {p q : List Int} (h : p.length = q.length) : m_want_as_many [.fz (iT p), .fz (iT q)] = some (.v .none, none) := by
  rw [u_want_as_many]
  unfold g_want_as_many
  simp [h]
theorem want_cards_ap {n : Nat} (h0 : 1 ≤ n) (h1 : n ≤ 52) : m_want_cards [.fz (.int n)] = some (.v .none, none) := by
  have h2 : (1 : Int) ≤ (n : Int) := by omega
  have h3 : (n : Int) ≤ 52 := by omega
  rw [u_want_cards]
  unfold g_want_cards
  simp [is_within_i, h2, h3]
theorem want_times_ap {n : Nat} : m_want_times [.fz (.int n)] = some (.v .none, none) := by
  rw [u_want_times]
  unfold g_want_times
  simp [is_count_i (show (0 : Int) ≤ (n : Int) by omega)]
theorem want_step_ap {s : Int} (h0 : 1 ≤ s) (h1 : s ≤ 1000000000000000000000000000000) : md_want_step [.fz (.int s)] = some (.v .none, none) := by
  unfold md_want_step
  rw [show [Sl.fz (.int s)] ++ [Sl.fz (.int 1000000000000000000000000000000)] = [Sl.fz (.int s), Sl.fz (.int 1000000000000000000000000000000)] from rfl, u_want_step]
  unfold g_want_step
  simp [is_within_i, h0, h1]
theorem still_of_ap {n : Nat} (h : n ≤ 52) : m_still_of [.fz (.int n)] = some (.v (iT (rgZ n)), none) := by
  rw [u_still_of]
  unfold g_still_of
  have h1 : rgOk 0 (n : Int) = true := rgOk_of (by omega) (by omega) (by omega) (by omega) (by omega)
  simp [h1, rgL_iL, gI_of]
theorem moved_of_ap {p m : List Int} (hm : m.length ≤ 52) (h : ∀ x ∈ m, 0 ≤ x ∧ x < p.length) : m_moved_of [.fz (iT p), .fz (iT m)] = some (.v (iT (mv p m)), none) := by
  rw [u_moved_of]
  unfold g_moved_of
  have h3 : m.length ≤ lim := by show _ ≤ 1000000; omega
  have key := lcGo_intsM (own := [2]) (t := gN 2) (k := sYes) (f := ce_moved_of_1) (e := [.fz (iT p), .fz (iT m), .em]) (fun i => .int (gt p i)) (q := m) (fun i hi => by
    obtain ⟨h0, h1⟩ := h i hi
    rw [lcOne_ap]
    unfold ce_moved_of_1
    simp [atI_iL h0 h1, gt])
  simp [h3, key, mv]
end MM
end
section
set_option maxRecDepth 100000
set_option maxHeartbeats 4000000
namespace MM
open PySem DL GG
theorem ixN_int {n : Nat} {i : Int} (h0 : 0 ≤ i) (h : i < n) : L2.ixN n i = some i.toNat := by
  unfold L2.ixN
  rw [if_pos h0, if_pos h]
theorem set_iL (r : List Int) (n : Nat) (k : Int) : (iL r).set n (.int k) = iL (r.set n k) := by
  simp [iL, List.map_set]
/-- what enumerate hands on -/
def enI : Nat → List Int → List Itm
  | _, [] => []
  | k, x :: q => .p (.int k) (.int x) :: enI (k + 1) q
theorem prs_en : ∀ (k : Nat) (q : List Int), prs ((List.range' k q.length).map fun i : Nat => PyData.int (i : Int)) (iL q) = enI k q
  | k, [] => rfl
  | k, x :: q => by
    rw [List.length_cons, List.range'_succ, List.map_cons]
    show Itm.p _ _ :: prs _ _ = _
    rw [prs_en (k + 1) q]
    rfl
theorem prs_en0 (q : List Int) : prs ((List.range q.length).map fun i : Nat => PyData.int (i : Int)) (iL q) = enI 0 q := by
  rw [List.range_eq_range', prs_en]
theorem back_loop {s0 : Sl} : ∀ (q : List Int) (k : Nat) (r : List Int) (a b : Option D), (∀ x ∈ q, 0 ≤ x ∧ x < r.length) →
    ∃ a' b', forGo (gT 2 (gsCons (gN 2) (gsCons (gN 3) gsNil))) fb_back_of_1 (enI k q) [s0, .ow (iL r), oS a, oS b] = some (.nx, [s0, .ow (iL (setF (fun k => (k : Int)) k q r)), oS a', oS b'])
  | [], k, r, a, b, _ => ⟨a, b, rfl⟩
  | x :: q, k, r, a, b, h => by
    obtain ⟨x0, x1⟩ := h x (List.mem_cons_self ..)
    obtain ⟨a', b', ih⟩ := back_loop (s0 := s0) q (k + 1) (r.set x.toNat k) (some (.int k)) (some (.int x)) (fun y hy => by rw [List.length_set]; exact h y (List.mem_cons_of_mem _ hy))
    refine ⟨a', b', ?_⟩
    rw [show enI k (x :: q) = .p (.int k) (.int x) :: enI (k + 1) q from rfl, forGo_cons]
    have e1 := ixN_int x0 x1
    unfold fb_back_of_1
    rw [← set_iL] at ih
    simp only [iL] at ih
    simp [e1]
    exact ih
theorem rep_flat (x : D) : ∀ n : Nat, (List.replicate n [x]).flatten = List.replicate n x
  | 0 => rfl
  | n + 1 => by rw [List.replicate_succ, List.flatten_cons, rep_flat x n, List.replicate_succ]; rfl
theorem rep_iL (k : Int) (n : Nat) : List.replicate n (PyData.int k) = iL (List.replicate n k) := by simp [iL]
theorem back_of_ap {m : List Int} (h : Pak m) : m_back_of [.fz (iT m)] = some (.v (iT (bk m)), none) := by
  rw [u_back_of]
  unfold g_back_of
  have h1 : inB (m.length : Nat) = true := inB_of (by omega) (by have := h.hi; omega)
  have h2 : m.length ≤ lim := by have := h.hi; show _ ≤ 1000000; omega
  have e := prs_en0 m
  simp only [iL] at e
  obtain ⟨a', b', lp⟩ := back_loop (s0 := .fz (iT m)) m 0 (List.replicate m.length 0) none none (fun x hx => by
    have := h.pk.mem.mp hx
    rw [List.length_replicate]
    exact this)
  rw [← oS_n] at lp
  have sb := setF_bk (r := List.replicate m.length 0) h.pk (by simp) (fun k => (k : Int)) id (fun k _ => rfl)
  rw [List.map_id] at sb
  rw [sb] at lp
  simp only [iL, List.map_replicate] at lp
  have l1 : 1 ≤ lim := by decide
  simp [h1, h2, gI_of, rep_flat, e, lp, l1]
/-! draws -/
@[simp] def pL (p : Int × Int) : List D := [.int p.1, .int p.2]
def Pot (p : Int × Int) : Prop := 0 ≤ p.2 ∧ p.2 < 2147483648
theorem draw_ap {p : Int × Int} {n : Int} (hp : Pot p) (h0 : 0 < n) (h1 : n.natAbs < 2 ^ 200) : ∃ v p', m__law_draw [.io (pL p), .fz (.int n)] = some (.v (.int v), some (pL p')) ∧ 0 ≤ v ∧ v < n ∧ Pot p' := by
  obtain ⟨a, b⟩ := p
  obtain ⟨hb, hb'⟩ := hp
  simp only at hb hb'
  rw [u__law_draw]
  unfold g__law_draw
  have hw := wid_200 h1
  have m1 : mulOk b 40709 = true := mulOk_of (by omega) (by omega)
  by_cases ha : 0 < a
  · refine ⟨a % n, (a / n, b), ?_, Int.emod_nonneg _ (by omega), Int.emod_lt_of_pos _ h0, hb, hb'⟩
    simp [ha, h0, hw]
  · have q0 : 0 ≤ (b * 40709 + 8623) % 2147483587 := by omega
    have q1 : (b * 40709 + 8623) % 2147483587 < 2147483587 := by omega
    generalize hq : (b * 40709 + 8623) % 2147483587 = q at q0 q1
    have m2 : mulOk q q = true := mulOk_of (by omega) (by omega)
    refine ⟨(q * q % 2147483629 / 23) % n, (a, q), ?_, Int.emod_nonneg _ (by omega), Int.emod_lt_of_pos _ h0, q0, by show q < _; omega⟩
    simp [ha, h0, m1, hq, m2, w23]
theorem pick_ap {p : Int × Int} {q : List Int} (hp : Pot p) (h0 : q ≠ []) (h1 : q.length ≤ 1000) : ∃ v p', m__law_pick [.io (pL p), .fz (iLs q)] = some (.v (.int v), some (pL p')) ∧ v ∈ q ∧ Pot p' := by
  have hl : 0 < q.length := List.length_pos_iff.mpr h0
  obtain ⟨v, p', e, v0, v1, hp'⟩ := draw_ap (n := (q.length : Nat)) hp (by omega) (by omega)
  refine ⟨gt q v, p', ?_, gt_mem v0 (by omega), hp'⟩
  rw [u__law_pick]
  unfold g__law_pick
  have e2 := atI_iL (ns := q) v0 (by omega)
  simp only [iL] at e2
  simp only [pL] at e
  simp [e, e2, gt]
theorem cards_ap {p : Int × Int} (hp : Pot p) : ∃ (n : Nat) (p' : Int × Int), m__law_cards [.io (pL p)] = some (.v (.int n), some (pL p')) ∧ 1 ≤ n ∧ n ≤ 52 ∧ Pot p' := by
  obtain ⟨s, p1, e1, hs, hp1⟩ := pick_ap (q := [3, 8, 52]) hp (by simp) (by simp)
  have hs1 : 0 < s ∧ s ≤ 52 := by
    simp at hs
    omega
  obtain ⟨v, p2, e2, v0, v1, hp2⟩ := draw_ap (n := s) hp1 hs1.1 (by omega)
  refine ⟨(1 + v).toNat, p2, ?_, by omega, by omega, hp2⟩
  rw [u__law_cards]
  unfold g__law_cards
  simp only [iLs, iL, List.map_cons, List.map_nil, pL] at e1 e2
  have l3 : 3 ≤ lim := by decide
  have hv : max (1 + v) 0 = 1 + v := by omega
  simp [e1, e2, l3, hv]
theorem step_ap {p : Int × Int} (hp : Pot p) : ∃ (s : Int) (p' : Int × Int), m__law_step [.io (pL p)] = some (.v (.int s), some (pL p')) ∧ 1 ≤ s ∧ s ≤ 1000000000000000000000000000000 ∧ Pot p' := by
  obtain ⟨s, p1, e1, hs, hp1⟩ := pick_ap (q := [3, 12, 52, 1000, 1000000000000000000000000000000]) hp (by simp) (by simp)
  have hs1 : 0 < s ∧ s ≤ 1000000000000000000000000000000 := by
    simp at hs
    omega
  obtain ⟨v, p2, e2, v0, v1, hp2⟩ := draw_ap (n := s) hp1 hs1.1 (by omega)
  refine ⟨1 + v, p2, ?_, by omega, by omega, hp2⟩
  rw [u__law_step]
  unfold g__law_step
  simp only [iLs, iL, List.map_cons, List.map_nil, pL] at e1 e2
  have l3 : 5 ≤ lim := by decide
  simp [e1, e2, l3]
/-! mixing -/
theorem erase_iL : ∀ (l : List Int) (i : Nat), (iL l).eraseIdx i = iL (l.eraseIdx i)
  | [], _ => rfl
  | _ :: _, 0 => rfl
  | a :: l, i + 1 => by
    show PyData.int a :: (iL l).eraseIdx i = PyData.int a :: iL (l.eraseIdx i)
    rw [erase_iL l i]
theorem perm_erase : ∀ {l : List Int} {i : Nat} (h : i < l.length), (l[i] :: l.eraseIdx i).Perm l
  | a :: l, 0, _ => .refl _
  | a :: l, i + 1, h => by
    have h' : i < l.length := by simpa using h
    have := perm_erase (l := l) (i := i) h'
    show (l[i] :: a :: l.eraseIdx i).Perm (a :: l)
    exact (List.Perm.swap _ _ _).trans (this.cons a)
theorem mixed_loop {s1 : Sl} : ∀ (k : Nat) (p : Int × Int) (l f : List Int), Pot p → l.length = k → k + f.length ≤ 1000 → ∀ n : Nat, k < n →
    ∃ p' f', whileGo wt__law_mixed_1 wb__law_mixed_2 n [.io (pL p), s1, .ow (iL l), .ow (iL f)] = some (.nx, [.io (pL p'), s1, .ow [], .ow (iL f')]) ∧ f'.Perm (f ++ l) ∧ Pot p'
  | 0, p, l, f, hp, hl, hf, n, hn => by
    obtain ⟨n, rfl⟩ : ∃ j, n = j + 1 := ⟨n - 1, by omega⟩
    have : l = [] := List.eq_nil_of_length_eq_zero hl
    subst this
    refine ⟨p, f, ?_, by simp, hp⟩
    have l0 : 0 ≤ lim := by decide
    refine whileGo_no (e1 := _) ?_
    unfold wt__law_mixed_1
    have := neD_L0 (a := [])
    simp only [iLs, iL, List.map_nil] at this
    simp [this]
  | k + 1, p, l, f, hp, hl, hf, n, hn => by
    obtain ⟨n, rfl⟩ : ∃ j, n = j + 1 := ⟨n - 1, by omega⟩
    have hne : l ≠ [] := fun z => by rw [z] at hl; simp at hl
    obtain ⟨v, p1, e1, v0, v1, hp1⟩ := draw_ap (n := (l.length : Nat)) hp (by omega) (by omega)
    have hv : v.toNat < l.length := by omega
    have hx : l[v.toNat]? = some l[v.toNat] := List.getElem?_eq_getElem hv
    obtain ⟨p', f', ih, hperm, hp'⟩ := mixed_loop (s1 := s1) k p1 (l.eraseIdx v.toNat) (f ++ [l[v.toNat]]) hp1 (by rw [List.length_eraseIdx_of_lt hv]; omega) (by rw [List.length_append, List.length_singleton]; omega) n (by omega)
    refine ⟨p', f', ?_, ?_, hp'⟩
    · have ht : wt__law_mixed_1 [.io (pL p), s1, .ow (iL l), .ow (iL f)] = some (true, [.io (pL p), s1, .ow (iL l), .ow (iL f)]) := by
        unfold wt__law_mixed_1
        have := neD_L0 (a := l)
        simp only [iLs, iL] at this
        simp [this, hne]
      rw [whileGo_yes ht]
      unfold wb__law_mixed_2
      have b1 : inB v = true := inB_of (by omega) (by omega)
      have b2 := ixN_int v0 v1
      have b3 : f.length < lim := by show _ < 1000000; omega
      have b4 : (l.map PyData.int).eraseIdx v.toNat = (l.eraseIdx v.toNat).map PyData.int := erase_iL l _
      simp only [pL] at e1
      simp [e1, b1, b2, hx, b3, b4]
      simp only [iL, List.map_append, List.map_cons, List.map_nil, pL] at ih
      exact ih
    · refine hperm.trans ?_
      rw [List.append_assoc]
      refine List.Perm.append_left f ?_
      exact perm_erase hv
theorem mixed_ap {p : Int × Int} {q : List Int} (hp : Pot p) (hq : q.length ≤ 900) : ∃ p' f, m__law_mixed [.io (pL p), .fz (iLs q)] = some (.v (iLs f), some (pL p')) ∧ f.Perm q ∧ Pot p' := by
  obtain ⟨p', f', lp, hperm, hp'⟩ := mixed_loop (s1 := .fz (iLs q)) q.length p q [] hp rfl (by simp; omega) fuel (by show _ < 1000000; omega)
  refine ⟨p', f', ?_, by simpa using hperm, hp'⟩
  rw [u__law_mixed]
  unfold g__law_mixed
  simp only [iLs, iL, List.map_nil, pL] at lp
  simp [lp]
theorem pack_ap {p : Int × Int} {n : Nat} (hp : Pot p) (h0 : 1 ≤ n) (h1 : n ≤ 52) : ∃ p' f, m__law_pack [.io (pL p), .fz (.int n)] = some (.v (iT f), some (pL p')) ∧ Pak f ∧ f.length = n ∧ Pot p' := by
  obtain ⟨p', f, e, hf, hp'⟩ := mixed_ap (q := rgZ n) hp (by rw [rgZ_len]; omega)
  have hl : f.length = n := by rw [hf.length_eq, rgZ_len]
  refine ⟨p', f, ?_, ⟨by unfold Pk; rw [hl]; exact hf, by omega, by omega⟩, hl, hp'⟩
  rw [u__law_pack]
  unfold g__law_pack
  have h2 : rgOk 0 (n : Int) = true := rgOk_of (by omega) (by omega) (by omega) (by omega) (by omega)
  have h3 := rgL_iL n
  simp only [iLs, iL, pL] at e h3
  simp [h2, gI_of, h3, e]
end MM
end
section
set_option maxRecDepth 100000
set_option maxHeartbeats 4000000
namespace MM
open PySem DL GG
/-- dealing: every s-th card -/
def dealt (s : Int) : Nat → List Int → List Int × List Int
  | 0, l => ([], l)
  | k + 1, l => ((l.getD ((s - 1) % (l.length : Nat)).toNat 0 :: (dealt s k (l.drop (((s - 1) % (l.length : Nat)).toNat + 1) ++ l.take ((s - 1) % (l.length : Nat)).toNat)).1),
      (dealt s k (l.drop (((s - 1) % (l.length : Nat)).toNat + 1) ++ l.take ((s - 1) % (l.length : Nat)).toNat)).2)
theorem dealt_len (s : Int) : ∀ (k : Nat) (l : List Int), (dealt s k l).1.length = k
  | 0, _ => rfl
  | k + 1, l => by
    show (dealt s k _).1.length + 1 = k + 1
    rw [dealt_len s k]
theorem turn_at {l : List Int} (s : Int) (hl : 0 < l.length) : ∃ n : Nat, (s - 1) % (l.length : Nat) = n ∧ n < l.length := by
  have h0 := Int.emod_nonneg (s - 1) (show ((l.length : Nat) : Int) ≠ 0 by omega)
  have h1 := Int.emod_lt_of_pos (s - 1) (show (0 : Int) < (l.length : Nat) by omega)
  exact ⟨((s - 1) % (l.length : Nat)).toNat, by omega, by omega⟩
theorem dealt_succ {s : Int} {k n : Nat} {l : List Int} (h : (s - 1) % (l.length : Nat) = n) (hn : n < l.length) : dealt s (k + 1) l = (l[n] :: (dealt s k (l.drop (n + 1) ++ l.take n)).1, (dealt s k (l.drop (n + 1) ++ l.take n)).2) := by
  show (_, _) = _
  rw [h, Int.toNat_natCast, List.getD_eq_getElem?_getD, List.getElem?_eq_getElem hn]
  rfl
theorem turn_perm {l : List Int} {n : Nat} (hn : n < l.length) : (l[n] :: (l.drop (n + 1) ++ l.take n)).Perm l := by
  have e : l[n] :: (l.drop (n + 1) ++ l.take n) = l.drop n ++ l.take n := by
    rw [List.drop_eq_getElem_cons hn]
    rfl
  rw [e]
  refine List.perm_append_comm.trans ?_
  rw [List.take_append_drop]
theorem turn_len {l : List Int} {n : Nat} (hn : n < l.length) : (l.drop (n + 1) ++ l.take n).length = l.length - 1 := by
  rw [List.length_append, List.length_drop, List.length_take]
  omega
theorem dealt_perm (s : Int) : ∀ (k : Nat) (l : List Int), k ≤ l.length → ((dealt s k l).1 ++ (dealt s k l).2).Perm l
  | 0, l, _ => .refl _
  | k + 1, l, h => by
    obtain ⟨n, hn, hl⟩ := turn_at s (show 0 < l.length by omega)
    rw [dealt_succ hn hl]
    have := dealt_perm s k (l.drop (n + 1) ++ l.take n) (by rw [turn_len hl]; omega)
    exact (this.cons l[n]).trans (turn_perm hl)
/-- the move of a deal -/
def dm (n : Nat) (s : Int) : List Int := (dealt s n (rgZ n)).1
theorem dm_len (n : Nat) (s : Int) : (dm n s).length = n := dealt_len s n _
theorem dm_pk (n : Nat) (s : Int) : Pk (dm n s) := by
  have h := dealt_perm s n (rgZ n) (by rw [rgZ_len]; exact Nat.le_refl _)
  have hl := h.length_eq
  rw [List.length_append, dealt_len, rgZ_len] at hl
  have e : (dealt s n (rgZ n)).2 = [] := List.eq_nil_of_length_eq_zero (by omega)
  rw [e, List.append_nil] at h
  unfold Pk
  rw [dm_len]
  exact h
theorem cut_from1 (ns : List Int) (n : Nat) : cutD (iL ns) (some ((n : Int) + 1)) none = iL (ns.drop (n + 1)) := cut_from ns (n + 1)
theorem hands_loop {s0 s2 : Sl} {s : Int} : ∀ (q l f : List Int) (a b : Option D), q.length ≤ l.length → l.length + f.length ≤ 1000 →
    ∃ a' b', forGo (gN 5) fb_hands_of_1 (iI q) [s0, .fz (.int s), s2, .fz (iLs l), .ow (iL f), oS a, oS b] = some (.nx, [s0, .fz (.int s), s2, .fz (iLs (dealt s q.length l).2), .ow (iL (f ++ (dealt s q.length l).1)), oS a', oS b'])
  | [], l, f, a, b, _, _ => ⟨a, b, by simp [dealt]⟩
  | x :: q, l, f, a, b, h, hf => by
    rw [List.length_cons] at h
    obtain ⟨n, hn, hl⟩ := turn_at s (show 0 < l.length by omega)
    obtain ⟨a', b', ih⟩ := hands_loop (s0 := s0) (s2 := s2) (s := s) q (l.drop (n + 1) ++ l.take n) (f ++ [l[n]]) (some (.int x)) (some (.int n)) (by rw [turn_len hl]; omega) (by rw [turn_len hl, List.length_append, List.length_singleton]; omega)
    refine ⟨a', b', ?_⟩
    rw [iI_cons, forGo_cons, List.length_cons, dealt_succ hn hl]
    unfold fb_hands_of_1
    have hp : 0 < l.length := by omega
    have e1 : L2.atI (iL l) (n : Int) = some (.int l[n]) := by
      rw [atI_lt (by rw [iL_len]; exact hl)]
      simp [iL]
    have e2 := cut_from1 l n
    have e3 := cut_to l n
    have b3 : f.length < lim := by show _ < 1000000; omega
    have b4 : (l.drop (n + 1)).length + (l.take n).length ≤ lim := by
      rw [List.length_drop, List.length_take]
      show _ ≤ 1000000
      omega
    rw [List.length_drop, List.length_take] at b4
    simp only [iL] at e1 e2 e3
    simp [hp, hn, e1, e2, e3, b3, b4]
    simp [iL, iLs] at ih
    simp only [iL, iLs] at ih ⊢
    exact ih
theorem hands_of_ap {n : Nat} {s : Int} (h : n ≤ 52) : m_hands_of [.fz (.int n), .fz (.int s), .fz (.int n)] = some (.v (.tuple [iLs (dm n s), iLs []]), none) := by
  rw [u_hands_of]
  unfold g_hands_of
  have h1 : inB (n : Nat) = true := inB_of (by omega) (by omega)
  have h2 : rgOk 0 (n : Int) = true := rgOk_of (by omega) (by omega) (by omega) (by omega) (by omega)
  have h3 := rgL_iL n
  obtain ⟨a', b', lp⟩ := hands_loop (s0 := .fz (.int n)) (s2 := .fz (.int n)) (s := s) (rgZ n) (rgZ n) [] none none (Nat.le_refl _) (by rw [rgZ_len]; simp; omega)
  rw [rgZ_len, ← oS_n, ← rgI_Z] at lp
  have hp := dealt_perm s n (rgZ n) (by rw [rgZ_len]; exact Nat.le_refl _)
  have hl := hp.length_eq
  rw [List.length_append, dealt_len, rgZ_len] at hl
  have e : (dealt s n (rgZ n)).2 = [] := List.eq_nil_of_length_eq_zero (by omega)
  rw [e] at lp
  have l2 : 2 ≤ lim := by decide
  have l0 : 0 ≤ lim := by decide
  simp only [iLs, iL, List.map_nil, List.nil_append] at lp h3
  simp [h1, h2, gI_of, h3, lp, l2, l0]
  rfl
theorem move_of_deal_ap {n : Nat} {s : Int} (h : n ≤ 52) : m_move_of_deal [.fz (.int n), .fz (.int s)] = some (.v (iT (dm n s)), none) := by
  rw [u_move_of_deal]
  unfold g_move_of_deal
  have := hands_of_ap (s := s) h
  simp [this]
/-! the law's own deal -/
theorem ldealt_loop {s0 s2 : Sl} {s : Int} : ∀ (q l f : List Int) (a b : Option D), q.length ≤ l.length → l.length + f.length ≤ 1000 →
    ∃ a' b', forGo (gN 5) fb__law_dealt_1 (iI q) [s0, .fz (.int s), s2, .ow (iL l), .ow (iL f), oS a, oS b] = some (.nx, [s0, .fz (.int s), s2, .ow (iL (dealt s q.length l).2), .ow (iL (f ++ (dealt s q.length l).1)), oS a', oS b'])
  | [], l, f, a, b, _, _ => ⟨a, b, by simp [dealt]⟩
  | x :: q, l, f, a, b, h, hf => by
    rw [List.length_cons] at h
    obtain ⟨n, hn, hl⟩ := turn_at s (show 0 < l.length by omega)
    obtain ⟨a', b', ih⟩ := ldealt_loop (s0 := s0) (s2 := s2) (s := s) q (l.drop (n + 1) ++ l.take n) (f ++ [l[n]]) (some (.int x)) (some (.int n)) (by rw [turn_len hl]; omega) (by rw [turn_len hl, List.length_append, List.length_singleton]; omega)
    refine ⟨a', b', ?_⟩
    rw [iI_cons, forGo_cons, List.length_cons, dealt_succ hn hl]
    unfold fb__law_dealt_1
    have hp : 0 < l.length := by omega
    have e2 := cut_from l n
    have e3 := cut_to l n
    have e4 : iL (l.drop n) = .int l[n] :: iL (l.drop (n + 1)) := by
      rw [List.drop_eq_getElem_cons hl]
      rfl
    rw [e4] at e2
    have b3 : f.length < lim := by show _ < 1000000; omega
    have b4 : (l.drop (n + 1)).length + 1 + (l.take n).length ≤ lim := by
      rw [List.length_drop, List.length_take]
      show _ ≤ 1000000
      omega
    rw [List.length_drop, List.length_take] at b4
    have b5 : inB 0 = true := by decide
    simp only [iL] at e2 e3
    simp [hp, hn, e2, e3, b3, b4, b5, gI_of]
    simp [iL, iLs] at ih
    simp only [iL, iLs] at ih ⊢
    exact ih
theorem ldealt_ap {n : Nat} {s : Int} (h : n ≤ 52) : m__law_dealt [.fz (.int n), .fz (.int s), .fz (.int n)] = some (.v (.tuple [iLs (dm n s), iLs []]), none) := by
  rw [u__law_dealt]
  unfold g__law_dealt
  have h1 : inB (n : Nat) = true := inB_of (by omega) (by omega)
  have h2 : rgOk 0 (n : Int) = true := rgOk_of (by omega) (by omega) (by omega) (by omega) (by omega)
  have h3 := rgL_iL n
  obtain ⟨a', b', lp⟩ := ldealt_loop (s0 := .fz (.int n)) (s2 := .fz (.int n)) (s := s) (rgZ n) (rgZ n) [] none none (Nat.le_refl _) (by rw [rgZ_len]; simp; omega)
  rw [rgZ_len, ← oS_n, ← rgI_Z] at lp
  have hp := dealt_perm s n (rgZ n) (by rw [rgZ_len]; exact Nat.le_refl _)
  have hl := hp.length_eq
  rw [List.length_append, dealt_len, rgZ_len] at hl
  have e : (dealt s n (rgZ n)).2 = [] := List.eq_nil_of_length_eq_zero (by omega)
  rw [e] at lp
  have l2 : 2 ≤ lim := by decide
  have l0 : 0 ≤ lim := by decide
  simp only [iLs, iL, List.map_nil, List.nil_append] at lp h3
  simp [h1, h2, gI_of, h3, lp, l2, l0]
  rfl
/-! the program's functions by moves -/
theorem Pak.inn {m : List Int} (h : Pak m) {n : Nat} (e : m.length = n) : ∀ x ∈ m, 0 ≤ x ∧ x < n := h.pk.inR e
theorem Pak.mv {p m : List Int} (hp : Pak p) (hm : Pak m) (e : p.length = m.length) : Pak (mv p m) := ⟨hp.pk.mv hm.pk e, by rw [mv_len]; exact hm.lo, by rw [mv_len]; exact hm.hi⟩
theorem Pak.bk {m : List Int} (hm : Pak m) : Pak (bk m) := ⟨hm.pk.bk, by rw [bk_len]; exact hm.lo, by rw [bk_len]; exact hm.hi⟩
theorem dm_pak {n : Nat} (s : Int) (h0 : 1 ≤ n) (h1 : n ≤ 52) : Pak (dm n s) := ⟨dm_pk n s, by rw [dm_len]; exact h0, by rw [dm_len]; exact h1⟩
theorem rg_pak {n : Nat} (h0 : 1 ≤ n) (h1 : n ≤ 52) : Pak (rgZ n) := ⟨Pk.rg n, by rw [rgZ_len]; exact h0, by rw [rgZ_len]; exact h1⟩
section
variable {p m : List Int} {n : Nat} {s : Int}
theorem prepared_ap (hp : Pak p) (s0 : 1 ≤ s) (s1 : s ≤ 1000000000000000000000000000000) : m_prepared [.fz (iT p), .fz (.int s)] = some (.v (iT (mv p (bk (dm p.length s)))), none) := by
  rw [u_prepared]
  unfold g_prepared
  have hd := dm_pak s hp.lo hp.hi
  have e1 := want_pack_ap hp
  have e2 := want_step_ap s0 s1
  have e3 := move_of_deal_ap (s := s) hp.hi
  have e4 := back_of_ap hd
  have e5 := moved_of_ap (p := p) (m := bk (dm p.length s)) (by rw [bk_len, dm_len]; exact hp.hi) (hd.bk.inn (by rw [bk_len, dm_len]))
  simp only [iT, iL] at e1 e3 e4 e5
  simp [e1, e2, e3, e4, e5]
theorem deal_sequence_ap (hp : Pak p) (s0 : 1 ≤ s) (s1 : s ≤ 1000000000000000000000000000000) : m_deal_sequence [.fz (iT p), .fz (.int s)] = some (.v (iT (mv p (dm p.length s))), none) := by
  rw [u_deal_sequence]
  unfold g_deal_sequence
  have hd := dm_pak s hp.lo hp.hi
  have e1 := want_pack_ap hp
  have e2 := want_step_ap s0 s1
  have e3 := move_of_deal_ap (s := s) hp.hi
  have e5 := moved_of_ap (p := p) (m := dm p.length s) (by rw [dm_len]; exact hp.hi) (hd.inn (by rw [dm_len]))
  simp only [iT, iL] at e1 e3 e5
  simp [e1, e2, e3, e5]
theorem deal_move_ap (h0 : 1 ≤ n) (h1 : n ≤ 52) (s0 : 1 ≤ s) (s1 : s ≤ 1000000000000000000000000000000) : m_deal_move [.fz (.int n), .fz (.int s)] = some (.v (iT (dm n s)), none) := by
  rw [u_deal_move]
  unfold g_deal_move
  have e1 := want_cards_ap h0 h1
  have e2 := want_step_ap s0 s1
  have e3 := move_of_deal_ap (s := s) h1
  simp [e1, e2, e3]
theorem plain_ap (h0 : 1 ≤ n) (h1 : n ≤ 52) : m_plain [.fz (.int n)] = some (.v (iT (rgZ n)), none) := by
  rw [u_plain]
  unfold g_plain
  have e1 := want_cards_ap h0 h1
  have e2 := still_of_ap h1
  simp [e1, e2]
theorem moved_ap (hp : Pak p) (hm : Pak m) (e : p.length = m.length) : m_moved [.fz (iT p), .fz (iT m)] = some (.v (iT (mv p m)), none) := by
  rw [u_moved]
  unfold g_moved
  have e1 := want_pack_ap hp
  have e2 := want_move_ap hm
  have e3 := want_as_many_ap e
  have e4 := moved_of_ap (p := p) hm.hi (hm.inn e.symm)
  simp only [iT, iL] at e1 e2 e3 e4
  simp [e1, e2, e3, e4]
theorem behind_ap (hp : Pak p) (hm : Pak m) (e : p.length = m.length) : m_behind [.fz (iT p), .fz (iT m)] = some (.v (iT (mv p m)), none) := by
  rw [u_behind]
  unfold g_behind
  have e1 := want_move_ap hp
  have e2 := want_move_ap hm
  have e3 := want_as_many_ap e
  have e4 := moved_of_ap (p := p) hm.hi (hm.inn e.symm)
  simp only [iT, iL] at e1 e2 e3 e4
  simp [e1, e2, e3, e4]
theorem back_ap (hm : Pak m) : m_back [.fz (iT m)] = some (.v (iT (bk m)), none) := by
  rw [u_back]
  unfold g_back
  have e1 := want_move_ap hm
  have e2 := back_of_ap hm
  simp only [iT, iL] at e1 e2
  simp [e1, e2]
/-! powers -/
theorem power_loop {s1 : Sl} (hm : Pak m) : ∀ (k : Nat) (a b left : Nat), left < 2 ^ k → ∀ j, k ≤ j →
    ∃ h' , whileGo wt_power_of_1 wb_power_of_2 (j + 1) [.fz (iT m), s1, .fz (iT (pw m a)), .fz (iT (pw m b)), .fz (.int left)] = some (.nx, [.fz (iT m), s1, .fz (iT (pw m (a + b * left))), .fz h', .fz (.int 0)])
  | 0, a, b, left, hl, j, hj => by
    have : left = 0 := by omega
    subst this
    refine ⟨iT (pw m b), ?_⟩
    refine whileGo_no ?_
    unfold wt_power_of_1
    simp
  | k + 1, a, b, left, hl, j, hj => by
    by_cases h0 : left = 0
    · subst h0
      refine ⟨iT (pw m b), ?_⟩
      refine whileGo_no ?_
      unfold wt_power_of_1
      simp
    · obtain ⟨j, rfl⟩ : ∃ i, j = i + 1 := ⟨j - 1, by omega⟩
      have hlt : left / 2 < 2 ^ k := by
        rw [Nat.pow_succ] at hl
        omega
      obtain ⟨h', ih⟩ := power_loop (s1 := s1) hm k (if left % 2 = 1 then a + b else a) (b + b) (left / 2) hlt j (by omega)
      refine ⟨h', ?_⟩
      have hpos : (0 : Int) < (left : Nat) := by omega
      rw [whileGo_yes (e1 := [.fz (iT m), s1, .fz (iT (pw m a)), .fz (iT (pw m b)), .fz (.int left)]) (by
        unfold wt_power_of_1
        simp
        omega)]
      unfold wb_power_of_2
      have w2 : 2 < wid := wid_200 (by decide)
      have ha := hm.pk.pw a
      have hb := hm.pk.pw b
      have e1 := moved_of_ap (p := pw m a) (m := pw m b) (by rw [pw_len]; exact hm.hi) (hb.inR (by rw [pw_len, pw_len]))
      have e2 := moved_of_ap (p := pw m b) (m := pw m b) (by rw [pw_len]; exact hm.hi) (hb.inR rfl)
      rw [pw_add hm.pk] at e1 e2
      rw [show ((left / 2 : Nat) : Int) = ((left : Nat) : Int) / 2 by omega] at ih
      have e5 : a + b * left = (if left % 2 = 1 then a + b else a) + (b + b) * (left / 2) := by
        have hd := Nat.div_add_mod left 2
        have e6 : b * left = b * (2 * (left / 2)) + b * (left % 2) := by rw [← Nat.mul_add, hd]
        have e7 : (b + b) * (left / 2) = b * (2 * (left / 2)) := by rw [← Nat.two_mul, Nat.mul_comm 2 b, Nat.mul_assoc]
        rw [e6, e7]
        by_cases hm2 : left % 2 = 1
        · rw [if_pos hm2, hm2]
          omega
        · rw [if_neg hm2, show left % 2 = 0 by omega]
          omega
      rw [e5]
      simp only [iT, iL] at e1 e2 ih
      by_cases hm2 : left % 2 = 1
      · have e4 : ((left : Nat) : Int) % 2 = 1 := by omega
        rw [if_pos hm2] at ih ⊢
        simp [w2, e4, e1, e2]
        exact ih
      · have e4 : ¬ ((left : Nat) : Int) % 2 = 1 := by omega
        rw [if_neg hm2] at ih ⊢
        simp [w2, e4, e2]
        exact ih
theorem power_of_ap (hm : Pak m) {t : Nat} (ht : t < 2 ^ 200) : m_power_of [.fz (iT m), .fz (.int t)] = some (.v (iT (pw m t)), none) := by
  obtain ⟨h', lp⟩ := power_loop (s1 := .fz (.int t)) hm 200 0 1 t ht 999999 (by omega)
  rw [u_power_of]
  unfold g_power_of
  have e1 := still_of_ap hm.hi
  rw [pw_one hm.pk, show pw m 0 = rgZ m.length from rfl, Nat.zero_add, Nat.one_mul, show 999999 + 1 = fuel from rfl] at lp
  simp only [iT, iL] at e1 lp
  simp [e1, lp]
theorem done_ap (hm : Pak m) {t : Nat} (ht : t < 2 ^ 200) : m_done [.fz (iT m), .fz (.int t)] = some (.v (iT (pw m t)), none) := by
  rw [u_done]
  unfold g_done
  have e1 := want_move_ap hm
  have e2 := want_times_ap (n := t)
  have e3 := power_of_ap hm ht
  simp only [iT, iL] at e1 e3
  simp [e1, e2, e3]
end
end MM
end
section
set_option maxRecDepth 100000
set_option maxHeartbeats 4000000
namespace MM
open PySem DL GG
/-! greatest common divisor -/
theorem common_loop : ∀ (b a n : Nat), b < n → ∃ b', whileGo wt_common_of_1 wb_common_of_2 n [.fz (.int a), .fz (.int b)] = some (.nx, [.fz (.int (Nat.gcd a b : Nat)), b']) := by
  intro b
  induction b using Nat.strongRecOn with
  | _ b ih =>
    intro a n hn
    obtain ⟨n, rfl⟩ : ∃ j, n = j + 1 := ⟨n - 1, by omega⟩
    by_cases h0 : b = 0
    · subst h0
      refine ⟨.fz (.int 0), ?_⟩
      rw [Nat.gcd_zero_right]
      refine whileGo_no ?_
      unfold wt_common_of_1
      simp
    · have hlt : a % b < b := Nat.mod_lt _ (by omega)
      obtain ⟨b', e⟩ := ih (a % b) hlt b n (by omega)
      refine ⟨b', ?_⟩
      have hp : 0 < b := by omega
      rw [whileGo_yes (e1 := [.fz (.int a), .fz (.int b)]) (by unfold wt_common_of_1; simp [hp])]
      unfold wb_common_of_2
      rw [Nat.gcd_comm, ← Nat.gcd_rec] at e
      rw [Int.natCast_emod, Nat.gcd_comm] at e
      simp [hp]
      exact e
theorem common_of_ap {a b : Nat} (h : b ≤ 100000) : m_common_of [.fz (.int a), .fz (.int b)] = some (.v (.int (Nat.gcd a b : Nat)), none) := by
  obtain ⟨b', e⟩ := common_loop b a fuel (by show b < 1000000; omega)
  rw [u_common_of]
  unfold g_common_of
  simp [e]
theorem lcommon_loop : ∀ (b a n : Nat), b < n → ∃ b', whileGo wt__law_common_1 wb__law_common_2 n [.fz (.int a), .fz (.int b)] = some (.nx, [.fz (.int (Nat.gcd a b : Nat)), b']) := by
  intro b
  induction b using Nat.strongRecOn with
  | _ b ih =>
    intro a n hn
    obtain ⟨n, rfl⟩ : ∃ j, n = j + 1 := ⟨n - 1, by omega⟩
    by_cases h0 : b = 0
    · subst h0
      refine ⟨.fz (.int 0), ?_⟩
      rw [Nat.gcd_zero_right]
      refine whileGo_no ?_
      unfold wt__law_common_1
      simp
    · have hlt : a % b < b := Nat.mod_lt _ (by omega)
      obtain ⟨b', e⟩ := ih (a % b) hlt b n (by omega)
      refine ⟨b', ?_⟩
      have hp : 0 < b := by omega
      rw [whileGo_yes (e1 := [.fz (.int a), .fz (.int b)]) (by unfold wt__law_common_1; simp [hp])]
      unfold wb__law_common_2
      rw [Nat.gcd_comm, ← Nat.gcd_rec] at e
      rw [Int.natCast_emod, Nat.gcd_comm] at e
      simp [hp]
      exact e
theorem lcommon_ap {a b : Nat} (h : b ≤ 100000) : m__law_common [.fz (.int a), .fz (.int b)] = some (.v (.int (Nat.gcd a b : Nat)), none) := by
  obtain ⟨b', e⟩ := lcommon_loop b a fuel (by show b < 1000000; omega)
  rw [u__law_common]
  unfold g__law_common
  simp [e]
/-! rounds -/
/-- which cards were seen, as marks -/
def flg (n : Nat) (seen : List Int) : List D := (rgZ n).map fun i => PyData.bool (decide (i ∈ seen))
theorem flg_len (n : Nat) (seen : List Int) : (flg n seen).length = n := by simp [flg, rgZ_len]
theorem flg_nil (n : Nat) : flg n [] = List.replicate n (.bool false) := by
  refine List.ext_getElem (by rw [flg_len, List.length_replicate]) fun i h1 h2 => ?_
  simp [flg]
theorem flg_at {n : Nat} {seen : List Int} {i : Int} (h0 : 0 ≤ i) (h : i < n) : L2.atI (flg n seen) i = some (.bool (decide (i ∈ seen))) := by
  rw [atI_int h0 (by rw [flg_len]; exact h)]
  have hn : i.toNat < n := by omega
  unfold flg
  rw [List.getElem?_map, rgZ_get hn]
  show some (PyData.bool (decide (((i.toNat : Nat) : Int) ∈ seen))) = _
  rw [show ((i.toNat : Nat) : Int) = i by omega]
theorem flg_set {n : Nat} {seen : List Int} {i : Int} (h0 : 0 ≤ i) (h : i < n) : (flg n seen).set i.toNat (.bool true) = flg n (seen ++ [i]) := by
  refine List.ext_getElem? fun j => ?_
  by_cases hj : j < n
  · have a1 : (flg n seen)[j]? = some (.bool (decide ((j : Int) ∈ seen))) := by
      unfold flg
      rw [List.getElem?_map, rgZ_get hj]
      rfl
    have a2 : (flg n (seen ++ [i]))[j]? = some (.bool (decide ((j : Int) ∈ seen ++ [i]))) := by
      unfold flg
      rw [List.getElem?_map, rgZ_get hj]
      rfl
    rw [a2, List.getElem?_set]
    by_cases e : i.toNat = j
    · rw [if_pos e, if_pos (by rw [flg_len]; omega)]
      have : (j : Int) = i := by omega
      rw [this]
      simp
    · rw [if_neg e, a1]
      have : ¬ (j : Int) = i := by omega
      simp [this]
  · rw [List.getElem?_eq_none (by rw [List.length_set, flg_len]; omega), List.getElem?_eq_none (by rw [flg_len]; omega)]
theorem row_loop {m : List Int} (hm : Pak m) {s1 s3 : Sl} : ∀ (k : Nat) (seen row : List Int) (here : Int), Sn m seen → 0 ≤ here → here < m.length → m.length ≤ k + seen.length → row.length ≤ seen.length →
    ∃ h', whileGo wt_rounds_of_1 wb_rounds_of_2 (k + 1) [.fz (iT m), s1, .ow (flg m.length seen), s3, .ow (iL row), .fz (.int here)] =
      some (.nx, [.fz (iT m), s1, .ow (flg m.length (seen ++ crow m k seen here)), s3, .ow (iL (row ++ crow m k seen here)), .fz (.int h')])
  | k, seen, row, here, s, h0, h1, hk, hr => by
    have fa := flg_at (seen := seen) h0 h1
    by_cases hin : here ∈ seen
    · refine ⟨here, ?_⟩
      have ec : crow m k seen here = [] := by
        cases k with
        | zero => rfl
        | succ k =>
          unfold crow
          rw [if_pos hin]
      rw [ec, List.append_nil, List.append_nil]
      refine whileGo_no ?_
      unfold wt_rounds_of_1
      simp [fa, hin]
    · cases k with
      | zero =>
        have := (s.snoc h0 h1 hin).le
        rw [List.length_append, List.length_singleton] at this
        omega
      | succ k =>
        have hs := s.snoc h0 h1 hin
        obtain ⟨h', ih⟩ := row_loop hm (s1 := s1) (s3 := s3) k (seen ++ [here]) (row ++ [here]) (gt m here) hs (hm.pk.gt_lo h0 h1) (hm.pk.gt_hi h0 h1) (by rw [List.length_append, List.length_singleton]; omega) (by rw [List.length_append, List.length_append, List.length_singleton]; omega)
        refine ⟨h', ?_⟩
        have ec : crow m (k + 1) seen here = here :: crow m k (seen ++ [here]) (gt m here) := by
          show (if here ∈ seen then [] else _) = _
          rw [if_neg hin]
        rw [ec, whileGo_yes (e1 := [.fz (iT m), s1, .ow (flg m.length seen), s3, .ow (iL row), .fz (.int here)]) (by unfold wt_rounds_of_1; simp [fa, hin])]
        unfold wb_rounds_of_2
        have b1 := ixN_int (n := (flg m.length seen).length) h0 (by rw [flg_len]; exact h1)
        have b2 := flg_set (seen := seen) h0 h1
        have b3 : row.length < lim := by
          have := s.le
          have := hm.hi
          show _ < 1000000
          omega
        have b4 := atI_iL h0 h1
        simp only [iL] at b4
        simp only [List.append_assoc, List.singleton_append] at ih
        simp [b1, b2, b3, b4]
        simp [iL] at ih
        exact ih
theorem rounds_loop {m : List Int} (hm : Pak m) : ∀ (bs seen : List Int) (rows : List (List Int)) (a b c : Option D), Sn m seen → (∀ x ∈ bs, 0 ≤ x ∧ x < m.length) → rows.length + bs.length ≤ 1000 → (∃ r : List Int, r = r) →
    ∀ (s4 : Sl), (s4 = .em ∨ ∃ r, s4 = .ow r) → ∃ fl' a' s4' c', forGo (gN 3) fb_rounds_of_3 (iI bs) [.fz (iT m), .ow (rows.map iT), .ow (flg m.length seen), oS a, s4, oS c] =
      some (.nx, [.fz (iT m), .ow ((rows ++ rnds m bs seen).map iT), .ow fl', oS a', s4', oS c'])
  | [], seen, rows, a, b, c, s, hb, hr, _, s4, h4 => ⟨flg m.length seen, a, s4, c, by simp [rnds]⟩
  | x :: bs, seen, rows, a, b, c, s, hb, hr, hz, s4, h4 => by
    rw [List.length_cons] at hr
    obtain ⟨x0, x1⟩ := hb x (List.mem_cons_self ..)
    have fa := flg_at (seen := seen) x0 x1
    rw [iI_cons, forGo_cons]
    by_cases hin : x ∈ seen
    · obtain ⟨fl', a', s4', c', ih⟩ := rounds_loop hm bs seen rows (some (.int x)) b c s (fun y hy => hb y (List.mem_cons_of_mem _ hy)) (by omega) hz s4 h4
      refine ⟨fl', a', s4', c', ?_⟩
      have er : rnds m (x :: bs) seen = rnds m bs seen := by
        show (if x ∈ seen then _ else _) = _
        rw [if_pos hin]
      rw [er]
      unfold fb_rounds_of_3
      simp [fa, hin]
      simp only [List.map_append] at ih
      exact ih
    · have h52 := hm.hi
      obtain ⟨h', lp⟩ := row_loop hm (s1 := .ow (rows.map iT)) (s3 := .fz (.int x)) 999999 seen [] x s x0 x1 (by omega) (Nat.zero_le _)
      have est : crow m 999999 seen x = crow m m.length seen x := crow_stable hm.pk _ _ s x0 x1 (by omega) (by omega)
      rw [est, show 999999 + 1 = fuel from rfl, List.nil_append] at lp
      have hs2 := crow_sn hm.pk m.length s x0 x1
      obtain ⟨fl', a', s4', c', ih⟩ := rounds_loop hm bs (seen ++ crow m m.length seen x) (rows ++ [crow m m.length seen x]) (some (.int x)) b (some (.int h')) hs2 (fun y hy => hb y (List.mem_cons_of_mem _ hy)) (by rw [List.length_append, List.length_singleton]; omega) hz (.ow (iL (crow m m.length seen x))) (.inr ⟨_, rfl⟩)
      refine ⟨fl', a', s4', c', ?_⟩
      have er : rnds m (x :: bs) seen = crow m m.length seen x :: rnds m bs (seen ++ crow m m.length seen x) := by
        show (if x ∈ seen then _ else _) = _
        rw [if_neg hin]
      rw [er]
      unfold fb_rounds_of_3
      have b3 : rows.length < lim := by show _ < 1000000; omega
      have l0 : 0 ≤ lim := by decide
      simp only [iL, iT, List.map_nil] at lp
      simp only [List.append_assoc, List.singleton_append] at ih
      rcases h4 with rfl | ⟨r, rfl⟩
      · simp [fa, hin, lp, b3]
        simp at ih
        exact ih
      · simp [fa, hin, lp, b3]
        simp at ih
        exact ih
theorem rounds_of_ap {m : List Int} (hm : Pak m) : m_rounds_of [.fz (iT m)] = some (.v (.list ((rnds m (rgZ m.length) []).map iT)), none) := by
  obtain ⟨fl', a', s4', c', lp⟩ := rounds_loop hm (rgZ m.length) [] [] none none none ⟨.nil, fun x hx => by cases hx⟩ (fun x hx => mem_rgZ.mp hx) (by rw [rgZ_len]; have := hm.hi; simp; omega) ⟨[], rfl⟩ .em (.inl rfl)
  rw [u_rounds_of]
  unfold g_rounds_of
  have h1 : inB (m.length : Nat) = true := inB_of (by omega) (by have := hm.hi; omega)
  have h2 : m.length ≤ lim := by have := hm.hi; show _ ≤ 1000000; omega
  have l0 : 0 ≤ lim := by decide
  have l1 : 1 ≤ lim := by decide
  rw [flg_nil, ← rgI_Z, ← oS_n, List.nil_append, List.map_nil] at lp
  simp only [iT, iL] at lp
  simp [h1, h2, gI_of, rep_flat, l0, l1, lp]
end MM
end
section
set_option maxRecDepth 100000
set_option maxHeartbeats 4000000
namespace MM
open PySem DL GG
/-! repr of ints in a row -/
theorem bulk_iL : ∀ ns : List Int, PyData.bulkAll (iL ns) = ns.length
  | [] => rfl
  | n :: ns => by
    have := bulk_iL ns
    simp only [iL, List.map_cons, PyData.bulkAll, PyData.bulk, List.length_cons] at this ⊢
    omega
theorem nodict_iL : ∀ ns : List Int, PyData.hasDictAll (iL ns) = false
  | [] => rfl
  | n :: ns => by
    have := nodict_iL ns
    simp only [iL, List.map_cons, PyData.hasDictAll, PyData.hasDict] at this ⊢
    rw [this]
    rfl
theorem short_i {i : Int} (h : i.natAbs < 10 ^ 100) : PyData.leavesShort 101 (.int i) = true := by
  simp only [PyData.leavesShort, PyData.shown]
  refine decide_eq_true ?_
  rw [ofString_length]
  exact int_text_length_le10 (by decide) h
theorem short_iL : ∀ ns : List Int, (∀ i ∈ ns, i.natAbs < 10 ^ 100) → PyData.leavesShortAll 101 (iL ns) = true
  | [], _ => rfl
  | n :: ns, h => by
    have h1 := short_iL ns fun i hi => h i (List.mem_cons_of_mem _ hi)
    have h2 := short_i (h n (List.mem_cons_self ..))
    show (PyData.leavesShort 101 (.int n) && PyData.leavesShortAll 101 (iL ns)) = true
    rw [h1, h2]
    rfl
theorem show_i {i : Int} (h : i.natAbs < 10 ^ 100) : PyData.showable (.int i) = true := by
  simp only [PyData.showable]
  refine decide_eq_true ?_
  exact Nat.lt_of_lt_of_le (PySem.Flt.log2_lt_of (k := 400) (by decide) (Nat.lt_of_lt_of_le h (by decide))) (by decide)
theorem show_iL : ∀ ns : List Int, (∀ i ∈ ns, i.natAbs < 10 ^ 100) → PyData.showableAll (iL ns) = true
  | [], _ => rfl
  | n :: ns, h => by
    have h1 := show_iL ns fun i hi => h i (List.mem_cons_of_mem _ hi)
    have h2 := show_i (h n (List.mem_cons_self ..))
    show (PyData.showable (.int n) && PyData.showableAll (iL ns)) = true
    rw [h1, h2]
    rfl
theorem repOk_T {ns : List Int} (hl : ns.length ≤ 10000) (h : ∀ i ∈ ns, i.natAbs < 10 ^ 100) : repOk (iT ns) = true := by
  unfold repOk
  have h1 : PyData.showable (iT ns) = true := by
    simp only [PyData.showable]
    exact show_iL ns h
  have h2 : PyData.hasDict (iT ns) = false := by
    simp only [PyData.hasDict]
    exact nodict_iL ns
  have h3 : PyData.depth (iT ns) ≤ 40 := by
    simp only [PyData.depth, dep_iL]
    decide
  have h4 : (PyData.shown (iT ns)).length ≤ 4 * lim := by
    have := PyData.shown_le_bulk 101 (by decide) (iT ns) (by simp only [PyData.leavesShort]; exact short_iL ns h)
    simp only [PyData.bulk, bulk_iL] at this
    show _ ≤ 4 * 1000000
    omega
  rw [h1, h2, decide_eq_true h3, decide_eq_true h4]
  rfl
/-! orders -/
theorem rnds_pos {m : List Int} (h : 1 ≤ m.length) : ∀ {bs seen : List Int}, ∀ r ∈ rnds m bs seen, 0 < r.length
  | [], _, r, hr => by cases hr
  | b :: bs, seen, r, hr => by
    unfold rnds at hr
    by_cases hin : b ∈ seen
    · rw [if_pos hin] at hr
      exact rnds_pos h r hr
    · rw [if_neg hin] at hr
      rcases List.mem_cons.mp hr with rfl | hr
      · obtain ⟨k, hk⟩ : ∃ k, m.length = k + 1 := ⟨m.length - 1, by omega⟩
        rw [hk]
        show 0 < (if b ∈ seen then [] else b :: crow m k (seen ++ [b]) (gt m b)).length
        rw [if_neg hin]
        exact Nat.succ_pos _
      · exact rnds_pos h r hr
theorem lcm_val {T s : Nat} : ((T : Nat) : Int) / ((Nat.gcd T s : Nat) : Int) * (s : Int) = ((Nat.lcm T s : Nat) : Int) := by
  rw [← Int.natCast_ediv, ← Int.natCast_mul, lcm_step]
theorem lcm_bound {T s B : Nat} (h : T * 2 ^ (s + B) < 2 ^ 100) : Nat.lcm T s * 2 ^ B < 2 ^ 100 := by
  refine Nat.lt_of_le_of_lt ?_ h
  have h1 : Nat.lcm T s ≤ T * s := Nat.div_le_self _ _
  have h2 : s ≤ 2 ^ s := Nat.le_of_lt Nat.lt_two_pow_self
  rw [Nat.pow_add, ← Nat.mul_assoc]
  exact Nat.mul_le_mul_right _ (Nat.le_trans h1 (Nat.mul_le_mul_left _ h2))
theorem lt_of_mul {T B : Nat} (h : T * 2 ^ B < 2 ^ 100) : T < 2 ^ 100 := Nat.lt_of_le_of_lt (Nat.le_mul_of_pos_right _ (Nat.two_pow_pos B)) h
theorem order_loop {s0 : Sl} : ∀ (rows : List (List Int)) (T : Nat) (c : Option D), 0 < T → T * 2 ^ (rows.map List.length).sum < 2 ^ 100 → (∀ r ∈ rows, 0 < r.length ∧ r.length ≤ 52) →
    ∃ c', forGo (gN 2) fb_order_of_1 (rows.map (Itm.v ∘ iT)) [s0, .fz (.int T), oS c] = some (.nx, [s0, .fz (.int (lcmF T rows : Nat)), oS c']) ∧ 0 < lcmF T rows ∧ lcmF T rows < 2 ^ 100
  | [], T, c, hT, hB, _ => ⟨c, rfl, hT, lt_of_mul hB⟩
  | r :: rows, T, c, hT, hB, hr => by
    obtain ⟨r0, r1⟩ := hr r (List.mem_cons_self ..)
    rw [List.map_cons, List.sum_cons] at hB
    have hl : 0 < Nat.lcm T r.length := Nat.lcm_pos hT r0
    obtain ⟨c', ih, p1, p2⟩ := order_loop (s0 := s0) rows (Nat.lcm T r.length) (some (iT r)) hl (lcm_bound hB) fun q hq => hr q (List.mem_cons_of_mem _ hq)
    refine ⟨c', ?_, p1, p2⟩
    rw [List.map_cons, forGo_cons]
    have hg := common_of_ap (a := T) (b := r.length) (by omega)
    have g0 : 0 < Nat.gcd T r.length := Nat.gcd_pos_of_pos_left _ hT
    have g1 : Nat.gcd T r.length ≤ r.length := Nat.gcd_le_right _ r0
    have g2 : Nat.gcd T r.length < wid := wid_200 (Nat.lt_of_le_of_lt g1 (by omega))
    have hT100 := lt_of_mul hB
    have q1 : T / Nat.gcd T r.length ≤ T := Nat.div_le_self _ _
    have m1 : mulOk ((T : Int) / (Nat.gcd T r.length : Nat)) (r.length : Nat) = true := by
      refine mulOk_of ?_ (by omega)
      rw [← Int.natCast_ediv]
      show T / Nat.gcd T r.length < 2 ^ 200
      exact Nat.lt_of_le_of_lt q1 (Nat.lt_trans hT100 (by decide))
    have ev := lcm_val (T := T) (s := r.length)
    unfold fb_order_of_1
    simp [hg, g0, g2, m1, gI_of, ev]
    exact ih
theorem le_sum : ∀ {l : List Nat} {x : Nat}, x ∈ l → x ≤ l.sum
  | a :: l, x, h => by
    rw [List.sum_cons]
    rcases List.mem_cons.mp h with rfl | h
    · omega
    · have := le_sum h
      omega
theorem rnds_all {m : List Int} (hm : Pak m) : (∀ r ∈ rnds m (rgZ m.length) [], 0 < r.length ∧ r.length ≤ 52) ∧ ((rnds m (rgZ m.length) []).map List.length).sum ≤ 52 := by
  have hs := rnds_sum hm.pk (bs := rgZ m.length) (seen := []) ⟨.nil, fun x hx => by cases hx⟩ fun b hb => mem_rgZ.mp hb
  have h52 := hm.hi
  refine ⟨fun r hr => ⟨rnds_pos hm.lo r hr, ?_⟩, by simp at hs; omega⟩
  have : r.length ≤ ((rnds m (rgZ m.length) []).map List.length).sum := le_sum (List.mem_map_of_mem hr)
  simp at hs
  omega
/-- how many times a move is done until all lies as before -/
def ordr (m : List Int) : Nat := lcmF 1 (rnds m (rgZ m.length) [])
theorem two52 {n : Nat} (h : n ≤ 52) : 1 * 2 ^ n < 2 ^ 100 := by
  rw [Nat.one_mul]
  exact Nat.pow_lt_pow_right (by decide) (by omega)
theorem order_of_ap {m : List Int} (hm : Pak m) : m_order_of [.fz (iT m)] = some (.v (.int (ordr m : Nat)), none) ∧ 0 < ordr m ∧ ordr m < 2 ^ 100 := by
  obtain ⟨h1, h2⟩ := rnds_all hm
  obtain ⟨c', lp, p1, p2⟩ := order_loop (s0 := .fz (iT m)) (rnds m (rgZ m.length) []) 1 none (by decide) (two52 h2) h1
  refine ⟨?_, p1, p2⟩
  rw [u_order_of]
  unfold g_order_of
  have e1 := rounds_of_ap hm
  rw [← oS_n] at lp
  simp only [iT, iL] at e1 lp
  simp [e1]
  have e2 : (List.map (Itm.v ∘ fun ns => PyData.tuple (List.map PyData.int ns)) (rnds m (rgZ m.length) [])) = (rnds m (rgZ m.length) []).map (Itm.v ∘ iT) := rfl
  simp only [Int.natCast_one] at lp
  rw [lp]
  rfl
theorem pw_ordr {m : List Int} (hm : Pak m) : pw m (ordr m) = rgZ m.length := pw_rounds hm.pk (lcmF_dvd (rs := rnds m (rgZ m.length) []) (T := 1)).2
end MM
end
section
set_option maxRecDepth 100000
set_option maxHeartbeats 4000000
namespace MM
open PySem DL GG
section
variable {m : List Int} {n : Nat} {s : Int}
theorem times_back_ap (hm : Pak m) : m_times_back [.fz (iT m)] = some (.v (.int (ordr m : Nat)), none) := by
  rw [u_times_back]
  unfold g_times_back
  have e1 := want_move_ap hm
  have e2 := (order_of_ap hm).1
  simp only [iT, iL] at e1 e2
  simp [e1, e2]
theorem deal_times_ap (h0 : 1 ≤ n) (h1 : n ≤ 52) (s0 : 1 ≤ s) (s1 : s ≤ 1000000000000000000000000000000) : m_deal_times [.fz (.int n), .fz (.int s)] = some (.v (.int (ordr (dm n s) : Nat)), none) := by
  rw [u_deal_times]
  unfold g_deal_times
  have e1 := want_cards_ap h0 h1
  have e2 := want_step_ap s0 s1
  have e3 := move_of_deal_ap (s := s) h1
  have e4 := (order_of_ap (dm_pak s h0 h1)).1
  simp only [iT, iL] at e3 e4
  simp [e1, e2, e3, e4]
/-- the sizes of the rounds, the greatest first -/
def szs (m : List Int) : List Int := (srtI ((rnds m (rgZ m.length) []).map fun r => (r.length : Int))).reverse
theorem lcGo_rows {own : List Nat} {t : Tg} {k : Ts} {f : Ex} {e : En} (φ : List Int → D) : ∀ {q : List (List Int)}, (∀ i ∈ q, lcOne own t k f (.v (iT i)) e = some (some (φ i), e)) → lcGo own t k f (q.map (Itm.v ∘ iT)) e = some (q.map φ, e)
  | [], _ => rfl
  | i :: q, h => by
    rw [List.map_cons, lcGo_cons]
    show bnd (lcOne own t k f (.v (iT i)) e) _ = _
    rw [h i (List.mem_cons_self ..), bnd_some, lcGo_rows φ fun j hj => h j (List.mem_cons_of_mem _ hj), bnd_some]
    rfl
theorem round_sizes_ap (hm : Pak m) : m_round_sizes [.fz (iT m)] = some (.v (iLs (szs m)), none) := by
  rw [u_round_sizes]
  unfold g_round_sizes
  have e1 := want_move_ap hm
  have e2 := rounds_of_ap hm
  have hl : (rnds m (rgZ m.length) []).length ≤ lim := by
    obtain ⟨h1, h2⟩ := rnds_all hm
    have key : ∀ q : List (List Int), (∀ r ∈ q, 0 < r.length) → q.length ≤ (q.map List.length).sum := by
      intro q
      induction q with
      | nil => intro _; exact Nat.le_refl _
      | cons r q ih =>
        intro h
        have a1 := h r (List.mem_cons_self ..)
        have a2 := ih fun x hx => h x (List.mem_cons_of_mem _ hx)
        rw [List.map_cons, List.sum_cons, List.length_cons]
        omega
    have := key _ fun r hr => (h1 r hr).1
    show _ ≤ 1000000
    omega
  have key := lcGo_rows (own := [1]) (t := gN 1) (k := sYes) (f := ce_round_sizes_1) (e := [.fz (iT m), .em]) (fun r => .int (r.length : Nat)) (q := rnds m (rgZ m.length) []) (fun i hi => by
    rw [lcOne_ap]
    unfold ce_round_sizes_1
    simp)
  have e3 : (rnds m (rgZ m.length) []).map (fun r => PyData.int (r.length : Nat)) = iL ((rnds m (rgZ m.length) []).map fun r => (r.length : Int)) := by simp [iL]
  rw [e3] at key
  have e4 := intsD_iL ((rnds m (rgZ m.length) []).map fun r => (r.length : Int))
  simp only [iL, List.map_map] at e4 key
  simp only [iT, iL] at e1 e2
  simp [e1, e2, hl]
  rw [show (List.map (Itm.v ∘ iT) (rnds m (rgZ m.length) [])) = List.map (Itm.v ∘ iT) (rnds m (rgZ m.length) []) from rfl] at key
  simp only [iT, iL] at key
  simp [key, e4, szs]
end
/-! the law's own equality -/
def wd : Nat → D → Bool
  | 0, _ => false
  | _ + 1, .none => true
  | _ + 1, .bool _ => true
  | _ + 1, .int _ => true
  | _ + 1, .str _ => true
  | k + 1, .list ds => decide (ds.length ≤ 100000) && ds.all (wd k)
  | k + 1, .tuple ds => decide (ds.length ≤ 100000) && ds.all (wd k)
  | _ + 1, .dict _ => false
theorem is_list {ds : List D} {r : Fn} {e : En} (h : ∀ d ∈ ds, r [.fz d, .fz d] = some (.v (.bool true), none)) (hl : ds.length ≤ 100000) (c : D) (hc : c = .list ds ∨ c = .tuple ds) :
    lcGo [3] (gN 3) (ck__law_is_1 r) (ce__law_is_2 r) (iI (rgZ ds.length)) [.fz c, .fz c, .fz (.bool true), .em] = some ([], [.fz c, .fz c, .fz (.bool true), .em]) := by
  have := lcGo_ints (own := [3]) (t := gN 3) (k := ck__law_is_1 r) (f := ce__law_is_2 r) (e := [.fz c, .fz c, .fz (.bool true), .em]) (fun _ => none) (q := rgZ ds.length) (fun i hi => by
    obtain ⟨h0, h1⟩ := mem_rgZ.mp hi
    obtain ⟨n, rfl⟩ : ∃ n : Nat, i = n := ⟨i.toNat, by omega⟩
    have hn : n < ds.length := by omega
    have a1 := atI_lt (xs := ds) hn
    have a2 := h _ (List.getElem_mem hn)
    rw [lcOne_ap]
    unfold ck__law_is_1
    rcases hc with rfl | rfl
    · simp [a1, a2]
    · simp [a1, a2])
  rw [this]
  have : (rgZ ds.length).filterMap (fun _ => (none : Option D)) = [] := by
    generalize rgZ ds.length = q
    induction q with
    | nil => rfl
    | cons a q ih => rw [List.filterMap_cons]; exact ih
  rw [this]
theorem law_is_ap : ∀ (k : Nat) (d : D), wd k d = true → m__law_is k [.fz d, .fz d] = some (.v (.bool true), none)
  | 0, d, h => by cases h
  | k + 1, d, h => by
    rw [u__law_is]
    unfold g__law_is
    cases d with
    | none => simp
    | bool b => simp [isO, isD, isTy]
    | int i => simp [isO, isD, isTy]
    | str x => simp [isO, isD, isTy, isNo]
    | list ds =>
      have h' : (decide (ds.length ≤ 100000) && ds.all (wd k)) = true := h
      obtain ⟨h1, h2⟩ := Bool.and_eq_true_iff.mp h'
      have h1 := of_decide_eq_true h1
      have b1 : inB (ds.length : Nat) = true := inB_of (by omega) (by omega)
      have b2 : ds.length ≤ lim := by show _ ≤ 1000000; omega
      have lp := is_list (r := m__law_is k) (e := []) (fun d hd => law_is_ap k d (List.all_eq_true.mp h2 d hd)) h1 (.list ds) (.inl rfl)
      rw [← rgI_Z] at lp
      have l0 : 0 ≤ lim := by decide
      have ee := eqD_L0 (a := [])
      simp only [iLs, iL, List.map_nil] at ee
      simp [isTy, isO, isD, gI_of, b1, b2, lp, ee]
    | tuple ds =>
      have h' : (decide (ds.length ≤ 100000) && ds.all (wd k)) = true := h
      obtain ⟨h1, h2⟩ := Bool.and_eq_true_iff.mp h'
      have h1 := of_decide_eq_true h1
      have b1 : inB (ds.length : Nat) = true := inB_of (by omega) (by omega)
      have b2 : ds.length ≤ lim := by show _ ≤ 1000000; omega
      have lp := is_list (r := m__law_is k) (e := []) (fun d hd => law_is_ap k d (List.all_eq_true.mp h2 d hd)) h1 (.tuple ds) (.inr rfl)
      rw [← rgI_Z] at lp
      have l0 : 0 ≤ lim := by decide
      have ee := eqD_L0 (a := [])
      simp only [iLs, iL, List.map_nil] at ee
      simp [isTy, isO, isD, gI_of, b1, b2, lp, ee]
    | dict kv => cases h
end MM
end
section
set_option maxRecDepth 100000
set_option maxHeartbeats 8000000
namespace MM
open PySem DL GG
section
variable {s0 s1 s2 s3 s4 s5 s6 s7 s8 s9 s10 s11 s12 s13 s14 s15 s16 s17 s18 : Sl}
theorem due_loop {f : List Int} : ∀ (q : List Int) (k : Nat) (r : List Int) (a b : Option D), (∀ x ∈ q, 0 ≤ x ∧ x < r.length) → k + q.length ≤ f.length →
    ∃ a' b', forGo (gT 2 (gsCons (gN 8) (gsCons (gN 9) gsNil))) fb__law_right_1 (enI k q) [s0, s1, s2, s3, .fz (iT f), s5, s6, .ow (iL r), oS a, oS b, s10, s11, s12, s13, s14, s15, s16, s17, s18] =
      some (.nx, [s0, s1, s2, s3, .fz (iT f), s5, s6, .ow (iL (setF (fun k => gt f k) k q r)), oS a', oS b', s10, s11, s12, s13, s14, s15, s16, s17, s18])
  | [], k, r, a, b, _, _ => ⟨a, b, rfl⟩
  | x :: q, k, r, a, b, h, hk => by
    rw [List.length_cons] at hk
    obtain ⟨x0, x1⟩ := h x (List.mem_cons_self ..)
    obtain ⟨a', b', ih⟩ := due_loop (f := f) q (k + 1) (r.set x.toNat (gt f k)) (some (.int k)) (some (.int x)) (fun y hy => by rw [List.length_set]; exact h y (List.mem_cons_of_mem _ hy)) (by omega)
    refine ⟨a', b', ?_⟩
    rw [show enI k (x :: q) = .p (.int k) (.int x) :: enI (k + 1) q from rfl, forGo_cons]
    have e1 := ixN_int x0 x1
    have e2 := atI_iL (ns := f) (i := (k : Int)) (by omega) (by omega)
    rw [← set_iL] at ih
    simp only [iL] at ih e2
    unfold fb__law_right_1
    simp [e1, e2]
    exact ih
theorem lw_loop {o : List Int} (ho : Pak o) : ∀ (q seen : List Int) (here size : Int) (c : Option D), Sn o seen → 0 ≤ here → here < o.length →
    ∃ h' c', forGo (gN 16) fb__law_right_2 (iI q) [s0, s1, s2, s3, s4, s5, .fz (iLs o), s7, s8, s9, s10, s11, .ow (iL seen), s13, .fz (.int here), .fz (.int size), oS c, s17, s18] =
      some (.nx, [s0, s1, s2, s3, s4, s5, .fz (iLs o), s7, s8, s9, s10, s11, .ow (iL (seen ++ crow o q.length seen here)), s13, .fz (.int h'), .fz (.int (size + (crow o q.length seen here).length)), oS c', s17, s18])
  | [], seen, here, size, c, s, h0, h1 => ⟨here, c, by simp [crow]⟩
  | x :: q, seen, here, size, c, s, h0, h1 => by
    rw [iI_cons, forGo_cons, List.length_cons]
    have n1 := notIn_L (ns := seen) (k := here)
    by_cases hin : here ∈ seen
    · obtain ⟨h', c', ih⟩ := lw_loop ho q seen here size (some (.int x)) s h0 h1
      have ec : crow o q.length seen here = [] := by
        cases q.length with
        | zero => rfl
        | succ k =>
          show (if here ∈ seen then [] else _) = _
          rw [if_pos hin]
      have ec1 : crow o (q.length + 1) seen here = [] := by
        show (if here ∈ seen then [] else _) = _
        rw [if_pos hin]
      rw [ec] at ih
      rw [ec1]
      refine ⟨h', c', ?_⟩
      unfold fb__law_right_2
      simp [hin]
      simp only [List.append_nil, List.length_nil, Int.natCast_zero, Int.add_zero] at ih
      exact ih
    · have hs := s.snoc h0 h1 hin
      obtain ⟨h', c', ih⟩ := lw_loop ho q (seen ++ [here]) (gt o here) (size + 1) (some (.int x)) hs (ho.pk.gt_lo h0 h1) (ho.pk.gt_hi h0 h1)
      have ec1 : crow o (q.length + 1) seen here = here :: crow o q.length (seen ++ [here]) (gt o here) := by
        show (if here ∈ seen then [] else _) = _
        rw [if_neg hin]
      rw [ec1]
      refine ⟨h', c', ?_⟩
      have b3 : seen.length < lim := by
        have := s.le
        have := ho.hi
        show _ < 1000000
        omega
      have b4 := atI_iL h0 h1
      simp only [iL] at b4
      unfold fb__law_right_2
      simp [hin, b3, b4]
      have e9 : size + 1 + ((crow o q.length (seen ++ [here]) (gt o here)).length : Int) = size + (((crow o q.length (seen ++ [here]) (gt o here)).length : Int) + 1) := by omega
      simp [iL, e9] at ih
      exact ih
theorem lo_loop {o : List Int} (ho : Pak o) : ∀ (bs seen sizes : List Int) (T : Nat) (b h z t : Option D), Sn o seen → (∀ x ∈ bs, 0 ≤ x ∧ x < o.length) → 0 < T → T * 2 ^ ((rnds o bs seen).map List.length).sum < 2 ^ 100 → sizes.length + bs.length ≤ 1000 →
    ∃ seen' b' h' z' t', forGo (gN 13) fb__law_right_3 (iI bs) [s0, .fz (.int (o.length : Nat)), s2, s3, s4, s5, .fz (iLs o), s7, s8, s9, .fz (.int T), .ow (iL sizes), .ow (iL seen), oS b, oS h, oS z, oS t, s17, s18] =
      some (.nx, [s0, .fz (.int (o.length : Nat)), s2, s3, s4, s5, .fz (iLs o), s7, s8, s9, .fz (.int (lcmF T (rnds o bs seen) : Nat)), .ow (iL (sizes ++ (rnds o bs seen).map fun r => (r.length : Int))), .ow (iL seen'), oS b', oS h', oS z', oS t', s17, s18])
  | [], seen, sizes, T, b, h, z, t, s, hb, hT, hB, hl => ⟨seen, b, h, z, t, by simp [rnds, lcmF]⟩
  | x :: bs, seen, sizes, T, b, h, z, t, s, hb, hT, hB, hl => by
    rw [List.length_cons] at hl
    obtain ⟨x0, x1⟩ := hb x (List.mem_cons_self ..)
    rw [iI_cons, forGo_cons]
    have n1 := notIn_L (ns := seen) (k := x)
    by_cases hin : x ∈ seen
    · have er : rnds o (x :: bs) seen = rnds o bs seen := by
        show (if x ∈ seen then _ else _) = _
        rw [if_pos hin]
      rw [er] at hB ⊢
      obtain ⟨seen', b', h', z', t', ih⟩ := lo_loop ho bs seen sizes T (some (.int x)) h z t s (fun y hy => hb y (List.mem_cons_of_mem _ hy)) hT hB (by omega)
      refine ⟨seen', b', h', z', t', ?_⟩
      unfold fb__law_right_3
      simp [hin]
      simp only [iL, List.map_append, List.map_map] at ih
      exact ih
    · have er : rnds o (x :: bs) seen = crow o o.length seen x :: rnds o bs (seen ++ crow o o.length seen x) := by
        show (if x ∈ seen then _ else _) = _
        rw [if_neg hin]
      rw [er] at hB ⊢
      rw [List.map_cons, List.sum_cons] at hB
      have hs2 := crow_sn ho.pk o.length s x0 x1
      have h52 := ho.hi
      have hlo := ho.lo
      have r0 : 0 < (crow o o.length seen x).length := by
        obtain ⟨k, hk⟩ : ∃ k, o.length = k + 1 := ⟨o.length - 1, by omega⟩
        rw [hk]
        show 0 < (if x ∈ seen then [] else x :: crow o k (seen ++ [x]) (gt o x)).length
        rw [if_neg hin]
        exact Nat.succ_pos _
      have r1 : (crow o o.length seen x).length ≤ 52 := by
        have := hs2.le
        rw [List.length_append] at this
        omega
      obtain ⟨h', c', lp⟩ := lw_loop (s0 := s0) (s1 := .fz (.int (o.length : Nat))) (s2 := s2) (s3 := s3) (s4 := s4) (s5 := s5) (s7 := s7) (s8 := s8) (s9 := s9) (s10 := .fz (.int T)) (s11 := .ow (iL sizes)) (s13 := .fz (.int x)) (s17 := s17) (s18 := s18) ho (rgZ o.length) seen x 0 t s x0 x1
      rw [rgZ_len, ← rgI_Z] at lp
      obtain ⟨seen', b', h2', z', t', ih⟩ := lo_loop ho bs (seen ++ crow o o.length seen x) (sizes ++ [((crow o o.length seen x).length : Int)]) (Nat.lcm T (crow o o.length seen x).length) (some (.int x)) (some (.int h')) (some (.int (crow o o.length seen x).length)) c' hs2 (fun y hy => hb y (List.mem_cons_of_mem _ hy)) (Nat.lcm_pos hT r0) (lcm_bound hB) (by rw [List.length_append, List.length_singleton]; omega)
      refine ⟨seen', b', h2', z', t', ?_⟩
      have b1 : inB (o.length : Nat) = true := inB_of (by omega) (by omega)
      have b3 : sizes.length < lim := by show _ < 1000000; omega
      generalize crow o o.length seen x = row at *
      have hg := lcommon_ap (a := T) (b := row.length) (by omega)
      have g0 : 0 < Nat.gcd T row.length := Nat.gcd_pos_of_pos_left _ hT
      have g1 : Nat.gcd T row.length ≤ row.length := Nat.gcd_le_right _ r0
      have g2 : Nat.gcd T row.length < wid := wid_200 (Nat.lt_of_le_of_lt g1 (by omega))
      have hT100 := lt_of_mul hB
      have q1 : T / Nat.gcd T row.length ≤ T := Nat.div_le_self _ _
      have m1 : mulOk ((T : Int) / (Nat.gcd T row.length : Nat)) (row.length : Nat) = true := by
        refine mulOk_of ?_ (by omega)
        rw [← Int.natCast_ediv]
        show T / Nat.gcd T row.length < 2 ^ 200
        exact Nat.lt_of_le_of_lt q1 (Nat.lt_trans hT100 (by decide))
      have ev := lcm_val (T := T) (s := row.length)
      simp only [Int.zero_add, iL, iLs] at lp
      unfold fb__law_right_3
      simp [hin, b1, gI_of, lp, b3, hg, g0, g2, m1, ev]
      simp [iL, iLs, lcmF] at ih ⊢
      exact ih
end
/-! the pot -/
theorem cut_to1 (ns : List Int) : cutD (iL ns) none (some 1) = iL (ns.take 1) := cut_to ns 1
theorem pot_ap (ns : List Int) (k : Nat) (hk : k ≤ 1000) : ∃ p, m__law_pot [.sc ns, .fz (.int k)] = some (.o (pL p), none) ∧ Pot p := by
  have l2 : 2 ≤ lim := by decide
  have m1 : mulOk 311 (k : Int) = true := mulOk_of (by decide) (by omega)
  have m3 : mulOk 8623 (k : Int) = true := mulOk_of (by decide) (by omega)
  have key : ∀ cell : Int, mulOk (cell % 2147483549) 40507 = true := fun cell => mulOk_of (by
    have h0 := Int.emod_nonneg cell (show (2147483549 : Int) ≠ 0 by decide)
    have h1 := Int.emod_lt_of_pos cell (show (0 : Int) < 2147483549 by decide)
    omega) (by decide)
  have fin : ∀ x : Int, 0 ≤ x % 2147483563 + 1 ∧ x % 2147483563 + 1 < 2147483648 := fun x => by omega
  rw [u__law_pot]
  unfold g__law_pot
  by_cases h : k < ns.length
  · have a1 : L2.atI ns (k : Int) = some ns[k] := atI_lt h
    generalize ns[k] = c at a1
    refine ⟨(if 0 < (if c < 0 then -c else c) - 1000000000000000000 then (if c < 0 then -c else c) - 1000000000000000000 else 0, ((if c < 0 then -c else c) % 2147483549 * 40507 + 8623 * (k : Int) + 157) % 2147483563 + 1), ?_, fin _⟩
    simp [h, a1, m1, m3, key, l2]
  · have e1 := cut_to1 ns
    have e2 := intsD_iL (ns.take 1)
    generalize ns.take 1 = w at e1 e2
    simp only [iL] at e1 e2
    refine ⟨(if 0 < (311 * (k : Int) + 227 + (if w.sum < 0 then -w.sum else w.sum) % 1000003) - 1000000000000000000 then (311 * (k : Int) + 227 + (if w.sum < 0 then -w.sum else w.sum) % 1000003) - 1000000000000000000 else 0,
      ((311 * (k : Int) + 227 + (if w.sum < 0 then -w.sum else w.sum) % 1000003) % 2147483549 * 40507 + 8623 * (k : Int) + 157) % 2147483563 + 1), ?_, fin _⟩
    simp [h, e1, e2, m1, m3, key, l2]
end MM
end
section
set_option maxRecDepth 100000
set_option maxHeartbeats 20000000
namespace MM
open PySem DL GG
theorem wd_i {k : Nat} {i : Int} : wd (k + 1) (.int i) = true := rfl
theorem wd_iL {k : Nat} : ∀ ns : List Int, (iL ns).all (wd (k + 1)) = true
  | [] => rfl
  | n :: ns => by
    rw [show iL (n :: ns) = .int n :: iL ns from rfl, List.all_cons, wd_iL ns]
    rfl
theorem wd_T {k : Nat} {ns : List Int} (h : ns.length ≤ 100000) : wd (k + 2) (iT ns) = true := by
  show (decide ((iL ns).length ≤ 100000) && (iL ns).all (wd (k + 1))) = true
  rw [wd_iL, iL_len, decide_eq_true h]
  rfl
theorem wd_L {k : Nat} {ns : List Int} (h : ns.length ≤ 100000) : wd (k + 2) (iLs ns) = true := by
  show (decide ((iL ns).length ≤ 100000) && (iL ns).all (wd (k + 1))) = true
  rw [wd_iL, iL_len, decide_eq_true h]
  rfl
theorem law_right_ap {p : Int × Int} (hp : Pot p) : ∃ out, m__law_right [.io (pL p)] = some (.v (.bool true), some out) := by
  obtain ⟨n, p1, e1, n0, n1, hp1⟩ := cards_ap hp
  obtain ⟨s, p2, e2, s0, s1, hp2⟩ := step_ap hp1
  obtain ⟨t, p3, e3, t0, t1, hp3⟩ := step_ap hp2
  obtain ⟨p4, f, e4, hf, fl, hp4⟩ := pack_ap (n := n) hp3 n0 n1
  refine ⟨pL p4, ?_⟩
  have ho := dm_pak s n0 n1
  have hl := dm_pak t n0 n1
  have ol : (dm n s).length = n := dm_len n s
  have ll : (dm n t).length = n := dm_len n t
  have hr := rg_pak n0 n1
  -- maths
  have fb : ∀ x ∈ f, x.natAbs < 10 ^ 100 := fun x hx => by
    have := hf.pk.mem.mp hx
    have : x.natAbs < 52 := by omega
    exact Nat.lt_of_lt_of_le this (by decide)
  have q1 : mv (mv f (bk (dm n s))) (dm n s) = f := by
    rw [mv_assoc (ho.inn (by rw [bk_len])), ho.pk.bk_mv, ol, ← fl, mv_rg]
  have q2 : mv (mv f (dm n s)) (bk (dm n s)) = f := by
    rw [mv_assoc (ho.bk.inn (by rw [bk_len])), ho.pk.mv_bk, ol, ← fl, mv_rg]
  have q3 : mv (rgZ n) (bk (dm n s)) = bk (dm n s) := rg_mv (ho.bk.inn (by rw [bk_len, ol]))
  have q4 : mv (mv f (dm n s)) (dm n t) = mv f (mv (dm n s) (dm n t)) := mv_assoc (hl.inn (by rw [ll, ol]))
  have q5 : mv (mv f (bk (dm n t))) (bk (dm n s)) = mv f (bk (mv (dm n s) (dm n t))) := by
    rw [ho.pk.bk_mvs hl.pk (by rw [ol, ll]), mv_assoc (ho.bk.inn (by rw [bk_len, bk_len, ol, ll]))]
  obtain ⟨_, T0, T1⟩ := order_of_ap ho
  have q6 := pw_ordr ho
  rw [ol] at q6
  have q7 : pw (dm n s) (ordr (dm n s) - 1) = bk (dm n s) := pw_pred ho.pk T0 (by rw [ol]; exact q6)
  -- the program
  have w1 := repOk_T (ns := f) (by rw [fl]; omega) fb
  have c1 := ldealt_ap (s := s) n1
  have c2 := prepared_ap hf s0 s1
  rw [fl] at c2
  have g1 : Pak (mv f (bk (dm n s))) := hf.mv ho.bk (by rw [fl, bk_len, ol])
  have g2 : Pak (mv f (dm n s)) := hf.mv ho (by rw [fl, ol])
  have g3 : Pak (mv f (bk (dm n t))) := hf.mv hl.bk (by rw [fl, bk_len, ll])
  have g4 : Pak (mv (dm n s) (dm n t)) := ho.mv hl (by rw [ol, ll])
  have c3 := deal_sequence_ap g1 s0 s1
  rw [mv_len, bk_len, ol, q1] at c3
  have c4 := deal_sequence_ap hf s0 s1
  rw [fl] at c4
  have c5 := prepared_ap g2 s0 s1
  rw [mv_len, ol, q2] at c5
  have c6 := plain_ap n0 n1
  have c7 := prepared_ap hr s0 s1
  rw [rgZ_len, q3] at c7
  have c8 := deal_move_ap n0 n1 s0 s1
  have c9 := back_ap ho
  have d1 := deal_times_ap n0 n1 s0 s1
  have d2 := times_back_ap ho
  have d3 := round_sizes_ap ho
  have d4 := done_ap ho (t := ordr (dm n s)) (Nat.lt_trans T1 (by decide))
  rw [q6] at d4
  have d5 := done_ap ho (t := ordr (dm n s) - 1) (Nat.lt_trans (Nat.lt_of_le_of_lt (Nat.sub_le _ _) T1) (by decide))
  rw [q7] at d5
  have d6 := deal_move_ap n0 n1 t0 t1
  have d7 := behind_ap ho hl (by rw [ol, ll])
  have d8 := moved_ap hf g4 (by rw [fl, mv_len, ll])
  have d9 := deal_sequence_ap g2 t0 t1
  rw [mv_len, ol, q4] at d9
  have x1 := prepared_ap hf t0 t1
  rw [fl] at x1
  have x2 := prepared_ap g3 s0 s1
  rw [mv_len, bk_len, ll, q5] at x2
  have x3 := back_ap g4
  have x4 := moved_ap hf g4.bk (by rw [fl, bk_len, mv_len, ll])
  -- the law's loops
  obtain ⟨a', b', lp1⟩ := due_loop (s0 := .io (pL p4)) (s1 := .fz (.int n)) (s2 := .fz (.int s)) (s3 := .fz (.int t)) (s5 := .fz (.str (iT f).shown)) (s6 := .fz (iLs (dm n s))) (s10 := .em) (s11 := .em) (s12 := .em) (s13 := .em) (s14 := .em) (s15 := .em) (s16 := .em) (s17 := .em) (s18 := .em) (f := f) (dm n s) 0 (List.replicate n 0) none none (fun x hx => by
    rw [List.length_replicate]
    exact ho.inn ol x hx) (by rw [fl, ol]; omega)
  have hdue : setF (fun k => gt f k) 0 (dm n s) (List.replicate n 0) = mv f (bk (dm n s)) := setF_bk ho.pk (by rw [List.length_replicate, ol]) _ (gt f) fun k _ => rfl
  rw [hdue, ← oS_n] at lp1
  obtain ⟨ra1, ra2⟩ := rnds_all ho
  obtain ⟨seen', b2', h2', z2', t2', lp2⟩ := lo_loop (s0 := .io (pL p4)) (s2 := .fz (.int s)) (s3 := .fz (.int t)) (s4 := .fz (iT f)) (s5 := .fz (.str (iT f).shown)) (s7 := .ow (iL (mv f (bk (dm n s))))) (s8 := oS a') (s9 := oS b') (s17 := .em) (s18 := .em) ho (rgZ n) [] [] 1 none none none none ⟨.nil, fun x hx => by cases hx⟩ (fun x hx => by rw [ol]; exact mem_rgZ.mp hx) (by decide) (by rw [ol] at ra2; exact two52 ra2) (by rw [rgZ_len]; simp; omega)
  have hT : lcmF 1 (rnds (dm n s) (rgZ n) []) = ordr (dm n s) := by
    unfold ordr
    rw [ol]
  have hS : (srtI ((rnds (dm n s) (rgZ n) []).map fun r => (r.length : Int))).reverse = szs (dm n s) := by
    unfold szs
    rw [ol]
  rw [hT, ol, ← rgI_Z, ← oS_n, List.nil_append] at lp2
  generalize hrow : ((rnds (dm n s) (rgZ n) []).map fun r => (r.length : Int)) = szl at lp2 hS
  -- the law's equality
  have szlen : (szs (dm n s)).length ≤ 100000 := by
    rw [← hS, ← hrow, List.length_reverse, (srtI_perm _).length_eq, List.length_map]
    have key : ∀ q : List (List Int), (∀ r ∈ q, 0 < r.length) → q.length ≤ (q.map List.length).sum := by
      intro q
      induction q with
      | nil => intro _; exact Nat.le_refl _
      | cons r q ih =>
        intro h
        have a1 := h r (List.mem_cons_self ..)
        have a2 := ih fun x hx => h x (List.mem_cons_of_mem _ hx)
        rw [List.map_cons, List.sum_cons, List.length_cons]
        omega
    rw [ol] at ra1 ra2
    have := key _ fun r hr => (ra1 r hr).1
    omega
  have ml : (mv f (bk (dm n s))).length ≤ 100000 := by
    rw [mv_len, bk_len, ol]
    omega
  have y1 := law_is_ap 8 (.list [iT (mv f (bk (dm n s))), iT (mv f (bk (dm n s)))]) (by
    show (decide _ && List.all _ _) = true
    simp [wd_T (k := 5) ml])
  have y2 := law_is_ap 8 (.list [.int (ordr (dm n s) : Nat), .int (ordr (dm n s) : Nat), .int (ordr (dm n s) : Nat), iLs (szs (dm n s))]) (by
    show (decide _ && List.all _ _) = true
    simp [wd_L (k := 5) szlen, wd_i])
  have b1 : inB (n : Nat) = true := inB_of (by omega) (by omega)
  have b2 : n ≤ lim := by show _ ≤ 1000000; omega
  have l0 : 0 ≤ lim := by decide
  have l1 : 1 ≤ lim := by decide
  have l2 : 2 ≤ lim := by decide
  have l4 : 4 ≤ lim := by decide
  have en := prs_en0 (dm n s)
  rw [ol] at en
  have sI := intsD_iL szl
  have dT : ((ordr (dm n s) - 1 : Nat) : Int) = (ordr (dm n s) : Int) - 1 := by omega
  rw [dT] at d5
  simp only [iT, iLs, iL, pL, List.map_nil, List.map_replicate, Int.natCast_one] at e1 e2 e3 e4 w1 c1 en lp1 lp2 c2 y1 y2 c3 c4 c5 c6 c7 c8 c9 d1 d2 d3 d4 d5 d6 d7 d8 d9 x1 x2 x3 x4 sI
  have hS' : (List.map PyData.int (srtI szl)).reverse = List.map PyData.int (szs (dm n s)) := by rw [← List.map_reverse, hS]
  rw [u__law_right]
  refine bI_go (a := .rt (.bool true)) (e := ?e) ?h1 ?h2
  case h1 =>
    unfold g__law_right
    refine sSeq_go (by simp [e1, e2, e3]; rfl) ?_
    refine sSeq_go (by simp [e4]; rfl) ?_
    refine sSeq_go (by simp [w1, gI_of, c1]; rfl) ?_
    refine sSeq_go (by simp [b1, b2, l1, rep_flat, gI_of]; rfl) ?_
    refine sSeq_go (by simp [ol, en, lp1]; rfl) ?_
    refine sSeq_go (by simp [c2, l2, y1]; rfl) ?_
    refine sSeq_go (by simp [c2, c3, c4, c5]; rfl) ?_
    refine sSeq_go (by simp [c6, c7, c8, c9]; rfl) ?_
    refine sSeq_go (by simp [l0]; rfl) ?_
    refine sSeq_go (by simp [b1, gI_of, lp2]; rfl) ?_
    refine sSeq_go (by simp [c8]; rfl) ?_
    refine sSeq_go (by simp [d1, d2, d3, l4, sI, hS', y2]; rfl) ?_
    by_cases hone : 1 < ordr (dm n s)
    · refine sSeq_go (by simp [d4, c6, hone, d5, c9]; rfl) ?_
      refine sSeq_go (by simp [d6, d7]; rfl) ?_
      refine sSeq_go (by simp [d8, c4, d9]; rfl) ?_
      simp [x1, x2, x3, x4, w1, gI_of]
      rfl
    · have hone' : ¬ ((1 : Int) < (ordr (dm n s) : Int)) := by omega
      refine sSeq_go (by simp [d4, c6, hone']; rfl) ?_
      refine sSeq_go (by simp [d6, d7]; rfl) ?_
      refine sSeq_go (by simp [d8, c4, d9]; rfl) ?_
      simp [x1, x2, x3, x4, w1, gI_of]
  case h2 => simp
theorem law_ok (ns : List Int) (_ : ns.length ≤ 63) : m_law [.sc ns] = some (.v (.bool true), none) := by
  have key : ∀ q : List Int, (∀ i ∈ q, 0 ≤ i ∧ i ≤ 1000) → lcGo [1] (gN 1) sYes ce_law_1 (iI q) [.sc ns, .em] = some (q.map fun _ => .bool true, [.sc ns, .em]) := fun q hq => lcGo_intsM (fun _ => .bool true) fun i hi => by
    obtain ⟨h0, h1⟩ := hq i hi
    obtain ⟨k, rfl⟩ : ∃ k : Nat, i = k := ⟨i.toNat, by omega⟩
    obtain ⟨p, e1, hp⟩ := pot_ap ns k (by omega)
    obtain ⟨out, e2⟩ := law_right_ap hp
    rw [lcOne_ap]
    unfold ce_law_1
    simp only [pL] at e1 e2
    simp [e1, e2]
  rw [u_law]
  unfold g_law
  generalize hK : (if (1 : Int) < (if ((ns.length : Nat) : Int) < 3 then ((ns.length : Nat) : Int) else 3) then (if ((ns.length : Nat) : Int) < 3 then ((ns.length : Nat) : Int) else 3) else 1) = K
  have k0 : 0 ≤ K := by omega
  have k1 : K ≤ 3 := by omega
  obtain ⟨k, rfl⟩ : ∃ k : Nat, K = k := ⟨K.toNat, by omega⟩
  have b1 : inB (k : Int) = true := inB_of (by omega) (by omega)
  have b2 : k ≤ lim := by show _ ≤ 1000000; omega
  have lp := key (rgZ k) fun i hi => by
    have := mem_rgZ.mp hi
    omega
  rw [← rgI_Z] at lp
  simp [hK, b1, b2, gI_of, lp, blsD_const]
end MM
end
section
namespace EE
open PySem PySem.Spec PyProof.Rows L2 DL
theorem facts {P : Program} {w : World} {K : KF} {h : Heap} {mg : Str → Option Value} {f : Addr} (X : K.In h) (G : h.Ns mainGlobals mg) (hfa : mg ("law" : Str) = some (.ref f)) (c : He.SaysD Hd.fa Hd.fn K) :
    ∃ fd : FuncData, (∀ (s : Shared) (v : Value), BindsTo s fd ⟨[v], []⟩ [("script", v)]) ∧ ∀ base : Heap, K.In base → base.Ns mainGlobals mg → FnG P w K mg base CX0 11 f fd ["script"] (spD K 1 GG.m_law) := by
  obtain ⟨fd, F⟩ : ∃ fd, FunD K "law" "law" (defArgs Hd.s_law) (defBody Hd.s_law) (defScope Hd.s_law) [] [] (He.fAd K ("law", none)) fd := c.def_ 41 (d := Hd.d_law) rfl
  have e := hfa.symm.trans (He.glo_ok X G (c.fact 41 (f := .glo "law") rfl))
  cases e
  have b := FunD.bindsA (ps := ["script"]) F fun _ _ _ _ _ _ us hl => match us, hl with | [_], _ => rfl
  exact ⟨fd, fun s v => b s [v] rfl, fun base _ _ => GG.ok_law X G c F⟩
end EE
open PySem PySem.W PySem.Calls PyProof.Rows
set_option maxHeartbeats 0 in
theorem PySem.Challenge.cw_cardpacks_k52_whole_prepared_packs_holds : PySem.Challenge.rw_cardpacks_k52_whole_prepared_packs.Holds := by
  w_on; o_law
  refine HandSHeadRun.head_any (r := Hd.R) (q := view Hd.R.prog [56]) (H := Hd.hk) (ob := Hd.ob) (M := 6000) (loose := Hd.loose) (d := HandSHeadRun.topDef Hd.R.prog 56) (kwd := []) Hd.ob_eq
    (by kernel_rfl) (fun s => by kernel_rfl) Hd.run (by kernel_rfl) (by kernel_rfl) (by kernel_rfl) (by rfl) (by first | assumption | decide +kernel) (by decide +kernel) ⟨rfl, rfl, rfl, rfl, rfl, by decide +kernel⟩ ?hw ?hc
  case hw => w_witness2
  case hc =>
    refine DL.walk_D (l := PySem.Challenge.rw_cardpacks_k52_whole_prepared_packs) (n := 63) (k := 11) (x := "script") (Fm := GG.m_law) rfl (by decide) (by kernel_rfl) ⟨rfl, by decide, by decide⟩ ?F MM.law_ok
    intro w mg fa h Y G hmg0
    obtain ⟨K, KX, c⟩ := Y
    have hmg : mg ("law" : PySem.Str) = some (.ref fa) := by
      have e : (HandSHeadRun.topDef Hd.R.prog 56).name = ("law" : PySem.Str) := by kernel_rfl
      rw [← e]
      exact hmg0
    obtain ⟨fd, hb, hF⟩ := EE.facts (P := (PySem.Challenge.rw_cardpacks_k52_whole_prepared_packs).prog) (w := w) KX G hmg c
    exact ⟨K, fd, KX, hb, hF⟩
end
