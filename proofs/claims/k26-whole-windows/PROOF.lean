import PyProof.Rows.All
import Wide.All
import OpenK.AllK
import Wide.FinOn
import HandS.ForExc
import HandS.ForMost
import HandS.Wide
import HandS.IsInst
import HandS.ExcInit
import HandS.ExcField
import HandS.TryMany
import HandS.TupAny
import HandS.TupMul
import HandS.Style
import HandS.Defaults
import HandS.HeadHook2
import HandS.Rev
import HandS.Zip
import HandS.Text
import HandS.Head0
import HandS.Head1
import HandS.Head2
import HandS.HeadEnd
import HandS.HeadHook1
import KE.KExcIs
import KE.GoesEnum
import HandS.RevRange
import PyProof.LongRange
import HandS.TryOnly
import HandS.Small
import HandS.Deep
import HandS.SetFor
import HandS.Strs
import HandS.SortInts
import HandS.SortRule
import HandS.Iter
import HandS.TupSets
import HandS.Property
import HandS.Codes
import HandS.FStr
import HandS.Conv
import HandS.DictComp
import KE.KDictCopyH
import PyProof.Rows.TupDisplay
import PySem.Challenge.RW_carriedrows_k26_whole_windows
set_option Elab.async false
set_option linter.all false
set_option maxRecDepth 100000
set_option maxHeartbeats 4000000
/-! The D layer: data, states, judgments at the level of data. -/
namespace CR
open PySem PySem.Spec PyProof.Rows L2
/-! ### data -/
inductive D where
  | non | bl (b : Bool) | int (i : Int) | str (s : Str) | lst (xs : List D) | frl (xs : List D) | tup (xs : List D) | emp | ins (C : Addr) (fs : List (Str × D)) | raw (v : V)
mutual
inductive Is (K : PySem.W.Frag) (F : Hp) : V → D → Prop
  | non : Is K F .non .non
  | bl (b : Bool) : Is K F (.bl b) (.bl b)
  | int (i : Int) : Is K F (.int i) (.int i)
  | str (x : Str) : Is K F (.str x) (.str x)
  | lst {a : Addr} {xs : List V} {ds : List D} : F a = some (.lst xs) → IsAll K F xs ds → Is K F (.ref a) (.lst ds)
  | frl {a : Addr} {xs : List V} {ds : List D} : SqL K F a xs → IsAll K F xs ds → Is K F (.ref a) (.frl ds)
  | tup {a : Addr} {xs : List V} {ds : List D} : SqT K F a xs → IsAll K F xs ds → Is K F (.ref a) (.tup ds)
  | emp {a : Addr} : F a = some (.dK []) → Is K F (.ref a) .emp
  | ins {a C dx : Addr} {gs : List (Str × V)} {fs : List (Str × D)} : F a = some (.ins C dx gs) → IsFs K F gs fs → Is K F (.ref a) (.ins C fs)
  | raw (v : V) : Is K F v (.raw v)
inductive IsAll (K : PySem.W.Frag) (F : Hp) : List V → List D → Prop
  | nil : IsAll K F [] []
  | cons {v : V} {vs : List V} {d : D} {ds : List D} : Is K F v d → IsAll K F vs ds → IsAll K F (v :: vs) (d :: ds)
inductive IsFs (K : PySem.W.Frag) (F : Hp) : List (Str × V) → List (Str × D) → Prop
  | nil : IsFs K F [] []
  | cons {x : Str} {v : V} {vs : List (Str × V)} {d : D} {ds : List (Str × D)} : Is K F v d → IsFs K F vs ds → IsFs K F ((x, v) :: vs) ((x, d) :: ds)
end
section
variable {K : PySem.W.Frag} {F F' G H : Hp}
theorem sqT_mono (e : Same F F') {a : Addr} {xs : List V} (h : SqT K F a xs) : SqT K F' a xs := by
  rcases h with (h | ⟨o, h⟩) | h
  · exact .inl (.inl (e _ _ h))
  · exact .inl (.inr ⟨o, e _ _ h⟩)
  · exact .inr h
mutual
theorem Is.mono (e : Same F F') : ∀ {v : V} {d : D}, Is K F v d → Is K F' v d
  | _, _, .non => .non
  | _, _, .bl b => .bl b
  | _, _, .int i => .int i
  | _, _, .str x => .str x
  | _, _, .lst h a => .lst (e _ _ h) (IsAll.mono e a)
  | _, _, .frl h a => .frl (e.seq h) (IsAll.mono e a)
  | _, _, .tup h a => .tup (sqT_mono e h) (IsAll.mono e a)
  | _, _, .emp h => .emp (e _ _ h)
  | _, _, .ins h a => .ins (e _ _ h) (IsFs.mono e a)
  | _, _, .raw v => .raw v
theorem IsAll.mono (e : Same F F') : ∀ {vs : List V} {ds : List D}, IsAll K F vs ds → IsAll K F' vs ds
  | _, _, .nil => .nil
  | _, _, .cons h t => .cons (Is.mono e h) (IsAll.mono e t)
theorem IsFs.mono (e : Same F F') : ∀ {vs : List (Str × V)} {ds : List (Str × D)}, IsFs K F vs ds → IsFs K F' vs ds
  | _, _, .nil => .nil
  | _, _, .cons h t => .cons (Is.mono e h) (IsFs.mono e t)
end
theorem IsFs.lookup {x : Str} {d : D} : ∀ {vs : List (Str × V)} {ds : List (Str × D)}, IsFs K F vs ds → ds.lookup x = some d → ∃ v, vs.lookup x = some v ∧ Is K F v d
  | _, _, .nil, e => by cases e
  | (y, v) :: vs, (_, d') :: ds, .cons h t, e => by
    rw [List.lookup_cons] at e ⊢
    cases q : (x == y) with
    | true =>
      rw [q] at e
      cases e
      exact ⟨v, rfl, h⟩
    | false =>
      rw [q] at e
      exact IsFs.lookup t e
theorem IsFs.lookupN {x : Str} : ∀ {vs : List (Str × V)} {ds : List (Str × D)}, IsFs K F vs ds → ds.lookup x = none → vs.lookup x = none
  | _, _, .nil, _ => rfl
  | (y, v) :: vs, (_, d') :: ds, .cons h t, e => by
    rw [List.lookup_cons] at e ⊢
    cases q : (x == y) with
    | true =>
      rw [q] at e
      cases e
    | false =>
      rw [q] at e
      exact IsFs.lookupN t e
theorem IsFs.length : ∀ {vs : List (Str × V)} {ds : List (Str × D)}, IsFs K F vs ds → vs.length = ds.length
  | _, _, .nil => rfl
  | _, _, .cons _ t => by rw [List.length_cons, List.length_cons, IsFs.length t]
theorem IsAll.length : ∀ {vs : List V} {ds : List D}, IsAll K F vs ds → vs.length = ds.length
  | _, _, .nil => rfl
  | _, _, .cons _ t => by rw [List.length_cons, List.length_cons, IsAll.length t]
theorem IsAll.get : ∀ {vs : List V} {ds : List D} {i : Nat} {d : D}, IsAll K F vs ds → ds[i]? = some d → ∃ v, vs[i]? = some v ∧ Is K F v d
  | _, _, _, _, .nil, e => by simp at e
  | _, _, 0, _, .cons h _, e => by simp at e; subst e; exact ⟨_, rfl, h⟩
  | _, _, i + 1, d, .cons _ t, e => by
    obtain ⟨v, h1, h2⟩ := IsAll.get (i := i) (d := d) t (by simpa using e)
    exact ⟨v, by simpa using h1, h2⟩
theorem IsAll.append : ∀ {vs ws : List V} {ds es : List D}, IsAll K F vs ds → IsAll K F ws es → IsAll K F (vs ++ ws) (ds ++ es)
  | _, _, _, _, .nil, s => s
  | _, _, _, _, .cons r t, s => .cons r (IsAll.append t s)
theorem IsAll.take : ∀ {vs : List V} {ds : List D} (n : Nat), IsAll K F vs ds → IsAll K F (vs.take n) (ds.take n)
  | _, _, 0, _ => .nil
  | _, _, _ + 1, .nil => .nil
  | _, _, n + 1, .cons r t => .cons r (IsAll.take n t)
theorem IsAll.drop : ∀ {vs : List V} {ds : List D} (n : Nat), IsAll K F vs ds → IsAll K F (vs.drop n) (ds.drop n)
  | _, _, 0, r => r
  | _, _, _ + 1, .nil => .nil
  | _, _, n + 1, .cons _ t => IsAll.drop n t
theorem IsAll.set {v : V} {d : D} (r : Is K F v d) : ∀ {vs : List V} {ds : List D} (i : Nat), IsAll K F vs ds → IsAll K F (vs.set i v) (ds.set i d)
  | _, _, _, .nil => .nil
  | _, _, 0, .cons _ t => .cons r t
  | _, _, i + 1, .cons q t => .cons q (IsAll.set r i t)
theorem IsAll.reverse {vs : List V} {ds : List D} (h : IsAll K F vs ds) : IsAll K F vs.reverse ds.reverse := by
  induction vs generalizing ds with
  | nil => cases h; exact .nil
  | cons v vs ih =>
    cases h with
    | cons r t =>
      rw [List.reverse_cons, List.reverse_cons]
      exact (ih t).append (.cons r .nil)
theorem IsAll.ints : ∀ {vs : List V} {ns : List Int}, IsAll K F vs (ns.map D.int) → vs = ns.map V.int
  | vs, [], h => by cases h; rfl
  | vs, n :: ns, h => by
    rw [List.map_cons] at h
    cases h with
    | cons r t =>
      cases r
      rw [IsAll.ints t, List.map_cons]
theorem IsAll.of_ints : ∀ (ns : List Int), IsAll K F (ns.map V.int) (ns.map D.int)
  | [] => .nil
  | n :: ns => .cons (.int n) (IsAll.of_ints ns)
theorem IsAll.bls : ∀ {vs : List V} {ns : List Bool}, IsAll K F vs (ns.map D.bl) → vs = ns.map V.bl
  | vs, [], h => by cases h; rfl
  | vs, n :: ns, h => by
    rw [List.map_cons] at h
    cases h with
    | cons r t =>
      cases r
      rw [IsAll.bls t, List.map_cons]
end
/-! ### states -/
inductive OE where
  | lst (xs : List D)
  | ins (C dx : Addr) (fs : List (Str × D))
  | dic (kvs : List (Key × D))
  | tdi (u : HO) (T : List (Addr × List Int))
  | dicL (od : Obj) (ws : List (Key × V))
abbrev OW := List (Addr × OE)
abbrev Rho := List (Option D)
def Own (K : PySem.W.Frag) (F H : Hp) (p : Addr) : OE → Prop
  | .lst xs => ∃ vs, H p = some (.lst vs) ∧ IsAll K F vs xs
  | .ins C dx fs => ∃ gs, H p = some (.ins C dx gs) ∧ IsFs K F gs fs
  | .dic kvs => ∃ ws, H p = some (.dK ws) ∧ Paired (fun (a : Key × V) (b : Key × D) => a.1 = b.1 ∧ Is K F a.2 b.2) ws kvs
  | .tdi u T => H p = some u ∧ ∀ q ∈ T, SqT K F q.1 (q.2.map V.int)
  | .dicL od ws => H p = some (.frz od (.dK ws))
theorem Own.mono {K : PySem.W.Frag} {F F' H H' : Hp} {p : Addr} {e : OE} (x : Same F F') (y : H' p = H p) (h : Own K F H p e) : Own K F' H' p e := by
  cases e with
  | lst xs => obtain ⟨vs, a, b⟩ := h; exact ⟨vs, y.trans a, b.mono x⟩
  | ins C dx fs => obtain ⟨gs, a, b⟩ := h; exact ⟨gs, y.trans a, b.mono x⟩
  | dic kvs => obtain ⟨ws, a, b⟩ := h; exact ⟨ws, y.trans a, Paired.mapP b fun _ _ q => ⟨q.1, q.2.mono x⟩⟩
  | tdi u T => exact ⟨y.trans h.1, fun q hq => sqT_mono x (h.2 q hq)⟩
  | dicL od ws => exact y.trans h
theorem Own.there {K : PySem.W.Frag} {F H : Hp} {p : Addr} {e : OE} (h : Own K F H p e) : H p ≠ none := by
  cases e with
  | dicL od ws => intro q; rw [show H p = some (.frz od (.dK ws)) from h] at q; cases q
  | tdi u T => intro q; rw [h.1] at q; cases q
  | _ => obtain ⟨vs, a, b⟩ := h; rw [a]; intro q; cases q
structure StA (K : PySem.W.Frag) (F : Hp) (O : OW) (H : Hp) : Prop where
  ex : Same F H
  own : ∀ x ∈ O, F x.1 = none ∧ Own K F H x.1 x.2
  nd : (O.map (·.1)).Nodup
def Sig (K : PySem.W.Frag) (F : Hp) (ρ : Rho) (σ : L2.St) : Prop :=
  ρ.length = σ.length ∧ ∀ (i : Nat) (d : D), ρ[i]? = some (some d) → ∃ v, σ[i]? = some (some v) ∧ Is K F v d
structure Sta (K : PySem.W.Frag) (F : Hp) (O : OW) (ρ : Rho) (σ : L2.St) (H : Hp) : Prop where
  a : StA K F O H
  sig : Sig K F ρ σ
section
variable {K : PySem.W.Frag} {F F' H : Hp} {O : OW} {ρ : Rho} {σ : L2.St}
theorem Sig.mono (e : Same F F') (h : Sig K F ρ σ) : Sig K F' ρ σ := ⟨h.1, fun i d q => by
  obtain ⟨v, a, b⟩ := h.2 i d q
  exact ⟨v, a, b.mono e⟩⟩
theorem Sig.set (h : Sig K F ρ σ) {v : V} {d : D} (r : Is K F v d) (i : Nat) : Sig K F (ρ.set i (some d)) (σ.set i (some v)) := by
  refine ⟨by rw [List.length_set, List.length_set]; exact h.1, fun j e q => ?_⟩
  by_cases hj : i = j
  · subst hj
    rw [List.getElem?_set] at q ⊢
    rw [if_pos rfl] at q ⊢
    rw [h.1] at q
    by_cases hl : i < σ.length
    · rw [if_pos hl] at q ⊢
      cases q
      exact ⟨v, rfl, r⟩
    · rw [if_neg hl] at q
      cases q
  · rw [List.getElem?_set_ne hj] at q ⊢
    exact h.2 j e q
theorem Sig.setN (h : Sig K F ρ σ) (o : Option V) (i : Nat) : Sig K F (ρ.set i none) (σ.set i o) := by
  refine ⟨by rw [List.length_set, List.length_set]; exact h.1, fun j e q => ?_⟩
  by_cases hj : i = j
  · subst hj
    rw [List.getElem?_set] at q
    rw [if_pos rfl] at q
    split at q
    · cases q
    · cases q
  · rw [List.getElem?_set_ne hj] at q ⊢
    exact h.2 j e q
theorem StA.neF (h : StA K F O H) {p : Addr} (hp : H p = none) : F p = none := by
  cases e : F p with
  | none => rfl
  | some o => rw [h.ex _ _ e] at hp; cases hp
theorem StA.neO (h : StA K F O H) {p : Addr} (hp : H p = none) {x : Addr × OE} (hx : x ∈ O) : x.1 ≠ p := fun e => by
  have q := (h.own x hx).2.there
  rw [e] at q
  exact q hp
theorem same_new {F : Hp} {p : Addr} {o : HO} (h : F p = none) : Same F (upd F p o) := fun b u e => by
  rw [upd_ne (ne_of_none e h)]
  exact e
theorem same_upd2 {F H : Hp} {p : Addr} {o : HO} (e : Same F H) : Same (upd F p o) (upd H p o) := fun b u q => by
  by_cases hb : b = p
  · subst hb; rw [upd_same] at q ⊢; exact q
  · rw [upd_ne hb] at q ⊢; exact e _ _ q
theorem same_mut {F H : Hp} {p : Addr} {o : HO} (e : Same F H) (h : F p = none) : Same F (upd H p o) := fun b u q => by
  rw [upd_ne (ne_of_none q h)]
  exact e _ _ q
/-- a new object, never to be changed -/
theorem StA.new (h : StA K F O H) {p : Addr} {o : HO} (hp : H p = none) : StA K (upd F p o) O (upd H p o) := by
  refine ⟨same_upd2 h.ex, fun x hx => ?_, h.nd⟩
  have ne := h.neO hp hx
  obtain ⟨a, b⟩ := h.own x hx
  exact ⟨by rw [upd_ne ne]; exact a, b.mono (same_new (h.neF hp)) (upd_ne ne)⟩
/-- a new object of our own -/
theorem StA.push (h : StA K F O H) {p : Addr} {o : HO} {e : OE} (hp : H p = none) (he : Own K F (upd H p o) p e) : StA K F ((p, e) :: O) (upd H p o) := by
  refine ⟨same_mut h.ex (h.neF hp), fun x hx => ?_, ?_⟩
  · rcases List.mem_cons.mp hx with rfl | hx
    · exact ⟨h.neF hp, he⟩
    · obtain ⟨a, b⟩ := h.own x hx
      exact ⟨a, b.mono (Same.refl _) (upd_ne (h.neO hp hx))⟩
  · rw [List.map_cons, List.nodup_cons]
    refine ⟨fun q => ?_, h.nd⟩
    obtain ⟨x, hx, e2⟩ := List.mem_map.mp q
    exact h.neO hp hx e2
/-- one of our own objects is changed -/
theorem StA.set (h : StA K F O H) {j : Nat} {p : Addr} {e e' : OE} {o : HO} (hj : O[j]? = some (p, e)) (he : Own K F (upd H p o) p e') : StA K F (O.set j (p, e')) (upd H p o) := by
  have hm : (p, e) ∈ O := List.mem_of_getElem? hj
  have hl : j < O.length := by
    rcases Nat.lt_or_ge j O.length with q | q
    · exact q
    · rw [List.getElem?_eq_none q] at hj; cases hj
  have em : (O.set j (p, e')).map (·.1) = O.map (·.1) := by
    rw [List.map_set]
    apply List.ext_getElem?
    intro i
    rw [List.getElem?_set]
    split
    · rename_i hi
      subst hi
      rw [List.length_map, if_pos hl, List.getElem?_map, hj]
      rfl
    · rfl
  refine ⟨same_mut h.ex (h.own _ hm).1, fun x hx => ?_, by rw [em]; exact h.nd⟩
  obtain ⟨i, hi⟩ := List.mem_iff_getElem?.mp hx
  rw [List.getElem?_set] at hi
  by_cases hji : j = i
  · rw [if_pos hji, if_pos hl] at hi
    cases hi
    exact ⟨(h.own _ hm).1, he⟩
  · rw [if_neg hji] at hi
    have hx2 : x ∈ O := List.mem_of_getElem? hi
    obtain ⟨a, b⟩ := h.own x hx2
    have ne : x.1 ≠ p := fun q => by
      have e1 : (O.map (·.1))[i]? = some p := by rw [List.getElem?_map, hi, ← q]; rfl
      have e2 : (O.map (·.1))[j]? = some p := by rw [List.getElem?_map, hj]; rfl
      exact hji (nd_ix h.nd e2 e1)
    exact ⟨a, b.mono (Same.refl _) (upd_ne ne)⟩
theorem nodup_erase {α : Type} : ∀ {l : List α} (j : Nat), l.Nodup → (l.eraseIdx j).Nodup := fun {l} j h => h.sublist (List.eraseIdx_sublist l j)
theorem map_erase {α β : Type} (f : α → β) : ∀ (l : List α) (j : Nat), (l.eraseIdx j).map f = (l.map f).eraseIdx j
  | [], _ => rfl
  | _ :: _, 0 => rfl
  | a :: l, j + 1 => by
    show f a :: (l.eraseIdx j).map f = f a :: (l.map f).eraseIdx j
    rw [map_erase f l j]
/-- .. is let go -/
theorem StA.drop (h : StA K F O H) (j : Nat) : StA K F (O.eraseIdx j) H :=
  ⟨h.ex, fun x hx => h.own x (List.mem_of_mem_eraseIdx hx), by rw [map_erase]; exact nodup_erase j h.nd⟩
theorem not_mem_erase {α : Type} {l : List α} {j : Nat} {a : α} (nd : l.Nodup) (h : l[j]? = some a) : a ∉ l.eraseIdx j := fun q => by
  obtain ⟨i, hi⟩ := List.mem_iff_getElem?.mp q
  rw [List.getElem?_eraseIdx] at hi
  by_cases hij : i < j
  · rw [if_pos hij] at hi
    have := nd_ix nd h hi
    omega
  · rw [if_neg hij] at hi
    have := nd_ix nd h hi
    omega
/-- .. is never to be changed from now on -/
theorem StA.freeze0 (h : StA K F O H) {j : Nat} {p : Addr} {e : OE} {o : HO} (hj : O[j]? = some (p, e)) (hH : H p = some o) : Same F (upd F p o) ∧ StA K (upd F p o) (O.eraseIdx j) H := by
  have hm : (p, e) ∈ O := List.mem_of_getElem? hj
  have hF := (h.own _ hm).1
  have sF : Same F (upd F p o) := same_new hF
  refine ⟨sF, fun b u q => ?_, fun x hx => ?_, by rw [map_erase]; exact nodup_erase j h.nd⟩
  · by_cases hb : b = p
    · subst hb; rw [upd_same] at q; rw [← q]; exact hH
    · rw [upd_ne hb] at q; exact h.ex _ _ q
  · have ne : x.1 ≠ p := fun q => by
      have e2 : (O.map (·.1))[j]? = some p := by rw [List.getElem?_map, hj]; rfl
      refine not_mem_erase h.nd e2 ?_
      rw [← map_erase, ← q]
      exact List.mem_map_of_mem hx
    obtain ⟨a, b⟩ := h.own x (List.mem_of_mem_eraseIdx hx)
    exact ⟨by rw [upd_ne ne]; exact a, b.mono sF rfl⟩
theorem StA.freeze (h : StA K F O H) {j : Nat} {p : Addr} {xs : List D} (hj : O[j]? = some (p, .lst xs)) : ∃ F', Same F F' ∧ StA K F' (O.eraseIdx j) H ∧ Is K F' (.ref p) (.lst xs) := by
  obtain ⟨hF, vs, hH, hv⟩ := h.own _ (List.mem_of_getElem? hj)
  obtain ⟨sF, S⟩ := h.freeze0 hj hH
  exact ⟨_, sF, S, .lst upd_same (hv.mono sF)⟩
theorem StA.freezeI (h : StA K F O H) {j : Nat} {p C dx : Addr} {fs : List (Str × D)} (hj : O[j]? = some (p, .ins C dx fs)) : ∃ F', Same F F' ∧ StA K F' (O.eraseIdx j) H ∧ Is K F' (.ref p) (.ins C fs) := by
  obtain ⟨hF, vs, hH, hv⟩ := h.own _ (List.mem_of_getElem? hj)
  obtain ⟨sF, S⟩ := h.freeze0 hj hH
  exact ⟨_, sF, S, .ins upd_same (hv.mono sF)⟩
end
/-! ### judgments -/
def canE (X : Cx) (e : Expr) : TE := fun σ H Q => ∀ (pins : List (Addr × Obj)) (s : Shared), Inv X pins σ H s → wpAny (model X.prog X.w) X.A (eval e X.env) (EP X pins σ Q) X.xe s
theorem pe_can {X : Cx} {e : Expr} : PE X e (canE X e) := ⟨fun pins s _ _ _ I h => h pins s I⟩
theorem canE_of {X : Cx} {e : Expr} {t : TE} (h : PE X e t) {σ : L2.St} {H : Hp} {Q : VK} (q : t σ H Q) : canE X e σ H Q := fun pins s I => h.run pins s σ H Q I q
def canT (X : Cx) (e : Expr) : TT := fun σ H Q => ∀ (pins : List (Addr × Obj)) (s : Shared), Inv X pins σ H s → wpAny (model X.prog X.w) X.A (isTrue e X.env (eval e X.env)) (TP X pins σ Q) X.xe s
theorem pt_can {X : Cx} {e : Expr} : PT X e (canT X e) := ⟨fun pins s _ _ _ I h => h pins s I⟩
theorem canT_of {X : Cx} {e : Expr} {t : TT} (h : PT X e t) {σ : L2.St} {H : Hp} {Q : Bool → Hp → Prop} (q : t σ H Q) : canT X e σ H Q := fun pins s I => h.run pins s σ H Q I q
def canW (X : Cx) (e : Expr) : TT := fun σ H Q => ∀ (whole : Sem Value) (pins : List (Addr × Obj)) (s : Shared), Inv X pins σ H s → wpAny (model X.prog X.w) X.A (isTrue e X.env whole) (TP X pins σ Q) X.xe s
theorem pw_can {X : Cx} {e : Expr} : PW X e (canW X e) := ⟨fun whole pins s _ _ _ I h => h whole pins s I⟩
theorem canW_of {X : Cx} {e : Expr} {t : TT} (h : PW X e t) {σ : L2.St} {H : Hp} {Q : Bool → Hp → Prop} (q : t σ H Q) : canW X e σ H Q := fun whole pins s I => h.run whole pins s σ H Q I q
def canA (X : Cx) (es : List Expr) : TA := fun σ H Q => ∀ (pos : Pos) (pins : List (Addr × Obj)) (s : Shared), Inv X pins σ H s → wpAny (model X.prog X.w) X.A (spliced (backTo pos (starEach es X.env))) (AP X pins σ Q) X.xe s
theorem pa_can {X : Cx} {es : List Expr} : PA X es (canA X es) := ⟨fun pos pins s _ _ _ I h => h pos pins s I⟩
theorem canA_of {X : Cx} {es : List Expr} {t : TA} (h : PA X es t) {σ : L2.St} {H : Hp} {Q : List V → Hp → Prop} (q : t σ H Q) : canA X es σ H Q := fun pos pins s I => h.run pos pins s σ H Q I q
def canS (X : Cx) (st : Stmt) : TS := fun D σ H => ∀ (pins : List (Addr × Obj)) (s : Shared), Inv X pins σ H s → wpAny (model X.prog X.w) X.A (exec st X.env) (SP X pins D) X.xe s
theorem ps_can {X : Cx} {st : Stmt} : PS X st (canS X st) := ⟨fun pins s _ _ _ I h => h pins s I⟩
theorem canS_of {X : Cx} {st : Stmt} {t : TS} (h : PS X st t) {σ : L2.St} {H : Hp} {D : Ends} (q : t D σ H) : canS X st D σ H := fun pins s I => h.run pins s σ H D I q
def canSs (X : Cx) (b : List Stmt) : TS := fun D σ H => ∀ (pins : List (Addr × Obj)) (s : Shared), Inv X pins σ H s → wpAny (model X.prog X.w) X.A (execs b X.env) (SP X pins D) X.xe s
theorem pss_can {X : Cx} {b : List Stmt} : PSs X b (canSs X b) := ⟨fun pins s _ _ _ I h => h pins s I⟩
theorem canSs_of {X : Cx} {b : List Stmt} {t : TS} (h : PSs X b t) {σ : L2.St} {H : Hp} {D : Ends} (q : t D σ H) : canSs X b D σ H := fun pins s I => h.run pins s σ H D I q
abbrev ZP := Hp → OW → Rho → Value → List (Str × D) → Prop
abbrev Z0 : ZP := fun _ _ _ _ _ => False
def FldOk (K : PySem.W.Frag) (F : Hp) (d : Option Addr) (fs : List (Str × D)) : Prop :=
  (fs = [] ∧ d = none) ∨ ∃ dd gs, d = some dd ∧ F dd = some (.xd gs) ∧ IsFs K F gs fs
theorem FldOk.mono {K : PySem.W.Frag} {F F' : Hp} {d : Option Addr} {fs : List (Str × D)} (e : Same F F') (h : FldOk K F d fs) : FldOk K F' d fs := by
  rcases h with h | ⟨dd, gs, a, b, c⟩
  · exact .inl h
  · exact .inr ⟨dd, gs, a, e _ _ b, c.mono e⟩
def wz (K : PySem.W.Frag) (F0 : Hp) (Z : ZP) : WX := fun cls d σ H => ∃ F O ρ fs, Same F0 F ∧ Sta K F O ρ σ H ∧ FldOk K F d fs ∧ Z F O ρ cls fs
theorem tkm {X : Cx} {F F' : Hp} {Z : ZP} (T : Takes X (wz X.K F Z)) (e : Same F F') : Takes X (wz X.K F' Z) :=
  T.imp fun _ _ _ _ ⟨F2, O, ρ, fs, a, b, c, d⟩ => ⟨F2, O, ρ, fs, e.trans a, b, c, d⟩
structure EvP (X : Cx) (Z : ZP) (e : Expr) (F : Hp) (O : OW) (ρ : Rho) (P : Hp → OW → D → Prop) : Prop where
  run : Takes X (wz X.K F Z) → ∀ σ H, Sta X.K F O ρ σ H → ∀ Q : VK, (∀ F2 O2 H2 v d, Same F F2 → Sta X.K F2 O2 ρ σ H2 → Is X.K F2 v d → P F2 O2 d → Q v H2) → canE X e σ H Q
structure TsP (X : Cx) (Z : ZP) (e : Expr) (F : Hp) (O : OW) (ρ : Rho) (P : Hp → OW → Bool → Prop) : Prop where
  run : Takes X (wz X.K F Z) → ∀ σ H, Sta X.K F O ρ σ H → ∀ Q : Bool → Hp → Prop, (∀ F2 O2 H2 b, Same F F2 → Sta X.K F2 O2 ρ σ H2 → P F2 O2 b → Q b H2) → canT X e σ H Q
structure TwP (X : Cx) (Z : ZP) (e : Expr) (F : Hp) (O : OW) (ρ : Rho) (P : Hp → OW → Bool → Prop) : Prop where
  run : Takes X (wz X.K F Z) → ∀ σ H, Sta X.K F O ρ σ H → ∀ Q : Bool → Hp → Prop, (∀ F2 O2 H2 b, Same F F2 → Sta X.K F2 O2 ρ σ H2 → P F2 O2 b → Q b H2) → canW X e σ H Q
structure ArP (X : Cx) (Z : ZP) (es : List Expr) (F : Hp) (O : OW) (ρ : Rho) (P : Hp → OW → List D → Prop) : Prop where
  run : Takes X (wz X.K F Z) → ∀ σ H, Sta X.K F O ρ σ H → ∀ Q : List V → Hp → Prop, (∀ F2 O2 H2 vs ds, Same F F2 → Sta X.K F2 O2 ρ σ H2 → IsAll X.K F2 vs ds → P F2 O2 ds → Q vs H2) → canA X es σ H Q
structure Post where
  nx : Hp → OW → Rho → Prop
  rt : Hp → OW → D → Prop
  bk : Hp → OW → Rho → Prop := fun _ _ _ => False
  ct : Hp → OW → Rho → Prop := fun _ _ _ => False
structure EOk (K : PySem.W.Frag) (F : Hp) (N : Post) (D : Ends) : Prop where
  nx : ∀ F2 O2 ρ2 σ H, Same F F2 → Sta K F2 O2 ρ2 σ H → N.nx F2 O2 ρ2 → D.nx σ H
  rt : ∀ F2 O2 v d H, Same F F2 → StA K F2 O2 H → Is K F2 v d → N.rt F2 O2 d → D.rt v H
  bk : ∀ F2 O2 ρ2 σ H, Same F F2 → Sta K F2 O2 ρ2 σ H → N.bk F2 O2 ρ2 → D.bk σ H
  ct : ∀ F2 O2 ρ2 σ H, Same F F2 → Sta K F2 O2 ρ2 σ H → N.ct F2 O2 ρ2 → D.ct σ H
theorem EOk.mono {K : PySem.W.Frag} {F F' : Hp} {N : Post} {D : Ends} (h : EOk K F N D) (e : Same F F') : EOk K F' N D :=
  ⟨fun F2 O2 ρ2 σ H q => h.nx F2 O2 ρ2 σ H (e.trans q), fun F2 O2 v d H q => h.rt F2 O2 v d H (e.trans q), fun F2 O2 ρ2 σ H q => h.bk F2 O2 ρ2 σ H (e.trans q), fun F2 O2 ρ2 σ H q => h.ct F2 O2 ρ2 σ H (e.trans q)⟩
structure Wp1 (X : Cx) (Z : ZP) (st : Stmt) (F : Hp) (O : OW) (ρ : Rho) (N : Post) : Prop where
  run : Takes X (wz X.K F Z) → ∀ σ H, Sta X.K F O ρ σ H → ∀ D : Ends, EOk X.K F N D → canS X st D σ H
structure WpS (X : Cx) (Z : ZP) (b : List Stmt) (F : Hp) (O : OW) (ρ : Rho) (N : Post) : Prop where
  run : Takes X (wz X.K F Z) → ∀ σ H, Sta X.K F O ρ σ H → ∀ D : Ends, EOk X.K F N D → canSs X b D σ H
instance {X : Cx} {Z : ZP} {e : Expr} {F : Hp} {O : OW} {ρ : Rho} {P : Hp → OW → D → Prop} : CoeFun (EvP X Z e F O ρ P) (fun _ => Takes X (wz X.K F Z) → ∀ σ H, Sta X.K F O ρ σ H → ∀ Q : VK, (∀ F2 O2 H2 v d, Same F F2 → Sta X.K F2 O2 ρ σ H2 → Is X.K F2 v d → P F2 O2 d → Q v H2) → canE X e σ H Q) := ⟨fun h => h.run⟩
instance {X : Cx} {Z : ZP} {e : Expr} {F : Hp} {O : OW} {ρ : Rho} {P : Hp → OW → Bool → Prop} : CoeFun (TsP X Z e F O ρ P) (fun _ => Takes X (wz X.K F Z) → ∀ σ H, Sta X.K F O ρ σ H → ∀ Q : Bool → Hp → Prop, (∀ F2 O2 H2 b, Same F F2 → Sta X.K F2 O2 ρ σ H2 → P F2 O2 b → Q b H2) → canT X e σ H Q) := ⟨fun h => h.run⟩
instance {X : Cx} {Z : ZP} {e : Expr} {F : Hp} {O : OW} {ρ : Rho} {P : Hp → OW → Bool → Prop} : CoeFun (TwP X Z e F O ρ P) (fun _ => Takes X (wz X.K F Z) → ∀ σ H, Sta X.K F O ρ σ H → ∀ Q : Bool → Hp → Prop, (∀ F2 O2 H2 b, Same F F2 → Sta X.K F2 O2 ρ σ H2 → P F2 O2 b → Q b H2) → canW X e σ H Q) := ⟨fun h => h.run⟩
instance {X : Cx} {Z : ZP} {e : List Expr} {F : Hp} {O : OW} {ρ : Rho} {P : Hp → OW → List D → Prop} : CoeFun (ArP X Z e F O ρ P) (fun _ => Takes X (wz X.K F Z) → ∀ σ H, Sta X.K F O ρ σ H → ∀ Q : List V → Hp → Prop, (∀ F2 O2 H2 vs ds, Same F F2 → Sta X.K F2 O2 ρ σ H2 → IsAll X.K F2 vs ds → P F2 O2 ds → Q vs H2) → canA X e σ H Q) := ⟨fun h => h.run⟩
instance {X : Cx} {Z : ZP} {e : Stmt} {F : Hp} {O : OW} {ρ : Rho} {P : Post} : CoeFun (Wp1 X Z e F O ρ P) (fun _ => Takes X (wz X.K F Z) → ∀ σ H, Sta X.K F O ρ σ H → ∀ D : Ends, EOk X.K F P D → canS X e D σ H) := ⟨fun h => h.run⟩
instance {X : Cx} {Z : ZP} {e : List Stmt} {F : Hp} {O : OW} {ρ : Rho} {P : Post} : CoeFun (WpS X Z e F O ρ P) (fun _ => Takes X (wz X.K F Z) → ∀ σ H, Sta X.K F O ρ σ H → ∀ D : Ends, EOk X.K F P D → canSs X e D σ H) := ⟨fun h => h.run⟩
section
variable {X : Cx} {Z : ZP} {F : Hp} {O : OW} {ρ : Rho}
/-! ### changing the end -/
theorem EvP.imp {e : Expr} {P P' : Hp → OW → D → Prop} (h : EvP X Z e F O ρ P) (i : ∀ F2 O2 d, Same F F2 → P F2 O2 d → P' F2 O2 d) : EvP X Z e F O ρ P' :=
  .mk fun T σ H S Q q => h T σ H S Q fun F2 O2 H2 v d a b c p => q F2 O2 H2 v d a b c (i F2 O2 d a p)
theorem TsP.imp {e : Expr} {P P' : Hp → OW → Bool → Prop} (h : TsP X Z e F O ρ P) (i : ∀ F2 O2 d, Same F F2 → P F2 O2 d → P' F2 O2 d) : TsP X Z e F O ρ P' :=
  .mk fun T σ H S Q q => h T σ H S Q fun F2 O2 H2 d a b p => q F2 O2 H2 d a b (i F2 O2 d a p)
theorem ArP.imp {es : List Expr} {P P' : Hp → OW → List D → Prop} (h : ArP X Z es F O ρ P) (i : ∀ F2 O2 d, Same F F2 → P F2 O2 d → P' F2 O2 d) : ArP X Z es F O ρ P' :=
  .mk fun T σ H S Q q => h T σ H S Q fun F2 O2 H2 v d a b c p => q F2 O2 H2 v d a b c (i F2 O2 d a p)
theorem WpS.imp {b : List Stmt} {N N' : Post} (h : WpS X Z b F O ρ N) (i1 : ∀ F2 O2 ρ2, Same F F2 → N.nx F2 O2 ρ2 → N'.nx F2 O2 ρ2) (i2 : ∀ F2 O2 d, Same F F2 → N.rt F2 O2 d → N'.rt F2 O2 d)
    (i3 : ∀ F2 O2 ρ2, Same F F2 → N.bk F2 O2 ρ2 → N'.bk F2 O2 ρ2) (i4 : ∀ F2 O2 ρ2, Same F F2 → N.ct F2 O2 ρ2 → N'.ct F2 O2 ρ2) : WpS X Z b F O ρ N' :=
  .mk fun T σ H S D E => h T σ H S D ⟨fun F2 O2 ρ2 σ H a b c => E.nx F2 O2 ρ2 σ H a b (i1 _ _ _ a c), fun F2 O2 v d H a b c p => E.rt F2 O2 v d H a b c (i2 _ _ _ a p), fun F2 O2 ρ2 σ H a b c => E.bk F2 O2 ρ2 σ H a b (i3 _ _ _ a c), fun F2 O2 ρ2 σ H a b c => E.ct F2 O2 ρ2 σ H a b (i4 _ _ _ a c)⟩
/-! ### blocks -/
theorem wps_nil {N : Post} (h : N.nx F O ρ) : WpS X Z [] F O ρ N := .mk fun _ σ H S D E => canSs_of pss_nil (E.nx F O ρ σ H (Same.refl _) S h)
theorem wps_cons {st : Stmt} {rest : List Stmt} {N : Post} (h : Wp1 X Z st F O ρ { N with nx := fun F2 O2 ρ2 => WpS X Z rest F2 O2 ρ2 N }) : WpS X Z (st :: rest) F O ρ N :=
  .mk fun T σ H S D E => canSs_of (pss_cons ps_can pss_can) (h T σ H S _ ⟨fun F2 O2 ρ2 σ2 H2 a b c => c (tkm T a) σ2 H2 b D (E.mono a), E.rt, E.bk, E.ct⟩)
theorem wps_one {st : Stmt} {N : Post} (h : Wp1 X Z st F O ρ N) : WpS X Z [st] F O ρ N := .mk fun T σ H S D E => canSs_of (pss_one ps_can) (h T σ H S D E)
/-! ### names and constants -/
theorem evp_var {i : Nat} {x : Str} {pos : Pos} {d : D} {P : Hp → OW → D → Prop} (hd : ρ[i]? = some (some d)) (h : P F O d) (hN : X.N[i]? = some x := by rfl)
    (hv : Vis X.env.scope x := by first | exact Or.inl rfl | exact Or.inr (Or.inl rfl) | exact Or.inr (Or.inr rfl)) (hx : (x == ("__debug__" : Str)) = false := by decide) (hcd : (x == ("__classdict__" : Str)) = false := by decide) : EvP X Z (.Name x pos) F O ρ P :=
  .mk fun _ σ H S Q q => by
    obtain ⟨v, hv', r⟩ := S.sig.2 i d hd
    exact canE_of (pe_var hN hv hx hcd) ⟨v, hv', q F O H v d (Same.refl _) S r h⟩
theorem evp_c {e : Expr} {v : V} {d : D} {P : Hp → OW → D → Prop} (he : PE X e (tC v)) (r : ∀ F, Is X.K F v d) (h : P F O d) : EvP X Z e F O ρ P :=
  .mk fun _ σ H S Q q => canE_of he (q F O H v d (Same.refl _) S (r F) h)
theorem evp_int {i : Int} {j : Nat} {pos : Pos} {P : Hp → OW → D → Prop} (h : P F O (.int i)) : EvP X Z (.Constant (.int i) j pos) F O ρ P := evp_c pe_int (fun _ => .int i) h
theorem evp_bl {i : Bool} {j : Nat} {pos : Pos} {P : Hp → OW → D → Prop} (h : P F O (.bl i)) : EvP X Z (.Constant (.bool i) j pos) F O ρ P := evp_c pe_bl (fun _ => .bl i) h
theorem evp_non {j : Nat} {pos : Pos} {P : Hp → OW → D → Prop} (h : P F O .non) : EvP X Z (.Constant .none j pos) F O ρ P := evp_c pe_non (fun _ => .non) h
theorem evp_str {i : Str} {j : Nat} {pos : Pos} {P : Hp → OW → D → Prop} (h : P F O (.str i)) : EvP X Z (.Constant (.str i) j pos) F O ρ P := evp_c pe_str (fun _ => .str i) h
/-- a module's int -/
theorem evp_gint {x : Str} {i : Int} {t : Tok} {pos : Pos} {P : Hp → OW → D → Prop} (hm : X.mg x = some (.int i t)) (h : P F O (.int i)) (hg : Gl X x := by rfl) (hd : (x == ("__debug__" : Str)) = false := by decide) : EvP X Z (.Name x pos) F O ρ P :=
  evp_c (v := .int i) (pe_glob hg hm ⟨t, rfl⟩ hd) (fun _ => .int i) h
/-- a module's def or class, as a value -/
theorem evp_gref {x : Str} {a : Addr} {pos : Pos} {P : Hp → OW → D → Prop} (hm : X.mg x = some (.ref a)) (h : P F O (.raw (.ref a))) (hg : Gl X x := by rfl) (hd : (x == ("__debug__" : Str)) = false := by decide) : EvP X Z (.Name x pos) F O ρ P :=
  evp_c (v := .ref a) (pe_glob hg hm rfl hd) (fun _ => .raw _) h
/-- a built-in class, as a value -/
theorem evp_gty {x : Str} {n : String} {pos : Pos} {P : Hp → OW → D → Prop} (hm : X.mg x = none) (hv : bootBuiltins x = some (.type n)) (h : P F O (.raw (.ty n))) (hg : Gl X x := by rfl) (hn : x ≠ "__name__" := by decide) (hd : (x == ("__debug__" : Str)) = false := by decide) : EvP X Z (.Name x pos) F O ρ P :=
  evp_c (v := .ty n) (pe_bltn hg hm hv rfl hn hd) (fun _ => .raw _) h
/-! ### arguments -/
theorem arp_nil {P : Hp → OW → List D → Prop} (h : P F O []) : ArP X Z [] F O ρ P := .mk fun _ σ H S Q q => canA_of pa_nil (q F O H [] [] (Same.refl _) S .nil h)
theorem arp_cons {e : Expr} {es : List Expr} {P : Hp → OW → List D → Prop} (h : EvP X Z e F O ρ fun F1 O1 d => ArP X Z es F1 O1 ρ fun F2 O2 ds => P F2 O2 (d :: ds))
    (hs : starEach (e :: es) X.env = (false, eval e X.env) :: starEach es X.env := by rfl) : ArP X Z (e :: es) F O ρ P :=
  .mk fun T σ H S Q q => canA_of (pa_cons pe_can pa_can hs) (h T σ H S _ fun F1 O1 H1 v d e1 S1 r1 k => k (tkm T e1) σ H1 S1 _ fun F2 O2 H2 vs ds e2 S2 r2 p => q F2 O2 H2 (v :: vs) (d :: ds) (e1.trans e2) S2 (.cons (r1.mono e2) r2) p)
/-! ### displays -/
theorem evp_tup {es : List Expr} {x1 : Nat} {pos : Pos} {P : Hp → OW → D → Prop} (h : ArP X Z es F O ρ fun F1 O1 ds => ds.length ≤ sizeLine ∧ ∀ F2, Same F1 F2 → P F2 O1 (.tup ds)) : EvP X Z (.Tuple es x1 pos) F O ρ P :=
  .mk fun T σ H S Q q => canE_of (pe_tup pa_can) (h T σ H S _ fun F1 O1 H1 vs ds e1 S1 r1 k => ⟨by rw [r1.length]; exact k.1, fun p hp => by
    have e2 : Same F1 (upd F1 p (.tup vs)) := same_new (S1.a.neF hp)
    exact q _ O1 _ _ (.tup ds) (e1.trans e2) ⟨S1.a.new hp, S1.sig.mono e2⟩ (.tup (.inl (.inl upd_same)) (r1.mono e2)) (k.2 _ e2)⟩)
theorem evp_lst {es : List Expr} {pos : Pos} {P : Hp → OW → D → Prop} (h : ArP X Z es F O ρ fun F1 O1 ds => ds.length ≤ sizeLine ∧ ∀ F2, Same F1 F2 → P F2 O1 (.lst ds)) : EvP X Z (.List es pos) F O ρ P :=
  .mk fun T σ H S Q q => canE_of (pe_lst pa_can) (h T σ H S _ fun F1 O1 H1 vs ds e1 S1 r1 k => ⟨by rw [r1.length]; exact k.1, fun p hp => by
    have e2 : Same F1 (upd F1 p (.lst vs)) := same_new (S1.a.neF hp)
    exact q _ O1 _ _ (.lst ds) (e1.trans e2) ⟨S1.a.new hp, S1.sig.mono e2⟩ (.lst upd_same (r1.mono e2)) (k.2 _ e2)⟩)
/-- a list of our own -/
theorem evp_lstO {es : List Expr} {pos : Pos} {P : Hp → OW → D → Prop} (h : ArP X Z es F O ρ fun F1 O1 ds => ds.length ≤ sizeLine ∧ ∀ p, P F1 ((p, .lst ds) :: O1) (.raw (.ref p))) : EvP X Z (.List es pos) F O ρ P :=
  .mk fun T σ H S Q q => canE_of (pe_lst pa_can) (h T σ H S _ fun F1 O1 H1 vs ds e1 S1 r1 k => ⟨by rw [r1.length]; exact k.1, fun p hp => by
    exact q F1 _ _ _ _ e1 ⟨S1.a.push (e := .lst ds) hp ⟨vs, upd_same, r1⟩, S1.sig⟩ (.raw _) (k.2 p)⟩)
/-! ### operators by values -/
abbrev rCan (X : Cx) (f : Value → Value → Sem Value) : R2 := fun x y H Q => ∀ (pins : List (Addr × Obj)) (s : Shared) (σ : L2.St) (v' u' : Value), Inv X pins σ H s → RelV x v' → RelV y u' → wpAny (model X.prog X.w) X.A (f v' u') (EP X pins σ Q) X.xe s
theorem op_can {f : Value → Value → Sem Value} : OpR X f (rCan X f) := fun pins s σ _ _ _ v u _ I rx ry h => h pins s σ v u I rx ry
def OpD (X : Cx) (f : Value → Value → Sem Value) (x y : D) (F : Hp) (P : Hp → D → Prop) : Prop :=
  ∀ (O : OW) (H : Hp) (v u : V), StA X.K F O H → Is X.K F v x → Is X.K F u y → ∀ Q : VK, (∀ F2 H2 w d, Same F F2 → StA X.K F2 O H2 → Is X.K F2 w d → P F2 d → Q w H2) → rCan X f v u H Q
theorem OpD.of {f : Value → Value → Sem Value} {r : R2} {x y : D} {P : Hp → D → Prop} (ho : OpR X f r)
    (h : ∀ (O : OW) (H : Hp) (v u : V), StA X.K F O H → Is X.K F v x → Is X.K F u y → ∀ Q : VK, (∀ F2 H2 w d, Same F F2 → StA X.K F2 O H2 → Is X.K F2 w d → P F2 d → Q w H2) → r v u H Q) : OpD X f x y F P :=
  fun O H v u S hv hu Q q pins s σ v' u' I rv ru => ho pins s σ H v u v' u' Q I rv ru (h O H v u S hv hu Q q)
/-- the two operands, then the operation -/
theorem two_ops {a b : Expr} {f : Value → Value → Sem Value} {P : Hp → OW → D → Prop} (h : EvP X Z a F O ρ fun F1 O1 d1 => EvP X Z b F1 O1 ρ fun F2 O2 d2 => OpD X f d1 d2 F2 fun F3 d => P F3 O2 d)
    (T : Takes X (wz X.K F Z)) {σ : L2.St} {H : Hp} (S : Sta X.K F O ρ σ H) {Q : VK} (q : ∀ F2 O2 H2 v d, Same F F2 → Sta X.K F2 O2 ρ σ H2 → Is X.K F2 v d → P F2 O2 d → Q v H2) :
    tOp (rCan X f) (canE X a) (canE X b) σ H Q :=
  h T σ H S _ fun F1 O1 H1 v d e1 S1 r1 k => k (tkm T e1) σ H1 S1 _ fun F2 O2 H2 u d2 e2 S2 r2 k2 =>
    k2 O2 H2 v u S2.a (r1.mono e2) r2 Q fun F3 H3 w d3 e3 S3 r3 p => q F3 O2 H3 w d3 ((e1.trans e2).trans e3) ⟨S3, S2.sig.mono e3⟩ r3 p
theorem evp_bin {a b : Expr} {op : Operator} {pos : Pos} {P : Hp → OW → D → Prop} (h : EvP X Z a F O ρ fun F1 O1 d1 => EvP X Z b F1 O1 ρ fun F2 O2 d2 => OpD X (binaryOp op) d1 d2 F2 fun F3 d => P F3 O2 d) : EvP X Z (.BinOp a op b pos) F O ρ P :=
  .mk fun T σ H S Q q => canE_of (pe_op op_can pe_can pe_can) (two_ops h T S q)
theorem evp_cmp {a b : Expr} {op : CmpOp} {pos : Pos} {P : Hp → OW → D → Prop} (h : EvP X Z a F O ρ fun F1 O1 d1 => EvP X Z b F1 O1 ρ fun F2 O2 d2 => OpD X (compareOp op) d1 d2 F2 fun F3 d => P F3 O2 d)
    (hm : behindInMarks op b = false := by first | exact nomark _ | with_unfolding_all rfl) : EvP X Z (.Compare a [op] [b] pos) F O ρ P :=
  .mk fun T σ H S Q q => canE_of (pe_cmpR op_can pe_can pe_can hm) (two_ops h T S q)
/-- a op b op' c -/
theorem evp_chain {a b c : Expr} {op op' : CmpOp} {pos : Pos} {P : Hp → OW → D → Prop}
    (h : EvP X Z a F O ρ fun F1 O1 d1 => EvP X Z b F1 O1 ρ fun F2 O2 d2 => OpD X (compareOp op) d1 d2 F2 fun F3 z => ∃ k, z = .bl k ∧ (k = true → EvP X Z c F3 O2 ρ fun F4 O4 d4 => OpD X (compareOp op') d2 d4 F4 fun F5 d => P F5 O4 d) ∧ (k = false → P F3 O2 (.bl false)))
    (hm : lastMarks [op, op'] [b, c] = false := by with_unfolding_all rfl) : EvP X Z (.Compare a [op, op'] [b, c] pos) F O ρ P :=
  .mk fun T σ H S Q q => canE_of (pe_chain op_can op_can pe_can pe_can pe_can hm)
    (h T σ H S _ fun F1 O1 H1 v d e1 S1 r1 k => k (tkm T e1) σ H1 S1 _ fun F2 O2 H2 u d2 e2 S2 r2 k2 =>
      k2 O2 H2 v u S2.a (r1.mono e2) r2 _ fun F3 H3 w d3 e3 S3 r3 ⟨b, eb, p1, p2⟩ => by
        subst eb
        cases r3
        refine ⟨b, rfl, ?_⟩
        have S3' : Sta X.K F3 O2 ρ σ H3 := ⟨S3, S2.sig.mono e3⟩
        cases b with
        | true =>
          rw [if_pos rfl]
          exact p1 rfl (tkm T ((e1.trans e2).trans e3)) σ H3 S3' _ fun F4 O4 H4 w4 d4 e4 S4 r4 k4 => k4 O4 H4 u w4 S4.a (r2.mono (e3.trans e4)) r4 Q fun F5 H5 w5 d5 e5 S5 r5 p =>
            q F5 O4 H5 w5 d5 ((((e1.trans e2).trans e3).trans e4).trans e5) ⟨S5, S4.sig.mono e5⟩ r5 p
        | false =>
          rw [if_neg Bool.false_ne_true]
          exact q F3 O2 H3 _ _ ((e1.trans e2).trans e3) S3' (.bl false) (p2 rfl))
/-! ### ints -/
theorem OpD.int {f : Value → Value → Sem Value} {C : Int → Int → Prop} {g : Int → Int → Int} {i j : Int} {P : Hp → D → Prop} (ho : OpR X f (rI C fun i j => .int (g i j))) (hc : C i j) (h : P F (.int (g i j))) : OpD X f (.int i) (.int j) F P :=
  OpD.of ho fun O H v u S hv hu Q q => by
    cases hv; cases hu
    exact ⟨i, j, rfl, rfl, hc, q F H _ _ (Same.refl _) S (.int _) h⟩
theorem OpD.int0 {f : Value → Value → Sem Value} {g : Int → Int → Int} {i j : Int} {P : Hp → D → Prop} (ho : OpR X f (rI0 fun i j => .int (g i j))) (h : P F (.int (g i j))) : OpD X f (.int i) (.int j) F P :=
  OpD.of ho fun O H v u S hv hu Q q => by
    cases hv; cases hu
    exact ⟨i, j, rfl, rfl, q F H _ _ (Same.refl _) S (.int _) h⟩
theorem OpD.bl0 {f : Value → Value → Sem Value} {g : Int → Int → Bool} {i j : Int} {P : Hp → D → Prop} (ho : OpR X f (rI0 fun i j => .bl (g i j))) (h : P F (.bl (g i j))) : OpD X f (.int i) (.int j) F P :=
  OpD.of ho fun O H v u S hv hu Q q => by
    cases hv; cases hu
    exact ⟨i, j, rfl, rfl, q F H _ _ (Same.refl _) S (.bl _) h⟩
section
variable {i j : Int} {P : Hp → D → Prop}
theorem opd_add (h : P F (.int (i + j))) : OpD X (binaryOp .Add) (.int i) (.int j) F P := .int0 op_add h
theorem opd_sub (h : P F (.int (i - j))) : OpD X (binaryOp .Sub) (.int i) (.int j) F P := .int0 op_sub h
theorem opd_mul (hc : CMulW i j) (h : P F (.int (i * j))) : OpD X (binaryOp .Mult) (.int i) (.int j) F P := .int op_mulW hc h
theorem opd_fdiv (hc : CDivW i j) (h : P F (.int (i / j))) : OpD X (binaryOp .FloorDiv) (.int i) (.int j) F P := .int op_fdivW hc h
theorem opd_mod (hc : 0 < j) (h : P F (.int (i % j))) : OpD X (binaryOp .Mod) (.int i) (.int j) F P := .int op_mod hc h
theorem opd_pow (hc : CPow i j) (h : P F (.int (i ^ j.toNat))) : OpD X (binaryOp .Pow) (.int i) (.int j) F P := .int op_pow hc h
theorem opd_lt (h : P F (.bl (decide (i < j)))) : OpD X (compareOp .Lt) (.int i) (.int j) F P := .bl0 op_lt h
theorem opd_le (h : P F (.bl (decide (i ≤ j)))) : OpD X (compareOp .LtE) (.int i) (.int j) F P := .bl0 op_le h
theorem opd_gt (h : P F (.bl (decide (j < i)))) : OpD X (compareOp .Gt) (.int i) (.int j) F P := .bl0 op_gt h
theorem opd_ge (h : P F (.bl (decide (j ≤ i)))) : OpD X (compareOp .GtE) (.int i) (.int j) F P := .bl0 op_ge h
end
/-! ### unary -/
def UnD (X : Cx) (f : Value → Sem Value) (x : D) (F : Hp) (P : Hp → D → Prop) : Prop :=
  ∀ (O : OW) (H : Hp) (v : V), StA X.K F O H → Is X.K F v x → ∀ Q : VK, (∀ F2 H2 w d, Same F F2 → StA X.K F2 O H2 → Is X.K F2 w d → P F2 d → Q w H2) →
    ∀ (pins : List (Addr × Obj)) (s : Shared) (σ : L2.St) (v' : Value), Inv X pins σ H s → RelV v v' → wpAny (model X.prog X.w) X.A (f v') (EP X pins σ Q) X.xe s
theorem evp_un {a : Expr} {op : UnaryOp} {pos : Pos} {P : Hp → OW → D → Prop} (h : EvP X Z a F O ρ fun F1 O1 d => UnD X (unaryOp op) d F1 fun F2 d2 => P F2 O1 d2) : EvP X Z (.UnaryOp op a pos) F O ρ P :=
  .mk fun T σ H S Q q => canE_of (pe_un (r := fun x H Q => ∀ (pins : List (Addr × Obj)) (s : Shared) (σ : L2.St) (v' : Value), Inv X pins σ H s → RelV x v' → wpAny (model X.prog X.w) X.A (unaryOp op v') (EP X pins σ Q) X.xe s) (fun pins s σ _ _ v _ I rx h => h pins s σ v I rx) pe_can)
    (h T σ H S _ fun F1 O1 H1 v d e1 S1 r1 k => k O1 H1 v S1.a r1 Q fun F2 H2 w d2 e2 S2 r2 p => q F2 O1 H2 w d2 (e1.trans e2) ⟨S2, S1.sig.mono e2⟩ r2 p)
theorem und_neg {i : Int} {P : Hp → D → Prop} (h : P F (.int (-i))) : UnD X (unaryOp .USub) (.int i) F P := fun O H v S hv Q q pins s σ v' I rv => by
  cases hv
  exact un_neg pins s σ H _ v' Q I rv ⟨i, rfl, q F H _ _ (Same.refl _) S (.int _) h⟩
/-! ### tests -/
/-- an expression whose value is a bool, as a test -/
theorem tsp_val {e : Expr} {P : Hp → OW → Bool → Prop} (h : EvP X Z e F O ρ fun F1 O1 d => ∃ k, d = .bl k ∧ P F1 O1 k) (he : ∀ whole, isTrue e X.env whole = (do let v ← whole; standAt e.pos; holding [v] (truthy v)) := by intro _; rfl) : TsP X Z e F O ρ P :=
  .mk fun T σ H S Q q => canT_of (pt_val pe_can he) (h T σ H S _ fun F1 O1 H1 v d e1 S1 r1 ⟨k, ek, p⟩ => by
    subst ek
    cases r1
    exact ⟨k, rfl, q F1 O1 H1 k e1 S1 p⟩)
theorem tsp_cmp {a b : Expr} {op : CmpOp} {pos : Pos} {P : Hp → OW → Bool → Prop} (h : EvP X Z a F O ρ fun F1 O1 d1 => EvP X Z b F1 O1 ρ fun F2 O2 d2 => OpD X (compareOp op) d1 d2 F2 fun F3 d => ∃ k, d = .bl k ∧ P F3 O2 k)
    (hm : behindInMarks op b = false := by first | exact nomark _ | with_unfolding_all rfl) : TsP X Z (.Compare a [op] [b] pos) F O ρ P :=
  .mk fun T σ H S Q q => canT_of (pt_cmpR op_can pe_can pe_can hm) (two_ops (Q := fun x H' => ∃ k, x = .bl k ∧ Q k H') (P := fun F3 O2 d => ∃ k, d = .bl k ∧ P F3 O2 k) h T S fun F2 O2 H2 v d e1 S1 r1 ⟨k, ek, p⟩ => by
    subst ek
    cases r1
    exact ⟨k, rfl, q F2 O2 H2 k e1 S1 p⟩)
theorem tsp_chain {a b c : Expr} {op op' : CmpOp} {pos : Pos} {P : Hp → OW → Bool → Prop}
    (h : EvP X Z a F O ρ fun F1 O1 d1 => EvP X Z b F1 O1 ρ fun F2 O2 d2 => OpD X (compareOp op) d1 d2 F2 fun F3 z => ∃ k, z = .bl k ∧ (k = true → EvP X Z c F3 O2 ρ fun F4 O4 d4 => OpD X (compareOp op') d2 d4 F4 fun F5 d => ∃ k, d = .bl k ∧ P F5 O4 k) ∧ (k = false → P F3 O2 false))
    (hm : lastMarks [op, op'] [b, c] = false := by with_unfolding_all rfl) : TsP X Z (.Compare a [op, op'] [b, c] pos) F O ρ P :=
  .mk fun T σ H S Q q => canT_of (pt_chain op_can op_can pe_can pe_can pe_can hm)
    (h T σ H S _ fun F1 O1 H1 v d e1 S1 r1 k => k (tkm T e1) σ H1 S1 _ fun F2 O2 H2 u d2 e2 S2 r2 k2 =>
      k2 O2 H2 v u S2.a (r1.mono e2) r2 _ fun F3 H3 w d3 e3 S3 r3 ⟨b, eb, p1, p2⟩ => by
        subst eb
        cases r3
        refine ⟨b, rfl, ?_⟩
        have S3' : Sta X.K F3 O2 ρ σ H3 := ⟨S3, S2.sig.mono e3⟩
        cases b with
        | true =>
          rw [if_pos rfl]
          exact p1 rfl (tkm T ((e1.trans e2).trans e3)) σ H3 S3' _ fun F4 O4 H4 w4 d4 e4 S4 r4 k4 => k4 O4 H4 u w4 S4.a (r2.mono (e3.trans e4)) r4 _ fun F5 H5 w5 d5 e5 S5 r5 ⟨k, ek, p⟩ => by
            subst ek
            cases r5
            exact ⟨k, rfl, q F5 O4 H5 k ((((e1.trans e2).trans e3).trans e4).trans e5) ⟨S5, S4.sig.mono e5⟩ p⟩
        | false =>
          rw [if_neg Bool.false_ne_true]
          exact ⟨false, rfl, q F3 O2 H3 _ ((e1.trans e2).trans e3) S3' (p2 rfl)⟩)
theorem tsp_w {e : Expr} {P : Hp → OW → Bool → Prop} (h : TwP X Z e F O ρ P) : TsP X Z e F O ρ P := .mk fun T σ H S Q q => canT_of pw_can.pt (h T σ H S Q q)
theorem twp_and1 {a : Expr} {pos : Pos} {P : Hp → OW → Bool → Prop} (h : TsP X Z a F O ρ P) : TwP X Z (.BoolOp .And [a] pos) F O ρ P := .mk fun T σ H S Q q => canW_of (pw_and1 pt_can) (h T σ H S Q q)
theorem twp_or1 {a : Expr} {pos : Pos} {P : Hp → OW → Bool → Prop} (h : TsP X Z a F O ρ P) : TwP X Z (.BoolOp .Or [a] pos) F O ρ P := .mk fun T σ H S Q q => canW_of (pw_or1 pt_can) (h T σ H S Q q)
theorem twp_and {a b : Expr} {rest : List Expr} {pos : Pos} {P : Hp → OW → Bool → Prop} (h : TsP X Z a F O ρ fun F1 O1 k => (k = true → TwP X Z (.BoolOp .And (b :: rest) pos) F1 O1 ρ P) ∧ (k = false → P F1 O1 false)) : TwP X Z (.BoolOp .And (a :: b :: rest) pos) F O ρ P :=
  .mk fun T σ H S Q q => canW_of (pw_and pt_can pw_can) (h T σ H S _ fun F1 O1 H1 k e1 S1 ⟨p1, p2⟩ => by
    cases k with
    | true =>
      rw [if_pos rfl]
      exact p1 rfl (tkm T e1) σ H1 S1 Q fun F2 O2 H2 k2 e2 => q F2 O2 H2 k2 (e1.trans e2)
    | false =>
      rw [if_neg Bool.false_ne_true]
      exact q F1 O1 H1 false e1 S1 (p2 rfl))
theorem twp_or {a b : Expr} {rest : List Expr} {pos : Pos} {P : Hp → OW → Bool → Prop} (h : TsP X Z a F O ρ fun F1 O1 k => (k = true → P F1 O1 true) ∧ (k = false → TwP X Z (.BoolOp .Or (b :: rest) pos) F1 O1 ρ P)) : TwP X Z (.BoolOp .Or (a :: b :: rest) pos) F O ρ P :=
  .mk fun T σ H S Q q => canW_of (pw_or pt_can pw_can) (h T σ H S _ fun F1 O1 H1 k e1 S1 ⟨p1, p2⟩ => by
    cases k with
    | true =>
      rw [if_pos rfl]
      exact q F1 O1 H1 true e1 S1 (p1 rfl)
    | false =>
      rw [if_neg Bool.false_ne_true]
      exact p2 rfl (tkm T e1) σ H1 S1 Q fun F2 O2 H2 k2 e2 => q F2 O2 H2 k2 (e1.trans e2))
theorem tsp_not {a : Expr} {pos : Pos} {P : Hp → OW → Bool → Prop} (h : TsP X Z a F O ρ fun F1 O1 k => P F1 O1 (!k)) : TsP X Z (.UnaryOp .Not a pos) F O ρ P :=
  .mk fun T σ H S Q q => canT_of (pt_not pt_can) (h T σ H S _ fun F1 O1 H1 k e1 S1 p => q F1 O1 H1 (!k) e1 S1 p)
/-- and, or, not as values of bools -/
theorem evp_one {op : BoolOp} {a : Expr} {pos : Pos} {P : Hp → OW → D → Prop} (h : EvP X Z a F O ρ P) : EvP X Z (.BoolOp op [a] pos) F O ρ P := .mk fun T σ H S Q q => canE_of (pe_one pe_can) (h T σ H S Q q)
theorem evp_and {a b : Expr} {rest : List Expr} {pos : Pos} {P : Hp → OW → D → Prop} (h : EvP X Z a F O ρ fun F1 O1 d => ∃ k, d = .bl k ∧ (k = true → EvP X Z (.BoolOp .And (b :: rest) pos) F1 O1 ρ P) ∧ (k = false → P F1 O1 (.bl false))) : EvP X Z (.BoolOp .And (a :: b :: rest) pos) F O ρ P :=
  .mk fun T σ H S Q q => canE_of (pe_and pe_can pe_can) (h T σ H S _ fun F1 O1 H1 v d e1 S1 r1 ⟨k, ek, p1, p2⟩ => by
    subst ek
    cases r1
    refine ⟨k, rfl, ?_⟩
    cases k with
    | true =>
      rw [if_pos rfl]
      exact p1 rfl (tkm T e1) σ H1 S1 Q fun F2 O2 H2 v2 d2 e2 => q F2 O2 H2 v2 d2 (e1.trans e2)
    | false =>
      rw [if_neg Bool.false_ne_true]
      exact q F1 O1 H1 _ _ e1 S1 (.bl false) (p2 rfl))
theorem evp_or {a b : Expr} {rest : List Expr} {pos : Pos} {P : Hp → OW → D → Prop} (h : EvP X Z a F O ρ fun F1 O1 d => ∃ k, d = .bl k ∧ (k = true → P F1 O1 (.bl true)) ∧ (k = false → EvP X Z (.BoolOp .Or (b :: rest) pos) F1 O1 ρ P)) : EvP X Z (.BoolOp .Or (a :: b :: rest) pos) F O ρ P :=
  .mk fun T σ H S Q q => canE_of (pe_or pe_can pe_can) (h T σ H S _ fun F1 O1 H1 v d e1 S1 r1 ⟨k, ek, p1, p2⟩ => by
    subst ek
    cases r1
    refine ⟨k, rfl, ?_⟩
    cases k with
    | true =>
      rw [if_pos rfl]
      exact q F1 O1 H1 _ _ e1 S1 (.bl true) (p1 rfl)
    | false =>
      rw [if_neg Bool.false_ne_true]
      exact p2 rfl (tkm T e1) σ H1 S1 Q fun F2 O2 H2 v2 d2 e2 => q F2 O2 H2 v2 d2 (e1.trans e2))
theorem evp_not {a : Expr} {pos : Pos} {P : Hp → OW → D → Prop} (h : EvP X Z a F O ρ fun F1 O1 d => ∃ k, d = .bl k ∧ P F1 O1 (.bl (!k))) : EvP X Z (.UnaryOp .Not a pos) F O ρ P :=
  .mk fun T σ H S Q q => canE_of (pe_not pe_can) (h T σ H S _ fun F1 O1 H1 v d e1 S1 r1 ⟨k, ek, p⟩ => by
    subst ek
    cases r1
    exact ⟨k, rfl, q F1 O1 H1 _ _ e1 S1 (.bl _) p⟩)
theorem evp_if {c a b : Expr} {pos : Pos} {P : Hp → OW → D → Prop} (h : TsP X Z c F O ρ fun F1 O1 k => (k = true → EvP X Z a F1 O1 ρ P) ∧ (k = false → EvP X Z b F1 O1 ρ P)) : EvP X Z (.IfExp c a b pos) F O ρ P :=
  .mk fun T σ H S Q q => canE_of (pe_ifExp pt_can pe_can pe_can) (h T σ H S _ fun F1 O1 H1 k e1 S1 ⟨p1, p2⟩ => by
    cases k with
    | true =>
      rw [if_pos rfl]
      exact p1 rfl (tkm T e1) σ H1 S1 Q fun F2 O2 H2 v2 d2 e2 => q F2 O2 H2 v2 d2 (e1.trans e2)
    | false =>
      rw [if_neg Bool.false_ne_true]
      exact p2 rfl (tkm T e1) σ H1 S1 Q fun F2 O2 H2 v2 d2 e2 => q F2 O2 H2 v2 d2 (e1.trans e2))
/-! ### statements -/
theorem wp_set {i : Nat} {x : Str} {e : Expr} {p' pos : Pos} {N : Post} (h : EvP X Z e F O ρ fun F1 O1 d => N.nx F1 O1 (ρ.set i (some d))) (hN : X.N.Nodup) (hi : X.N[i]? = some x := by rfl)
    (hx : Loc X.env.scope x := by first | exact Or.inl rfl | exact Or.inr rfl) (hs : swapsWith e (some (.Name x p')) pos.line X.env = pure false := by rfl)
    (hf : X.fn x = true ∨ X.env.scope.names.lookup x = some .local := by first | exact .inl rfl | exact .inr rfl | assumption) : Wp1 X Z (.Assign [.Name x p'] e pos) F O ρ N :=
  .mk fun T σ H S D E => canS_of (ps_set hN hi hx pe_can hs hf) (h T σ H S _ fun F1 O1 H1 v d e1 S1 r1 p => E.nx F1 O1 _ _ H1 e1 ⟨S1.a, S1.sig.set r1 i⟩ p)
theorem wp_drop {e : Expr} {pos : Pos} {N : Post} (h : EvP X Z e F O ρ fun F1 O1 _ => N.nx F1 O1 ρ) (hs : swapsWith e none pos.line X.env = pure false := by rfl) : Wp1 X Z (.Expr e pos) F O ρ N :=
  .mk fun T σ H S D E => canS_of (ps_expr pe_can hs) (h T σ H S _ fun F1 O1 H1 v d e1 S1 r1 p => E.nx F1 O1 _ _ H1 e1 S1 p)
theorem wp_ret {e : Expr} {pos : Pos} {N : Post} (h : EvP X Z e F O ρ N.rt) : Wp1 X Z (.Return (some e) pos) F O ρ N :=
  .mk fun T σ H S D E => canS_of (ps_ret pe_can) (h T σ H S _ fun F1 O1 H1 v d e1 S1 r1 p => E.rt F1 O1 v d H1 e1 S1.a r1 p)
theorem wp_retN {pos : Pos} {N : Post} (h : N.rt F O .non) : Wp1 X Z (.Return none pos) F O ρ N :=
  .mk fun T σ H S D E => canS_of ps_retN (E.rt F O .non .non H (Same.refl _) S.a .non h)
theorem wp_if {c : Expr} {a b : List Stmt} {pos : Pos} {N : Post} (h : TsP X Z c F O ρ fun F1 O1 k => (k = true → WpS X Z a F1 O1 ρ N) ∧ (k = false → WpS X Z b F1 O1 ρ N)) : Wp1 X Z (.If c a b pos) F O ρ N :=
  .mk fun T σ H S D E => canS_of (ps_if pt_can pss_can pss_can) (h T σ H S _ fun F1 O1 H1 k e1 S1 ⟨p1, p2⟩ => by
    cases k with
    | true =>
      rw [if_pos rfl]
      exact p1 rfl (tkm T e1) σ H1 S1 D (E.mono e1)
    | false =>
      rw [if_neg Bool.false_ne_true]
      exact p2 rfl (tkm T e1) σ H1 S1 D (E.mono e1))
theorem wp_pass {pos : Pos} {N : Post} (h : N.nx F O ρ) : Wp1 X Z (.Pass pos) F O ρ N := .mk fun T σ H S D E => canS_of ps_pass (E.nx F O ρ σ H (Same.refl _) S h)
/-- a, b = e, e' -/
theorem wp_par {i j : Nat} {x y : Str} {a b : Expr} {px py pt pos pt2 : Pos} {kt k2 : Nat} {N : Post} (h : EvP X Z a F O ρ fun F1 O1 d1 => EvP X Z b F1 O1 ρ fun F2 O2 d2 => N.nx F2 O2 ((ρ.set i (some d1)).set j (some d2))) (hc : X.calm = true) (hN : X.N.Nodup)
    (hi : X.N[i]? = some x := by rfl) (hj : X.N[j]? = some y := by rfl) (hij : i ≠ j := by decide) (hx : X.env.scope.names.lookup x = some .local := by rfl) (hy : X.env.scope.names.lookup y = some .local := by rfl)
    (hw : swappedStores [.Tuple [.Name x px, .Name y py] kt pt] (.Tuple [a, b] k2 pt2) X.env = pure (some [x, y]) := by rfl)
    (hs : swapsWithSole [.Tuple [.Name x px, .Name y py] kt pt] (.Tuple [a, b] k2 pt2) pos.line X.env = pure false := by rfl) (he1 : starEach [a, b] X.env = (false, eval a X.env) :: starEach [b] X.env := by rfl) (he2 : starEach [b] X.env = (false, eval b X.env) :: starEach [] X.env := by rfl) :
    Wp1 X Z (.Assign [.Tuple [.Name x px, .Name y py] kt pt] (.Tuple [a, b] k2 pt2) pos) F O ρ N :=
  .mk fun T σ H S D E => canS_of (ps_par hc hN hi hj hij hx hy (pa_cons pe_can (pa_cons pe_can pa_nil he2) he1) hw hs)
    (h T σ H S _ fun F1 O1 H1 v d e1 S1 r1 k => k (tkm T e1) σ H1 S1 _ fun F2 O2 H2 u d2 e2 S2 r2 p => ⟨v, u, rfl, E.nx F2 O2 _ _ H2 (e1.trans e2) ⟨S2.a, (S2.sig.set (r1.mono e2) i).set r2 j⟩ p⟩)
/-! ### loops -/
/-- for x in range(n) -/
theorem wp_forR1 {i : Nat} {x : Str} {a : Expr} {body : List Stmt} {px pr pc pos : Pos} {N : Post} (I : Nat → Hp → OW → Rho → Prop)
    (h : EvP X Z a F O ρ fun F1 O1 d => ∃ n : Int, d = .int n ∧ (-(2 ^ 62) ≤ n ∧ n < 2 ^ 62) ∧ I 0 F1 O1 ρ ∧
      (∀ (k : Nat) F2 O2 ρ2, Same F1 F2 → (k : Int) < n → I k F2 O2 ρ2 → WpS X Z body F2 O2 (ρ2.set i (some (.int (k : Int)))) { nx := I (k + 1), ct := I (k + 1), bk := N.nx, rt := N.rt }) ∧
      ∀ F2 O2 ρ2, Same F1 F2 → I n.toNat F2 O2 ρ2 → N.nx F2 O2 ρ2)
    (hp : PassesOwn (model X.prog X.w) X.A X.env X.xe) (hc : X.calm = true) (hg : Gl X "range") (hm : X.mg "range" = none) (hN : X.N.Nodup) (hi : X.N[i]? = some x := by rfl) (hx : Loc X.env.scope x := by first | exact Or.inl rfl | exact Or.inr rfl)
    (hf : X.fn x = true ∨ X.env.scope.names.lookup x = some .local := by first | exact .inl rfl | exact .inr rfl | assumption) (hs : starEach [a] X.env = [(false, eval a X.env)] := by rfl)
    (hfs : ∀ y, foldedSetIterable (.Call (.Name "range" pr) [a] [] pc) X.env y = pure y := by intro _; rfl) :
    Wp1 X Z (.For (.Name x px) (.Call (.Name "range" pr) [a] [] pc) body [] pos) F O ρ N :=
  .mk fun T σ H S D E => canS_of (ps_for hp hc (pi_range1 hg hm (pa_cons pe_can pa_nil (by rw [hs] <;> rfl)) hs) (pg_name hN hi hx hf) pss_can hfs)
    (h T σ H S _ fun F1 O1 H1 v d e1 S1 r1 ⟨n, en, hn, h0, hs, hd⟩ => by
      subst en
      cases r1
      refine ⟨n, rfl, hn.1, hn.2, for_range (lo := 0) (n := n.toNat) (fun k σ' H' => ∃ F2 O2 ρ2, Same F1 F2 ∧ Sta X.K F2 O2 ρ2 σ' H' ∧ I k F2 O2 ρ2) ⟨F1, O1, ρ, Same.refl _, S1, h0⟩ ?_ ?_⟩
      · rintro k σ' H' hk ⟨F2, O2, ρ2, e2, S2, hI⟩
        show canSs X body _ (σ'.set i (some (.int (0 + (k : Int))))) H'
        rw [Int.zero_add]
        refine hs k F2 O2 ρ2 e2 (by omega) hI (tkm T (e1.trans e2)) _ H' ⟨S2.a, S2.sig.set (.int _) i⟩ _ ⟨?_, ?_, ?_, ?_⟩
        · exact fun F3 O3 ρ3 σ3 H3 e3 S3 q => ⟨F3, O3, ρ3, e2.trans e3, S3, q⟩
        · exact fun F3 O3 v d H3 e3 S3 r q => E.rt F3 O3 v d H3 ((e1.trans e2).trans e3) S3 r q
        · exact fun F3 O3 ρ3 σ3 H3 e3 S3 q => E.nx F3 O3 ρ3 σ3 H3 ((e1.trans e2).trans e3) S3 q
        · exact fun F3 O3 ρ3 σ3 H3 e3 S3 q => ⟨F3, O3, ρ3, e2.trans e3, S3, q⟩
      · rintro σ' H' ⟨F2, O2, ρ2, e2, S2, hI⟩
        exact E.nx F2 O2 ρ2 σ' H' (e1.trans e2) S2 (hd F2 O2 ρ2 e2 hI))
/-- while, by an invariant and a measure -/
theorem wp_while {c : Expr} {body : List Stmt} {pos : Pos} {N : Post} (I : Nat → Hp → OW → Rho → Prop) (h0 : ∃ m, I m F O ρ)
    (h : ∀ m F1 O1 ρ1, Same F F1 → I m F1 O1 ρ1 → TsP X Z c F1 O1 ρ1 fun F2 O2 k =>
      (k = true → WpS X Z body F2 O2 ρ1 { nx := fun F3 O3 ρ3 => ∃ m', m' < m ∧ I m' F3 O3 ρ3, ct := fun F3 O3 ρ3 => ∃ m', m' < m ∧ I m' F3 O3 ρ3, bk := N.nx, rt := N.rt }) ∧ (k = false → N.nx F2 O2 ρ1))
    (hp : PassesOwn (model X.prog X.w) X.A X.env X.xe) : Wp1 X Z (.While c body [] pos) F O ρ N :=
  .mk fun T σ H S D E => canS_of (ps_while hp pt_can pss_can) (by
    obtain ⟨m0, h0⟩ := h0
    refine ⟨fun m σ' H' => ∃ F2 O2 ρ2, Same F F2 ∧ Sta X.K F2 O2 ρ2 σ' H' ∧ I m F2 O2 ρ2, ⟨m0, F, O, ρ, Same.refl _, S, h0⟩, ?_⟩
    rintro m σ1 H1 ⟨F1, O1, ρ1, e1, S1, hI⟩
    refine h m F1 O1 ρ1 e1 hI (tkm T e1) σ1 H1 S1 _ fun F2 O2 H2 k e2 S2 ⟨p1, p2⟩ => ?_
    cases k with
    | true =>
      rw [if_pos rfl]
      refine ⟨fun σ' H' => ∃ m' F3 O3 ρ3, m' < m ∧ Same F F3 ∧ Sta X.K F3 O3 ρ3 σ' H' ∧ I m' F3 O3 ρ3, fun σ' H' ⟨m', F3, O3, ρ3, lt, a, b, c⟩ => ⟨m', lt, F3, O3, ρ3, a, b, c⟩, ?_⟩
      refine p1 rfl (tkm T (e1.trans e2)) σ1 H2 S2 _ ⟨?_, ?_, ?_, ?_⟩
      · exact fun F3 O3 ρ3 σ3 H3 e3 S3 ⟨m', lt, q⟩ => ⟨m', F3, O3, ρ3, lt, (e1.trans e2).trans e3, S3, q⟩
      · exact fun F3 O3 v d H3 e3 S3 r q => E.rt F3 O3 v d H3 ((e1.trans e2).trans e3) S3 r q
      · exact fun F3 O3 ρ3 σ3 H3 e3 S3 q => E.nx F3 O3 ρ3 σ3 H3 ((e1.trans e2).trans e3) S3 q
      · exact fun F3 O3 ρ3 σ3 H3 e3 S3 ⟨m', lt, q⟩ => ⟨m', F3, O3, ρ3, lt, (e1.trans e2).trans e3, S3, q⟩
    | false =>
      rw [if_neg Bool.false_ne_true]
      exact E.nx F2 O2 ρ1 σ1 H2 (e1.trans e2) S2 (p2 rfl))
end
end CR
/-! Own exceptions: class X(Base): def __init__(self[, f]): Base.__init__(self, '..')[; self.f = f], Base an own class over ValueError without an __init__. -/
namespace CR
open PySem PySem.Spec PyProof.Rows L2
/-! ### facts of the classes, as a Bool -/
def excB (K : PySem.W.Frag) (C : Addr) : Bool := match K.lookup C with
  | some ⟨.type "type", _, .cls cd, sl⟩ => (match cd.mro, sl.toList with
    | .ref C' :: bm, [_, _, _, _, some (.builtin n), _] => C' == C && (n == "ValueError.__new__" && (!cd.hasDel && (cd.hasDict && PySem.HandSPX.refsVE bm)))
    | _, _ => false)
  | _ => false
theorem excB_ok {K : PySem.W.Frag} {C : Addr} (q : excB K C = true) : ∃ nm qn N bs bm sn sub ab col dd k0 k1 k2 k3 k5, K.lookup C = some (excClassObj nm qn C N bs bm true sn sub ab col dd k0 k1 k2 k3 k5 "ValueError.__new__") ∧ PySem.HandSPX.refsVE bm = true := by
  unfold excB at q
  split at q
  · rename_i dd cd sl ho
    split at q
    · rename_i C' bm k0 k1 k2 k3 n k5 hm hs
      simp only [Bool.and_eq_true, beq_iff_eq, Bool.not_eq_true'] at q
      obtain ⟨rfl, rfl, hdel, hd, hbm⟩ := q
      obtain ⟨nm, bs, mro, ns, qn, hd', sn, sub, ab, col, del⟩ := cd
      dsimp only at hm hdel hd
      subst hm hdel hd
      have hsl : sl = #[k0, k1, k2, k3, some (.builtin "ValueError.__new__"), k5] := by
        obtain ⟨l⟩ := sl
        simp only at hs
        rw [hs]
      subst hsl
      exact ⟨nm, qn, ns, bs, bm, sn, sub, ab, col, dd, k0, k1, k2, k3, k5, ho, hbm⟩
    · cases q
  · cases q
def oexB (K : PySem.W.Frag) (C : Addr) : Bool := excB K C && (decide (PySem.W.findIn K (.ref C) "__setattr__" = some (some (.builtin "object.__setattr__"))) && (decide (PySem.W.subIn K (.ref C) (.type "BaseException") = some true) &&
  (decide (PySem.W.typeIn K (.ref C) = some (.type "type")) && PySem.W.keepIn K (.ref C))))
theorem oexB_ok {K : PySem.W.Frag} {C : Addr} (h : oexB K C = true) : OexC K C := by
  obtain ⟨h1, h⟩ := He.ba h
  obtain ⟨h2, h⟩ := He.ba h
  obtain ⟨h3, h⟩ := He.ba h
  obtain ⟨h4, h5⟩ := He.ba h
  exact ⟨excB_ok h1, of_decide_eq_true h2, of_decide_eq_true h3, of_decide_eq_true h4, h5⟩
/-- the base: an own class whose __init__ is ValueError's -/
def baseB (K : PySem.W.Frag) (C : Addr) : Bool := PySem.W.readsIn K C (.type "type") && (decide (PySem.W.specialIn K (.ref C) "__getattribute__" = some (some (.builtin "type.__getattribute__"))) &&
  (match PySem.W.findCls K (.ref C) (.type "type") "__init__" with | some (.val (.builtin n)) => n == "ValueError.__init__" | _ => false))
structure BaseC (K : PySem.W.Frag) (C : Addr) : Prop where
  rd : PySem.W.readsIn K C (.type "type") = true
  ga : PySem.W.specialIn K (.ref C) "__getattribute__" = some (some (.builtin "type.__getattribute__"))
  ini : PySem.W.findCls K (.ref C) (.type "type") "__init__" = some (.val (.builtin "ValueError.__init__"))
theorem baseB_ok {K : PySem.W.Frag} {C : Addr} (h : baseB K C = true) : BaseC K C := by
  obtain ⟨h1, h⟩ := He.ba h
  obtain ⟨h2, h3⟩ := He.ba h
  refine ⟨h1, of_decide_eq_true h2, ?_⟩
  split at h3
  · rename_i n e
    rw [e, beq_iff_eq.mp h3]
  · cases h3
/-! ### Base.__init__(self, '..') -/
section
variable {X : Cx} {o e : Expr} {es : List Expr} {to te : TE} {ta : TA} {f : Str} {p p' p1 p2 pos : Pos}
theorem pe_cinit {pl : Sem Bool} {x : Str} {C0 : Addr} (hm : X.mg x = some (.ref C0)) (T0 : BaseC X.K C0) (ha : PA X (e :: es) ta) (hg : Gl X x := by rfl) (hdb : (x == ("__debug__" : Str)) = false := by decide)
    (hc : eval (.Call (.Attribute (.Name x p1) "__init__" p2) (e :: es) [] pos) X.env = (do
      let ov ← eval (.Name x p1) X.env
      standAt p2.atName
      let (f, first) ← holding [ov] (getMethod ov "__init__" pl)
      callWith pos f first (backTo pos (starEach (e :: es) X.env)) (backToKw pos (keywordEach [] X.env))) := by rfl)
    (he : starEach (e :: es) X.env = (false, eval e X.env) :: starEach es X.env := by rfl) (hpl : (backTo pos (starEach es X.env)).any (·.1) = false := by rfl) :
    PE X (.Call (.Attribute (.Name x p1) "__init__" p2) (e :: es) [] pos) (tVeI X.K ta) := by
  refine ⟨fun pins s σ H Q I h => ?_⟩
  refine PySem.W.methodCall_KW (ld_glob I hg hm ?_ hdb) hc
  refine PySem.W.method_cls I.kIn T0.ga ?_
  refine PySem.W.cls_value I.kIn T0.rd T0.ini (by decide +kernel) ?_
  show wpAny _ _ (callWith pos (Value.builtin "ValueError.__init__") [] (backTo pos (starEach (e :: es) X.env)) []) _ _ _
  refine PyProof.Rows.callWith_method1 (thn (ha.run pos pins _ σ H _ (I.tok _) h) fun us s1 ⟨vs, H1, I1, r1, a, C, ws, ev, hl, T, ea, q⟩ => ?_) he hpl
  subst ev
  cases r1 with
  | @cons _ u0 _ ur ra rw' =>
    obtain rfl : u0 = Value.ref a := ra
    have hlen : ur.length ≤ sizeLine := by
      rw [← Paired.length rw', sizeLine_eq]
      omega
    exact oinit_ok T I1 ea hlen fun s' J => ⟨.non, H1, J, rfl, q⟩
end
/-! ### the two shapes of __init__ -/
def spI0 (K : PySem.W.Frag) (C : Addr) : Sp := fun vs H Q _ => ∃ a : Addr, vs = [.ref a] ∧ OexC K C ∧ H a = some (exo a C none) ∧ Q .non H
def spI1 (K : PySem.W.Frag) (C : Addr) (f : Str) : Sp := fun vs H Q _ => ∃ (a : Addr) (v : V), vs = [.ref a, v] ∧ OexC K C ∧ H a = some (exo a C none) ∧ PySem.W.findIn K (.ref C) f = some none ∧
  ∀ dx, H dx = none → dx ≠ a → Q .non (upd (upd H dx (exd dx [(f, v)])) a (exo a C (some dx)))
section
variable {P : Program} {w : World} {K : PySem.W.Frag} {mg : Str → Option Value} {base : Heap} {C C0 f : Addr} {fd : FuncData} {qual : Str} {params : Arguments} {scope : Scope}
theorem ok_init0 {pl : Addr → Addr → Value → Sem Bool} {m : Str} {p1 p2 p3 p4 p5 p6 : Pos} {j : Nat} (F : FunD K "__init__" qual params [.Expr (.Call (.Attribute (.Name "CarryError" p1) "__init__" p2) [.Name "self" p3, .Constant (.str m) j p4] [] p5) p6] scope [] [] f fd) (sc : FnScope ["self"] ["self"] scope)
    (hm : mg "CarryError" = some (.ref C0)) (T0 : BaseC K C0) (hl : scope.names.lookup ("self" : Str) = some .local) (hg : scope.names.lookup ("CarryError" : Str) = some .globalImplicit)
    (hc : ∀ (L f : Addr) (cd : Value), eval (.Call (.Attribute (.Name "CarryError" p1) "__init__" p2) [.Name "self" p3, .Constant (.str m) j p4] [] p5) (envOfC qual scope L f cd) = (do
      let ov ← eval (.Name "CarryError" p1) (envOfC qual scope L f cd)
      standAt p2.atName
      let (g, first) ← holding [ov] (getMethod ov "__init__" (pl L f cd))
      callWith p5 g first (backTo p5 (starEach [.Name "self" p3, .Constant (.str m) j p4] (envOfC qual scope L f cd))) (backToKw p5 (keywordEach [] (envOfC qual scope L f cd))))) :
    FnOk P w K mg base (L2.CX P w) 1 f fd ["self"] (spI0 K C) := by
  refine F.ok (k := 0) sc (fun vs H Q E h => ?_) (fun cdv A outer s H vs Q E hr h => ?_)
  · obtain ⟨a, rfl, _⟩ := h
    rfl
  · obtain ⟨a, rfl, T, e, q⟩ := h
    refine ⟨_, pss_one (ps_expr (pe_cinit (C0 := C0) (x := "CarryError") hm T0 (pa_cons (pe_var (i := 0) rfl (.inl hl)) (pa_cons pe_str pa_nil)) hg (by decide) (hc _ _ _))), ?_⟩
    exact ⟨.ref a, rfl, a, C, _, rfl, (by show 1 ≤ 1000; decide), T, e, q⟩
theorem ok_init1 {pl : Addr → Addr → Value → Sem Bool} {m fl pn : Str} {p1 p2 p3 p4 p5 p6 p7 p8 p9 p10 : Pos} {j : Nat} (F : FunD K "__init__" qual params [.Expr (.Call (.Attribute (.Name "CarryError" p1) "__init__" p2) [.Name "self" p3, .Constant (.str m) j p4] [] p5) p6, .Assign [.Attribute (.Name "self" p7) fl p8] (.Name pn p9) p10] scope [] [] f fd) (sc : FnScope ["self", pn] ["self", pn] scope)
    (hm : mg "CarryError" = some (.ref C0)) (T0 : BaseC K C0) (hl : scope.names.lookup ("self" : Str) = some .local) (hl2 : scope.names.lookup pn = some .local) (hg : scope.names.lookup ("CarryError" : Str) = some .globalImplicit) (hdb2 : (pn == ("__debug__" : Str)) = false) (hdb3 : (pn == ("__classdict__" : Str)) = false)
    (hs : ∀ (L f : Addr) (cd : Value), swapsWith (.Name pn p9) (some (.Attribute (.Name "self" p7) fl p8)) p10.line (envOfC qual scope L f cd) = pure false)
    (hc : ∀ (L f : Addr) (cd : Value), eval (.Call (.Attribute (.Name "CarryError" p1) "__init__" p2) [.Name "self" p3, .Constant (.str m) j p4] [] p5) (envOfC qual scope L f cd) = (do
      let ov ← eval (.Name "CarryError" p1) (envOfC qual scope L f cd)
      standAt p2.atName
      let (g, first) ← holding [ov] (getMethod ov "__init__" (pl L f cd))
      callWith p5 g first (backTo p5 (starEach [.Name "self" p3, .Constant (.str m) j p4] (envOfC qual scope L f cd))) (backToKw p5 (keywordEach [] (envOfC qual scope L f cd))))) :
    FnOk P w K mg base (L2.CX P w) 1 f fd ["self", pn] (spI1 K C fl) := by
  refine F.ok (k := 0) sc (fun vs H Q E h => ?_) (fun cdv A outer s H vs Q E hr h => ?_)
  · obtain ⟨a, v, rfl, _⟩ := h
    rfl
  · obtain ⟨a, v, rfl, T, e, hno, q⟩ := h
    refine ⟨_, pss_cons (ps_expr (pe_cinit (C0 := C0) (x := "CarryError") hm T0 (pa_cons (pe_var (i := 0) rfl (.inl hl)) (pa_cons pe_str pa_nil)) hg (by decide) (hc _ _ _))) (pss_one (ps_ost (pe_var (i := 0) rfl (.inl hl)) (pe_var (i := 1) rfl (.inl hl2) hdb2 hdb3) (hs _ _ _))), ?_⟩
    exact ⟨.ref a, rfl, a, C, _, rfl, (by show 1 ≤ 1000; decide), T, e, v, rfl, .ref a, rfl, a, C, rfl, T, hno, .inl ⟨e, fun dx h1 h2 => q dx h1 h2⟩⟩
end
/-! ### making one -/
section
variable {X : Cx} {e : Expr} {es : List Expr} {ta : TA} {p pos : Pos}
/-- the end of C(..), the exception without a dict -/
theorem mk_end_n {pins : List (Addr × Obj)} {σ : L2.St} {H1 H2 : Hp} {Q : XK} {hp hp2 h2 : Heap} {g1 g2 : Array GenState} {d1 d2 : Drawn} {t1 t2 : Nat} {os1 os2 : OsState} {a C : Addr} (T : Raises X (.ref C)) (I1 : Inv X pins σ H1 ⟨hp, g1, d1, t1, os1⟩)
    (ha : hp.objs.size ≤ a) (k : ∀ b o, hp.get? b = some o → hp2.get? b = some o) (un : Un (frs X.stack) [] (upd H1 a (exo a C none)) H2 hp2 h2) (hok : HOk X.prog X.w H2 h2) (ho : os2 = os1) (hb : AllBare g2)
    (ea : H2 a = some (exo a C none)) (q : Q (.ref C) none (del H2 a)) : MkP X pins σ Q (.ref a) ⟨h2, g2, d2, t2, os2⟩ := by
  obtain ⟨t0, hoe⟩ := exo_at hok ea
  have hn : H1 a = none := I1.hok.fresh ha
  obtain ⟨G, g1', g2'⟩ := restrict h2 fun b => decide (b ≠ a)
  have gk : ∀ b, b ≠ a → G.get? b = h2.get? b := fun b hb => g1' b (decide_eq_true hb)
  have ge : G.get? a = none := g2' a (by simp)
  have nha : ∀ {b : Addr} {o : Obj}, hp.get? b = some o → b ≠ a := fun {b o} z => Nat.ne_of_lt (Nat.lt_of_lt_of_le (Heap.lt_size z) ha)
  have up : ∀ {b : Addr}, b ≠ a → H1 b = none → upd H1 a (exo a C none) b = none := fun {b} hb n => by rw [upd_ne hb]; exact n
  have U : Un (frs X.stack) [] H1 (del H2 a) hp G := {
    keep := fun b o z n hf hx => by
      rw [gk b (nha z)]
      exact un.keep b o (k b o z) (up (nha z) n) hf hx
    slot := fun b o z n hf hx => by
      rw [gk b (nha z)]
      exact un.slot b o (k b o z) (up (nha z) n) hf hx
    free := fun b o z n hx => by
      rw [del_ne (nha z)]
      exact un.free b o (k b o z) (up (nha z) n) hx
    there := fun b o z hx => by
      rw [gk b (nha z)]
      exact un.there b o (k b o z) hx
    tups := fun b xs z => by
      rw [del_ne (ne_of_none z hn)]
      exact un.tups b xs (by rw [upd_ne (ne_of_none z hn)]; exact z)
    frzs := fun b o v z => by
      rw [del_ne (ne_of_none z hn)]
      exact un.frzs b o v (by rw [upd_ne (ne_of_none z hn)]; exact z)
    tbls := fun b ps z => by
      rw [del_ne (ne_of_none z hn)]
      exact un.tbls b ps (by rw [upd_ne (ne_of_none z hn)]; exact z) }
  have hok3 : HOk X.prog X.w (del H2 a) G := fun b o z => by
    have hba : b ≠ a := fun e => by
      rw [e, del_same] at z
      cases z
    rw [del_ne hba] at z
    have noa : ∀ {c : Addr}, H2 c = some (.own b) → c ≠ a := fun {c} hc => at_ne ea hc exo_own
    exact (hok b o z).stay (fun c v hc y => by
        have hca : c ≠ a := by
          rcases hc with hc | hc
          · rw [hc]
            exact hba
          · exact noa hc
        rw [gk c hca]
        exact y)
      (fun c hc => by rw [del_ne (noa hc)]; exact hc) (fun c xs hc => by rw [del_ne (at_ne ea hc exo_tup)]; exact hc)
  have J : Inv X pins σ (del H2 a) ⟨G, g2, d2, t2, os2⟩ := I1.call' (ch := []) ho U hok3 hb (fun b z => absurd z (by simp))
  refine ⟨a, _, _, ⟨G, g2, d2, t2, os2⟩, _, .ref C, none, rfl, J, fun b o z => ?_, ge, hoe, ⟨rfl, rfl⟩, rfl, rfl, del_same, rfl, hb, T, q⟩
  by_cases hba : b = a
  · rw [hba, ge] at z
    cases z
  · exact (gk b hba).symm.trans z
theorem del_upd {H : Hp} {a : Addr} {o : HO} (h : H a = none) : del (upd H a o) a = H := by
  funext b
  by_cases hb : b = a
  · rw [hb, del_same, h]
  · rw [del_ne hb, upd_ne hb]
/-- C(), its __init__ of the first shape -/
theorem pmk_o0 {x : Str} {C fI : Addr} {k : Nat} {fd : FuncData} (T : OexC X.K C) (iC : PySem.W.findIn X.K (.ref C) "__init__" = some (some (.ref fI))) (tI : PySem.W.typeIn X.K (.ref fI) = some (.type "function"))
    (F1 : FnOk X.prog X.w X.K X.mg X.base (L2.CX X.prog X.w) k fI fd ["self"] (spI0 X.K C)) (hr : Room (k + 1) X.A) (hb : Binds X.K fd ["self"] []) (hm : X.mg x = some (.ref C)) (hg : Gl X x := by rfl)
    (hdb : (x == ("__debug__" : Str)) = false := by decide) :
    PMk X (.Call (.Name x p) [] [] pos) (fun _ H Q => Q (.ref C) none H) := by
  intro pins s σ H Q I h
  obtain ⟨nm, q, N, bs, bm, sn, sub, ab, col, dd, k0, k1, k2, k3, k5, hC, hbm⟩ := T.cls
  refine wpAny_Call_Name_kw (ld_glob I hg hm ?_ hdb)
  refine PySem.W.callWith_K0 I.kIn T.kC ?_
  show wpAny _ _ (call (.ref C) []) _ _ _
  obtain ⟨hp, g, dr, tk, os⟩ := s
  have hsz : hp.objs.size ≤ hp.objs.size + 1 := Nat.le_succ _
  have hn : H (hp.objs.size + 1) = none := I.hok.fresh hsz
  have kk : ∀ b o, hp.get? b = some o → ((hp.push (PySem.W.kdv_tup [])).push (PySem.HandSPX.excO C hp.objs.size)).get? b = some o := fun b o e => Heap.get?_push_of_some _ (Heap.get?_push_of_some _ e)
  have hget : ((hp.push (PySem.W.kdv_tup [])).push (PySem.HandSPX.excO C hp.objs.size)).get? (hp.objs.size + 1) = some (PySem.HandSPX.excO C hp.objs.size) := by heap_get
  have I2 : Inv X pins σ (upd H (hp.objs.size + 1) (exo (hp.objs.size + 1) C none)) ⟨(hp.push (PySem.W.kdv_tup [])).push (PySem.HandSPX.excO C hp.objs.size), g, dr, tk, os⟩ :=
    I.laid (t' := tk) (a := hp.objs.size + 1) (o := exo (hp.objs.size + 1) C none) (h' := (hp.push (PySem.W.kdv_tup [])).push (PySem.HandSPX.excO C hp.objs.size)) kk hsz (exo_ok hget)
  have hq : spI0 X.K C [.ref (hp.objs.size + 1)] (upd H (hp.objs.size + 1) (exo (hp.objs.size + 1) C none)) (fun v H2 => v = .non ∧ H2 (hp.objs.size + 1) = some (exo (hp.objs.size + 1) C none) ∧ Q (.ref C) none (del H2 (hp.objs.size + 1))) (fun _ _ _ => False) :=
    ⟨_, rfl, T, upd_same, rfl, upd_same, by rw [del_upd hn]; exact h⟩
  refine wpAny_call (PySem.HandSPX.call_own F.excBase_ValueError (fun Y => PySem.HandSPX.refsVE_contains Y bm hbm) (I.kIn _ _ hC) (PySem.W.looks_findIn I.kIn iC) (fun self => PySem.W.bind_fn I.kIn self tI) (Nat.zero_le _)
    (codeAny_mono (F1.run _ X.stack _ _ ⟨[Value.ref (hp.objs.size + 1)], []⟩ [Value.ref (hp.objs.size + 1)] _ _ (fun _ _ _ => False) (hr.make C [] []) (I2.env0.make C [] []) (hb _ [Value.ref (hp.objs.size + 1)] I2.kIn rfl) (Paired.cons (show RelV (.ref (hp.objs.size + 1)) (Value.ref (hp.objs.size + 1)) from rfl) .nil) hq) fun r s' hq' => ?_))
  cases r with
  | error er =>
    obtain ⟨_, _, _, _, _, _, _, _, _, _, _, _, f⟩ := hq'
    exact f.elim
  | ok fl =>
    cases fl with
    | ret u =>
      obtain ⟨v, H2, os2, bare2, un2, hok2, rv, ev, ea, q2⟩ := hq'
      subst ev
      obtain ⟨h2, g2, d2, t2, os'⟩ := s'
      exact ⟨rv, mk_end_n (raises_own T.exC T.tyC) I hsz kk un2 hok2 os2 bare2 ea q2⟩
    | next => exact False.elim hq'
    | brk => exact False.elim hq'
    | cont => exact False.elim hq'
end
/-! ### specs, calls -/
/-- what a def does: the state, the arguments, what is wanted of an answer, of an exception -/
structure Spec where
  s : Hp → OW → List D → (Hp → OW → D → Prop) → (Hp → OW → Value → List (Str × D) → Prop) → Prop
  mono : ∀ F O ds RT XC RT' XC', (∀ F2 O2 d, Same F F2 → RT F2 O2 d → RT' F2 O2 d) → (∀ F2 O2 c fs, Same F F2 → XC F2 O2 c fs → XC' F2 O2 c fs) → s F O ds RT XC → s F O ds RT' XC'
def spD (K : PySem.W.Frag) (S : Spec) : Sp := fun vs H Q E => ∃ F O ds, StA K F O H ∧ IsAll K F vs ds ∧ S.s F O ds
  (fun F2 O2 d => Same F F2 → ∀ v H2, StA K F2 O2 H2 → Is K F2 v d → Q v H2)
  (fun F2 O2 cls fs => Same F F2 → ∀ dd H2, StA K F2 O2 H2 → FldOk K F2 dd fs → E cls dd H2)
/-- an answer, or an exception of a class (by its name) with its fields -/
inductive Res where
  | ret (d : D)
  | exc (x : Str) (fs : List (Str × D))
def outS (mg : Str → Option Value) (r : Res) (F : Hp) (O : OW) (RT : Hp → OW → D → Prop) (XC : Hp → OW → Value → List (Str × D) → Prop) : Prop := match r with
  | .ret d => ∀ F2, Same F F2 → RT F2 O d
  | .exc x fs => ∀ F2 c, Same F F2 → mg x = some c → XC F2 O c fs
theorem outS.mono {mg : Str → Option Value} {r : Res} {F : Hp} {O : OW} {RT RT' : Hp → OW → D → Prop} {XC XC' : Hp → OW → Value → List (Str × D) → Prop} (h1 : ∀ F2 O2 d, Same F F2 → RT F2 O2 d → RT' F2 O2 d)
    (h2 : ∀ F2 O2 c fs, Same F F2 → XC F2 O2 c fs → XC' F2 O2 c fs) (h : outS mg r F O RT XC) : outS mg r F O RT' XC' := by
  cases r with
  | ret d => exact fun F2 e => h1 _ _ _ e (h F2 e)
  | exc x fs => exact fun F2 c e m => h2 _ _ _ _ e (h F2 c e m)
/-- the usual spec: mathematical arguments g, what they are as data, when the def may be called, what it leaves of the own objects, what it answers -/
def mkS (mg : Str → Option Value) {G : Type} (args : G → List D) (pre : G → OW → Prop) (post : G → OW → OW) (res : G → Res) : Spec where
  s := fun F O ds RT XC => ∃ g, ds = args g ∧ pre g O ∧ outS mg (res g) F (post g O) RT XC
  mono := fun F O ds RT XC RT' XC' h1 h2 ⟨g, e, p, o⟩ => ⟨g, e, p, o.mono h1 h2⟩
/-- .. of a def that changes nothing -/
abbrev puS (mg : Str → Option Value) {G : Type} (args : G → List D) (pre : G → Prop) (res : G → Res) : Spec := mkS mg args (fun g _ => pre g) (fun _ O => O) res
/-- a def at work, by its address: its level, its parameters, its spec -/
def Fa (P : Program) (w : World) (K : PySem.W.Frag) (mg : Str → Option Value) (base : Heap) (f : Addr) (k : Nat) (ps : List Str) (S : Spec) : Prop :=
  ∃ fd, FnOk P w K mg base (L2.CX P w) k f fd ps (spD K S) ∧ PySem.W.keepIn K (.ref f) = true ∧ Binds K fd ps []
theorem Fa.mono {P : Program} {w : World} {K : PySem.W.Frag} {mg : Str → Option Value} {base : Heap} {f : Addr} {k k' : Nat} {ps : List Str} {S : Spec} (h : Fa P w K mg base f k ps S) (hk : k ≤ k') : Fa P w K mg base f k' ps S := by
  obtain ⟨fd, a, b, c⟩ := h
  exact ⟨fd, a.mono hk, b, c⟩
/-- .. by its module's name -/
def Fc (P : Program) (w : World) (K : PySem.W.Frag) (mg : Str → Option Value) (base : Heap) (x : Str) (k : Nat) (ps : List Str) (S : Spec) : Prop :=
  ∃ f, mg x = some (.ref f) ∧ Fa P w K mg base f k ps S
section
variable {X : Cx} {Z : ZP} {F : Hp} {O : OW} {ρ : Rho}
/-- the promise, at a call -/
theorem spD_at {S : Spec} {F1 : Hp} {O1 : OW} {H1 : Hp} {vs : List V} {ds : List D} {σ : L2.St} {P : Hp → OW → D → Prop} {Q : VK} (S1 : Sta X.K F1 O1 ρ σ H1) (r1 : IsAll X.K F1 vs ds) (h : S.s F1 O1 ds P fun F2 O2 cls fs => Z F2 O2 ρ cls fs)
    (q : ∀ F2 O2 H2 v d, Same F1 F2 → Sta X.K F2 O2 ρ σ H2 → Is X.K F2 v d → P F2 O2 d → Q v H2) : spD X.K S vs H1 Q (WE (wz X.K F1 Z) σ) :=
  ⟨F1, O1, ds, S1.a, r1, S.mono _ _ _ _ _ _ _ (fun F2 O2 d e p e' v H2 S2 r2 => q F2 O2 H2 v d e ⟨S2, S1.sig.mono e⟩ r2 p)
    (fun F2 O2 c fs e z e' dd H2 S2 f2 => ⟨F2, O2, ρ, fs, e, ⟨S2, S1.sig.mono e⟩, f2, z⟩) h⟩
theorem WE_mono {F F1 : Hp} {σ : L2.St} {c : Value} {d : Option Addr} {H : Hp} (e : Same F F1) (h : WE (wz X.K F1 Z) σ c d H) : WE (wz X.K F Z) σ c d H := by
  obtain ⟨F2, O, ρ, fs, a, b⟩ := h
  exact ⟨F2, O, ρ, fs, e.trans a, b⟩
theorem spD_E {K : PySem.W.Frag} {S : Spec} {vs : List V} {H : Hp} {Q : VK} {E E' : XK} (i : ∀ c d H, E c d H → E' c d H) (h : spD K S vs H Q E) : spD K S vs H Q E' := by
  obtain ⟨F, O, ds, a, b, c⟩ := h
  exact ⟨F, O, ds, a, b, S.mono _ _ _ _ _ _ _ (fun _ _ _ _ p => p) (fun F2 O2 c fs e z e' dd H2 S2 f2 => i _ _ _ (z e' dd H2 S2 f2)) c⟩
theorem evp_call {x : Str} {k k' : Nat} {ps : List Str} {S : Spec} {e : Expr} {es : List Expr} {p pos : Pos} {P : Hp → OW → D → Prop} (G : Fc X.prog X.w X.K X.mg X.base x k ps S) (hr : Room k' X.A) (hk : k ≤ k')
    (h : ArP X Z (e :: es) F O ρ fun F1 O1 ds => S.s F1 O1 ds P fun F2 O2 cls fs => Z F2 O2 ρ cls fs) (hg : Gl X x := by rfl)
    (hdb : (x == ("__debug__" : Str)) = false := by decide) (he : starEach (e :: es) X.env = (false, eval e X.env) :: starEach es X.env := by rfl) (hpl : (backTo pos (starEach es X.env)).any (·.1) = false := by rfl) :
    EvP X Z (.Call (.Name x p) (e :: es) [] pos) F O ρ P := by
  obtain ⟨f, gm, fd, Fn, kp, bn⟩ := G
  refine .mk fun T σ H S0 Q q => canE_of (pe_callS Fn (hr.mono hk) hg gm kp bn (fun σ => passAt T σ) pa_can hdb he hpl) ?_
  exact h T σ H S0 _ fun F1 O1 H1 vs ds e1 S1 r1 hs => spD_E (fun _ _ _ => WE_mono e1) (spD_at S1 r1 hs fun F2 O2 H2 v d e2 => q F2 O2 H2 v d (e1.trans e2))
/-- a def's body -/
theorem fn_ok {P : Program} {w : World} {K : PySem.W.Frag} {mg : Str → Option Value} {base : Heap} {x qual : Str} {params : Arguments} {body : List Stmt} {scope : Scope} {f : Addr} {fd : FuncData} {N ps : List Str} {k : Nat} {S : Spec}
    (Fn : FunD K x qual params body scope [] [] f fd) (sc : FnScope N ps scope) (len : ∀ F O ds RT XC, S.s F O ds RT XC → ds.length = ps.length)
    (hb : ∀ (cdv : Value) (A : Around) (outer : List Env) (s : Shared) (H : Hp) (E : XK) (F : Hp) (O : OW) (ds : List D) (RT : Hp → OW → D → Prop) (XC : Hp → OW → Value → List (Str × D) → Prop),
      Room k (A.deeper (envOfC qual scope s.heap.objs.size f cdv)) → S.s F O ds RT XC →
      WpS (cxOf (L2.CX P w) P w K mg base N qual scope f cdv A outer s H E) (fun F2 O2 _ c fs => XC F2 O2 c fs) body F O (ds.map some ++ List.replicate (N.length - ds.length) none) { nx := fun F2 O2 _ => RT F2 O2 .non, rt := RT }) :
    FnOk P w K mg base (L2.CX P w) (k + 1) f fd ps (spD K S) := by
  refine Fn.ok sc (fun vs H Q E h => ?_) (fun cdv A outer s H vs Q E hr h => ?_)
  · obtain ⟨F, O, ds, a, b, c⟩ := h
    rw [b.length]
    exact len _ _ _ _ _ c
  · obtain ⟨F, O, ds, a, b, c⟩ := h
    refine ⟨_, pss_can, hb cdv A outer s H E F O ds _ _ hr c ?_ _ H ⟨a, ?_⟩ _ ⟨?_, ?_, ?_, ?_⟩⟩
    · refine Takes.imp (takes_of rfl rfl rfl rfl) ?_
      rintro cls d σ H2 ⟨F2, O2, ρ2, fs, e, S2, f2, z⟩
      exact z e d H2 S2.a f2
    · have hl := b.length
      unfold L2.start
      refine ⟨by simp only [List.length_append, List.length_map, List.length_replicate, hl], fun i d q => ?_⟩
      by_cases hi : i < ds.length
      · rw [List.getElem?_append_left (by rw [List.length_map]; exact hi), List.getElem?_map] at q
        cases qd : ds[i]? with
        | none => rw [qd] at q; cases q
        | some d' =>
          rw [qd] at q
          cases q
          obtain ⟨v, hv, r⟩ := b.get qd
          refine ⟨v, ?_, r⟩
          rw [List.getElem?_append_left (by rw [List.length_map, hl]; exact hi), List.getElem?_map, hv]
          rfl
      · rw [List.getElem?_append_right (by rw [List.length_map]; omega), List.getElem?_replicate] at q
        split at q
        · cases q
        · cases q
    · exact fun F2 O2 ρ2 σ H2 e S2 p => p e .non H2 S2.a .non
    · exact fun F2 O2 v d H2 e S2 r p => p e v H2 S2 r
    · exact fun _ _ _ _ _ _ _ p => p.elim
    · exact fun _ _ _ _ _ _ _ p => p.elim
theorem fc_mk {P : Program} {w : World} {K : PySem.W.Frag} {mg : Str → Option Value} {base : Heap} {x qual : Str} {params : Arguments} {body : List Stmt} {scope : Scope} {f : Addr} {fd : FuncData} {ps : List Str} {k : Nat} {S : Spec}
    (Fn : FunD K x qual params body scope [] [] f fd) (gm : mg x = some (.ref f)) (ok : FnOk P w K mg base (L2.CX P w) k f fd ps (spD K S))
    (hb : ∀ (kV doc pm : Value) (an : Option Addr) (cdv ct : Value) (us : List Value), us.length = ps.length → bindArgs (PySem.W.fnOf x qual params body scope .none kV doc pm an cdv ct) ⟨us, []⟩ = pure (ps.zip us)) : Fc P w K mg base x k ps S :=
  ⟨f, gm, fd, ok, Fn.kp, Fn.bindsN hb⟩
end
/-! ### raise -/
/-- an own exception's class at work, its __init__ of the first, of the second shape -/
structure Ec0 (P : Program) (w : World) (K : PySem.W.Frag) (mg : Str → Option Value) (base : Heap) (x : Str) : Prop where
  ex : ∃ C fI fd, OexC K C ∧ mg x = some (.ref C) ∧ PySem.W.findIn K (.ref C) "__init__" = some (some (.ref fI)) ∧ PySem.W.typeIn K (.ref fI) = some (.type "function") ∧
    FnOk P w K mg base (L2.CX P w) 1 fI fd ["self"] (spI0 K C) ∧ Binds K fd ["self"] []
structure Ec1 (P : Program) (w : World) (K : PySem.W.Frag) (mg : Str → Option Value) (base : Heap) (x f : Str) : Prop where
  ex : ∃ C fI fd, OexC K C ∧ mg x = some (.ref C) ∧ PySem.W.findIn K (.ref C) "__init__" = some (some (.ref fI)) ∧ PySem.W.typeIn K (.ref fI) = some (.type "function") ∧
    FnOk P w K mg base (L2.CX P w) 1 fI fd ["self", f] (spI1 K C f) ∧ Binds K fd ["self", f] [] ∧ PySem.W.findIn K (.ref C) f = some none
section
variable {X : Cx} {Z : ZP} {F : Hp} {O : OW} {ρ : Rho}
theorem wp_raise0 {x : Str} {p pos pos2 : Pos} {k : Nat} {N : Post} (G : Ec0 X.prog X.w X.K X.mg X.base x) (hr : Room k X.A) (hk : 2 ≤ k) (hc : X.calm = true) (h : ∀ c, X.mg x = some c → Z F O ρ c []) (hg : Gl X x := by rfl) (hdb : (x == ("__debug__" : Str)) = false := by decide) :
    Wp1 X Z (.Raise (some (.Call (.Name x p) [] [] pos)) none pos2) F O ρ N := by
  obtain ⟨C, fI, fd, T, gm, iC, tI, Fn, bn⟩ := G.ex
  exact .mk fun Tk σ H S D E => canS_of (ps_raise hc Tk (pmk_o0 T iC tI Fn (hr.mono hk) bn gm hg hdb)) ⟨F, O, ρ, [], Same.refl _, S, .inl ⟨rfl, rfl⟩, h _ gm⟩
theorem wp_raise1 {x f : Str} {e : Expr} {p pos pos2 : Pos} {k : Nat} {N : Post} (G : Ec1 X.prog X.w X.K X.mg X.base x f) (hr : Room k X.A) (hk : 2 ≤ k) (hc : X.calm = true)
    (h : EvP X Z e F O ρ fun F1 O1 d => ∀ F2 c, Same F1 F2 → X.mg x = some c → Z F2 O1 ρ c [(f, d)]) (hg : Gl X x := by rfl) (hdb : (x == ("__debug__" : Str)) = false := by decide)
    (he : starEach [e] X.env = (false, eval e X.env) :: starEach [] X.env := by rfl) (hpl : (backTo pos (starEach [] X.env)).any (·.1) = false := by rfl) :
    Wp1 X Z (.Raise (some (.Call (.Name x p) [e] [] pos)) none pos2) F O ρ N := by
  obtain ⟨C, fI, fd, T, gm, iC, tI, Fn, bn, nf⟩ := G.ex
  refine .mk fun Tk σ H S D E => canS_of (ps_raise hc Tk (pmk_oex (dvs := []) T iC tI Fn (hr.mono hk) bn .nil passL hg gm (pa_cons pe_can pa_nil he) hdb he hpl)) ?_
  refine h Tk σ H S _ fun F1 O1 H1 v d e1 S1 r1 z => ⟨by show 1 ≤ 1000; decide, fun a ha => ?_⟩
  refine ⟨a, v, rfl, T, upd_same, nf, fun dx h1 h2 => ⟨rfl, dx, [(f, v)], upd_same, by rw [upd_ne h2, upd_same], ?_, ?_⟩⟩
  · rw [upd_ne h2] at h1
    exact h1
  · rw [upd_ne h2] at h1
    have eh : upd (del (upd (upd (upd H1 a (exo a C none)) dx (exd dx [(f, v)])) a (exo a C (some dx))) a) dx (.xd [(f, v)]) = upd H1 dx (.xd [(f, v)]) := by
      funext b
      by_cases hb : b = dx
      · rw [hb, upd_same, upd_same]
      · rw [upd_ne hb, upd_ne hb]
        by_cases hba : b = a
        · rw [hba, del_same, ha]
        · rw [del_ne hba, upd_ne hba, upd_ne hb, upd_ne hba]
    have e2 : Same F1 (upd F1 dx (.xd [(f, v)])) := same_new (S1.a.neF h1)
    have z2 := z _ _ e2 gm
    rw [eh]
    exact ⟨_, O1, ρ, _, e1.trans e2, ⟨S1.a.new h1, S1.sig.mono e2⟩, .inr ⟨dx, _, rfl, upd_same, .cons (r1.mono e2) .nil⟩, z2⟩
end
end CR
/-! try with several clauses, each with a name or without one; the field of a caught error. -/
namespace CR
open PySem PySem.Spec PyProof.Rows L2
structure Cl where
  c : Value
  i : Option Nat
  ts : Addr → Value → Option Addr → TS
def clEnds (i : Option Nat) (D : Ends) : Ends := match i with
  | none => D
  | some i => { nx := fun σ H => D.nx (σ.set i none) H, rt := D.rt, bk := fun σ H => D.bk (σ.set i none) H, ct := fun σ H => D.ct (σ.set i none) H }
def clSlots (i : Option Nat) (a : Addr) (σ : L2.St) : L2.St := match i with
  | none => σ
  | some i => σ.set i (some (.ref a))
def wCl (K : PySem.W.Frag) (Wo : WX) (D : Ends) : List Cl → WX
  | [] => Wo
  | q :: r => fun cls d σ H => ∃ b, PySem.W.exmOne K cls q.c = some b ∧ (b = true → ∀ a, H a = none → q.ts a cls d (clEnds q.i D) (clSlots q.i a σ) H) ∧ (b = false → wCl K Wo D r cls d σ H)
inductive ClsOk (X : Cx) : List ExceptHandler → List Cl → Prop
  | nil : ClsOk X [] []
  | bare {x : Str} {c : Value} {ts : Addr → Value → Option Addr → TS} {b₀ : Stmt} {b : List Stmt} {np p : Pos} {hs : List ExceptHandler} {l : List Cl} (hc : Names X x c)
      (hb : ∀ (a : Addr) (oe : Obj) (cls : Value) (d : Option Addr) (pn : List (Addr × Obj)), Zc cls d oe → (∃ vs, oe.data = .fields vs) → PSs (X.suite a ((a, oe) :: pn)) (b₀ :: b) (ts a cls d)) (r : ClsOk X hs l) :
      ClsOk X (.ExceptHandler (some (.Name x np)) none (b₀ :: b) p :: hs) (⟨c, none, ts⟩ :: l)
  | named {x n : Str} {c : Value} {i : Nat} {ts : Addr → Value → Option Addr → TS} {b₀ : Stmt} {b : List Stmt} {np p : Pos} {hs : List ExceptHandler} {l : List Cl} (hc : Names X x c) (hN : X.N.Nodup) (hi : X.N[i]? = some n) (hl : X.env.kindOf n = some .local)
      (hb : ∀ (a : Addr) (oe : Obj) (cls : Value) (d : Option Addr) (pn : List (Addr × Obj)), Zc cls d oe → (∃ vs, oe.data = .fields vs) → PSs (X.suite a ((a, oe) :: pn)) (b₀ :: b) (ts a cls d)) (r : ClsOk X hs l) :
      ClsOk X (.ExceptHandler (some (.Name x np)) (some n) (b₀ :: b) p :: hs) (⟨c, some i, ts⟩ :: l)
section
variable {X : Cx}
/-- the suite's end, without and with a name that goes -/
theorem end_bare {pins : List (Addr × Obj)} {a : Addr} {q : Addr × Obj} {D : Ends} {f : Flow} {s : Shared} (ok : X.Ok) (h : SP (X.suite a (q :: (X.pn ++ pins))) [] D f s) : SP X pins D f s := by
  cases f with
  | next => obtain ⟨σ, H, J, k⟩ := h; exact ⟨σ, H, J.unsuite ok, k⟩
  | brk => obtain ⟨σ, H, J, k⟩ := h; exact ⟨σ, H, J.unsuite ok, k⟩
  | cont => obtain ⟨σ, H, J, k⟩ := h; exact ⟨σ, H, J.unsuite ok, k⟩
  | ret u => obtain ⟨v, σ, H, J, r, k⟩ := h; exact ⟨v, σ, H, J.unsuite ok, r, k⟩
/-- the clauses, one after another, for an exception that has landed -/
theorem cls_run {pins : List (Addr × Obj)} {D : Ends} {Wo : WX} {a : Addr} {B : Heap} {sI s' : Shared} {σ : L2.St} {H : Hp} {cls : Value} {d : Option Addr} {h3 : Heap} (hs : X.stack = X.env :: X.outer) (hf : X.env.frame = some X.env.locals) (tk : Takes X Wo)
    (J : Inv X pins σ H sI) (nb : ∀ b o, sI.heap.get? b = some o → b ∉ frs X.stack → B.get? b = some o) (up : sI.heap.UpToSlots h3) (os : s'.os = sI.os) (ag : AllBare s'.gens) (na : H a = none)
    (fl : HandSPX.FlyingZ B (X.env :: X.outer) a (Zc cls d) h3) : ∀ {hl : List ExceptHandler} {l : List Cl}, ClsOk X hl l → wCl X.K Wo D l cls d σ H →
      wpAny (model X.prog X.w) X.A (handleBy (.ref a) X.env hl) (SP X pins D) X.xe { s' with heap := h3 } := by
  have ok := J.ok
  have J3 : Inv X pins σ H { s' with heap := h3 } := J.landed nb fl.1 up os ag
  obtain ⟨o3, v3, a3, z3, d3⟩ := fl.there
  have nfr : a ∉ frs (X.env :: X.outer) := fun hm => by
    obtain ⟨_, o', e', hnf⟩ := fl.2.2.1.mem hm
    rw [a3] at e'; cases e'
    exact hnf _ d3
  have nL : a ≠ X.env.locals := fun z => nfr (List.mem_filterMap.mpr ⟨X.env, List.mem_cons_self, by rw [hf, z]⟩)
  have nF : a ∉ X.fs := fun hm => by
    obtain ⟨e, he, q⟩ := List.mem_filterMap.mp hm
    exact nfr (List.mem_filterMap.mpr ⟨e, List.mem_cons_of_mem _ he, q⟩)
  have S3 := J3.suite a3 d3 na nL nF
  have test : ∀ {x : Str} {c : Value} {np : Pos} {Q : Value → Shared → Prop} {E : Value → Shared → Prop}, Names X x c → Q c { s' with heap := h3 } → wpAny (model X.prog X.w) (X.A.mark (some (.ref a))) (eval (.Name x np) X.env) Q E { s' with heap := h3 } := by
    intro x c np Q E hc q
    rcases hc with ⟨hg, hb, hm | ⟨hm, hv, hn⟩⟩
    · exact ld_glob (X := X.suite a ((a, o3) :: (X.pn ++ pins))) S3 hg hm q hb
    · exact ld_blt (X := X.suite a ((a, o3) :: (X.pn ++ pins))) S3 hg hm hv q hn hb
  have kind : PySem.W.Looks (model X.prog X.w) h3 (typeOf (.ref a)) cls := fun A Q E s k q => wpAny_typeOf_ref (k _ _ a3) (by rw [z3.1]; exact q)
  intro hl l hk
  induction hk with
  | nil =>
    intro w
    refine wpAny_handleBy_nil ?_
    obtain ⟨_, _, _, oe, vs, T, oT, ts', he, hz, hd, h1, hr⟩ := id fl
    unfold PySem.passOn
    refine wpAny_bind (wpAny_field he hd h1 ?_)
    rw [if_neg (by simp : ¬ ((Value.ref T == Value.none) = true))]
    have out : wpAny (model X.prog X.w) X.A (setFlight (.ref a) X.env.frame) (fun _ s4 => wpAny (model X.prog X.w) X.A (throw (.ref a) : Sem Flow) (SP X pins D) X.xe s4) X.xe { s' with heap := h3 } := by
      rw [hf]
      exact HandSPX.setFlight_upZ fl fun h4 hh4 up4 => wpAny_throw (tk _ _ ⟨a, B, sI, pins, σ, H, cls, d, rfl, J, nb, up.trans up4, .inr (.inr (by rw [hs]; exact hh4)), na, os, ag, w⟩)
    first
      | exact wpAny_bind (wpAny_pure (wpAny_bind out))
      | exact wpAny_bind out
  | @bare x c ts b₀ b np p hs2 l2 hc hb r ih =>
    rintro ⟨t, ht, yes, no⟩
    refine wpAny_handleBy_cons (codeAny_handlers_test ?_) (by intro q; cases q)
    refine test hc ((PySem.W.exm_one (M := model X.prog X.w) J3.kIn kind ht).here ?_)
    cases t with
    | false => exact ih (no rfl)
    | true =>
      refine codeAny_handlers_suite (HandSPX.lands_againZ fl fun h4 fl4 up4 => ?_)
      have J4 : Inv X pins σ H { s' with heap := h4 } := J.landed nb fl4.1 (up.trans up4) os ag
      obtain ⟨o4, v4, a4, z4, d4⟩ := fl4.there
      exact wpAny_mono ((hb a o4 cls d (X.pn ++ pins) z4 ⟨_, d4⟩).run [] _ _ H _ (J4.suite a4 d4 na nL nF) (yes rfl a na)) (fun f s6 k => end_bare ok k) (fun _ _ z => z.elim)
  | @named x n c i ts b₀ b np p hs2 l2 hc hN hi hln hb r ih =>
    rintro ⟨t, ht, yes, no⟩
    refine wpAny_handleBy_cons (codeAny_handlers_test ?_) (by intro q; cases q)
    refine test hc ((PySem.W.exm_one (M := model X.prog X.w) J3.kIn kind ht).here ?_)
    cases t with
    | false => exact ih (no rfl)
    | true =>
      refine codeAny_handlers_suite_as (HandSPX.lands_againZ fl fun h4 fl4 up4 => ?_)
      have J4 : Inv X pins σ H { s' with heap := h4 } := J.landed nb fl4.1 (up.trans up4) os ag
      obtain ⟨o4, v4, a4, z4, d4⟩ := fl4.there
      refine store_ok (X := X.suite a ((a, o4) :: (X.pn ++ pins))) (v := .ref a) (J4.suite a4 d4 na nL nF) hN hi (.inl hln) rfl (fun s5 S5 => ?_) (.inr hln)
      refine wpAny_mono ((hb a o4 cls d (X.pn ++ pins) z4 ⟨_, d4⟩).run [] s5 _ H _ S5 (yes rfl a na)) (fun f s6 k => ?_) (fun _ _ z => z.elim)
      have gone : ∀ {σ6 : L2.St} {H6 : Hp} {R : Shared → Prop}, Inv (X.suite a ((a, o4) :: (X.pn ++ pins))) [] σ6 H6 s6 → (∀ s7, Inv X pins (σ6.set i none) H6 s7 → R s7) →
          wpAny (model X.prog X.w) X.A (do bindName X.env n .none; unbindBehindTheSuite X.env n p) (fun _ s7 => R s7) X.xe s6 := fun S6 hq => gone_ok (S6.unsuite ok) hN hi hln hq
      cases f with
      | next => obtain ⟨σ6, H6, S6, q6⟩ := k; exact gone S6 fun s7 J7 => ⟨_, _, J7, q6⟩
      | brk => obtain ⟨σ6, H6, S6, q6⟩ := k; exact gone S6 fun s7 J7 => ⟨_, _, J7, q6⟩
      | cont => obtain ⟨σ6, H6, S6, q6⟩ := k; exact gone S6 fun s7 J7 => ⟨_, _, J7, q6⟩
      | ret u => obtain ⟨v6, σ6, H6, S6, r6, q6⟩ := k; exact gone S6 fun s7 J7 => ⟨_, _, _, J7, r6, q6⟩
theorem ps_try_cls {body : List Stmt} {h₀ : ExceptHandler} {hds : List ExceptHandler} {l : List Cl} {pos : Pos} {tb : WX → TS} {Wo : WX} (hs : X.stack = X.env :: X.outer) (hf : X.env.frame = some X.env.locals) (tk : Takes X Wo)
    (hb : ∀ (W : WX) (pn : List (Addr × Obj)) (xe : Value → Shared → Prop), Takes (X.tr pn xe) W → PassesOwn (model X.prog X.w) X.A X.env xe → PSs (X.tr pn xe) body (tb W)) (hh : ClsOk X (h₀ :: hds) l) :
    PS X (.Try body (h₀ :: hds) [] [] pos) (fun D σ H => tb (wCl X.K Wo D l) D σ H) := by
  refine ⟨fun pins s σ H D I h => wpAny_Try_except ?_⟩
  have ok := I.ok
  have hfr : X.A.frames = some (X.env :: X.outer) := by rw [ok.frames, hs]
  refine wpAny_mono ((hb (wCl X.K Wo D l) (X.pn ++ pins) (fun e s₁ => wpAny (model X.prog X.w) X.A (noteFrame e X.env) (fun _ s₂ => wpAny (model X.prog X.w) X.A (setFlight e none) (fun _ s₃ =>
    wpAny (model X.prog X.w) X.A (handleBy e X.env (h₀ :: hds)) (SP X pins D) X.xe s₃) X.xe s₂) X.xe s₁) (fun u s' xx => ?_) PassesOwn.looking).run [] s σ H D (I.toTry _) h) (fun f s1 k => ?_) (fun e s1 he => he)
  · obtain ⟨a, B, sI, pins', σ', H', cls, d, rfl, J', nb, up, sky, na, os, ag, w⟩ := xx
    rw [show (X.tr (X.pn ++ pins) _).stack = X.env :: X.outer from hs] at sky
    exact Sky.land Zc.steady hfr hf sky fun h3 fl3 up3 => cls_run hs hf tk (J'.ofTry ok) nb (up.trans up3) os ag na fl3 hh w
  · cases f with
    | next => obtain ⟨σ', H', J', q⟩ := k; exact wpAny_execs_nil ⟨σ', H', J'.ofTry ok, q⟩
    | brk => obtain ⟨σ', H', J', q⟩ := k; exact ⟨σ', H', J'.ofTry ok, q⟩
    | cont => obtain ⟨σ', H', J', q⟩ := k; exact ⟨σ', H', J'.ofTry ok, q⟩
    | ret u => obtain ⟨v, σ', H', J', r, q⟩ := k; exact ⟨v, σ', H', J'.ofTry ok, r, q⟩
/-! ### at the level of data -/
def clPost (i : Option Nat) (N : Post) : Post := match i with
  | none => N
  | some i => { nx := fun F O ρ => N.nx F O (ρ.set i none), rt := N.rt, bk := fun F O ρ => N.bk F O (ρ.set i none), ct := fun F O ρ => N.ct F O (ρ.set i none) }
def clRho (i : Option Nat) (a : Addr) (ρ : Rho) : Rho := match i with
  | none => ρ
  | some i => ρ.set i (some (.raw (.ref a)))
/-- a clause: the class that it names, its name's slot, its suite -/
structure ClD where
  c : Value
  i : Option Nat
  b : List Stmt
def zCl (X : Cx) (Z : ZP) (N : Post) : List ClD → ZP
  | [] => Z
  | q :: r => fun F O ρ cls fs => ∃ t, PySem.W.exmOne X.K cls q.c = some t ∧
      (t = true → ∀ (a : Addr) (oe : Obj) (d : Option Addr) (pn : List (Addr × Obj)), Zc cls d oe → (∃ vs, oe.data = .fields vs) → FldOk X.K F d fs → WpS (X.suite a ((a, oe) :: pn)) Z0 q.b F O (clRho q.i a ρ) (clPost q.i N)) ∧
      (t = false → zCl X Z N r F O ρ cls fs)
inductive ClsD (X : Cx) : List ExceptHandler → List ClD → Prop
  | nil : ClsD X [] []
  | bare {x : Str} {c : Value} {b₀ : Stmt} {b : List Stmt} {np p : Pos} {hs : List ExceptHandler} {l : List ClD} (hc : Names X x c) (r : ClsD X hs l) : ClsD X (.ExceptHandler (some (.Name x np)) none (b₀ :: b) p :: hs) (⟨c, none, b₀ :: b⟩ :: l)
  | named {x n : Str} {c : Value} {i : Nat} {b₀ : Stmt} {b : List Stmt} {np p : Pos} {hs : List ExceptHandler} {l : List ClD} (hc : Names X x c) (hN : X.N.Nodup) (hi : X.N[i]? = some n) (hl : X.env.kindOf n = some .local) (r : ClsD X hs l) :
      ClsD X (.ExceptHandler (some (.Name x np)) (some n) (b₀ :: b) p :: hs) (⟨c, some i, b₀ :: b⟩ :: l)
def ClD.cl (X : Cx) (q : ClD) : Cl := ⟨q.c, q.i, fun a cls d D σ H => ∀ (oe : Obj) (pn : List (Addr × Obj)), Zc cls d oe → (∃ vs, oe.data = .fields vs) → canSs (X.suite a ((a, oe) :: pn)) q.b D σ H⟩
theorem ClsD.ok {hs : List ExceptHandler} {l : List ClD} (h : ClsD X hs l) : ClsOk X hs (l.map (ClD.cl X)) := by
  induction h with
  | nil => exact .nil
  | bare hc r ih => exact .bare hc (fun a oe cls d pn z f => ⟨fun pins s σ H D I k => k oe pn z f pins s I⟩) ih
  | named hc hN hi hl r ih => exact .named hc hN hi hl (fun a oe cls d pn z f => ⟨fun pins s σ H D I k => k oe pn z f pins s I⟩) ih
theorem EOk.clause {K : PySem.W.Frag} {F : Hp} {N : Post} {D : Ends} (E : EOk K F N D) (i : Option Nat) : EOk K F (clPost i N) (clEnds i D) := by
  cases i with
  | none => exact E
  | some i =>
    exact ⟨fun F2 O2 ρ2 σ H e S p => E.nx F2 O2 _ _ H e ⟨S.a, S.sig.setN none i⟩ p, E.rt, fun F2 O2 ρ2 σ H e S p => E.bk F2 O2 _ _ H e ⟨S.a, S.sig.setN none i⟩ p, fun F2 O2 ρ2 σ H e S p => E.ct F2 O2 _ _ H e ⟨S.a, S.sig.setN none i⟩ p⟩
theorem zCl_w {Z : ZP} {N : Post} {F : Hp} {D : Ends} (E : EOk X.K F N D) : ∀ (l : List ClD) {cls : Value} {d : Option Addr} {σ : L2.St} {H : Hp}, wz X.K F (zCl X Z N l) cls d σ H → wCl X.K (wz X.K F Z) D (l.map (ClD.cl X)) cls d σ H
  | [], _, _, _, _, h => h
  | ⟨qc, qi, qb⟩ :: r, cls, d, σ, H, ⟨F2, O, ρ, fs, e, S, f, t, ht, yes, no⟩ => by
    refine ⟨t, ht, fun et a ha oe pn z vs => ?_, fun et => zCl_w E r ⟨F2, O, ρ, fs, e, S, f, no et⟩⟩
    refine yes et a oe d pn z vs f takes0' _ H ⟨S.a, ?_⟩ _ ((E.mono e).clause qi)
    cases qi with
    | none => exact S.sig
    | some i => exact S.sig.set (.raw _) i
where
  takes0' {Y : Cx} {F : Hp} : Takes Y (wz Y.K F Z0) := Takes.imp takes0 fun _ _ _ _ ⟨_, _, _, _, _, _, _, z⟩ => z
theorem wp_try {Z : ZP} {F : Hp} {O : OW} {ρ : Rho} {body : List Stmt} {h₀ : ExceptHandler} {hds : List ExceptHandler} {pos : Pos} {N : Post} (l : List ClD) (hh : ClsD X (h₀ :: hds) l)
    (h : ∀ (pn : List (Addr × Obj)) (xe : Value → Shared → Prop), PassesOwn (model X.prog X.w) X.A X.env xe → WpS (X.tr pn xe) (zCl X Z N l) body F O ρ N)
    (hs : X.stack = X.env :: X.outer := by rfl) (hf : X.env.frame = some X.env.locals := by rfl) : Wp1 X Z (.Try body (h₀ :: hds) [] [] pos) F O ρ N :=
  .mk fun T σ H S D E => canS_of (ps_try_cls (tb := fun W D σ H => ∀ (pn : List (Addr × Obj)) (xe : Value → Shared → Prop), Takes (X.tr pn xe) W → PassesOwn (model X.prog X.w) X.A X.env xe → canSs (X.tr pn xe) body D σ H) hs hf T
    (fun W pn xe tk po => ⟨fun pins s σ H D I k => k pn xe tk po pins s I⟩) hh.ok) fun pn xe tk po => h pn xe po (tk.imp fun _ _ _ _ z => zCl_w E l z) σ H S D E
/-- e.f, e the caught error -/
theorem evp_xf {Z : ZP} {F : Hp} {O : OW} {ρ : Rho} {a C : Addr} {oe : Obj} {d : Option Addr} {pn : List (Addr × Obj)} {e : Expr} {pos : Pos} {f : Str} {fs : List (Str × D)} {y : D} {P : Hp → OW → D → Prop} (T : XfC X.K C) (hno : PySem.W.findIn X.K (.ref C) f = some none)
    (hz : Zc (.ref C) d oe) (hd : ∃ vs, oe.data = .fields vs) (hfs : FldOk X.K F d fs) (hl : fs.lookup f = some y)
    (h : EvP (X.suite a ((a, oe) :: pn)) Z e F O ρ fun F1 O1 x => x = .raw (.ref a) ∧ P F1 O1 y)
    (hb : attributeBase e f X.env (eval e X.env) = eval e X.env := by rfl) : EvP (X.suite a ((a, oe) :: pn)) Z (.Attribute e f pos) F O ρ P :=
  .mk fun Tk σ H S Q q => canE_of (pe_xf T hno hz hd pe_can hb) (h Tk σ H S _ fun F1 O1 H1 v x e1 S1 r1 ⟨ex, p⟩ => by
    subst ex
    cases r1
    rcases hfs with ⟨e0, _⟩ | ⟨dd, gs, ed, ef, fv⟩
    · rw [e0] at hl; cases hl
    · obtain ⟨w, hw, rw'⟩ := fv.lookup hl
      exact ⟨rfl, rfl, dd, gs, w, ed, S1.a.ex _ _ (e1 _ _ ef), hw, q F1 O1 H1 w y e1 S1 (rw'.mono e1) p⟩)
end
end CR
/-! Sequences: items, slices, len, built-ins, methods, stores, loops over them. -/
namespace CR
open PySem PySem.Spec PyProof.Rows L2
section
variable {K : PySem.W.Frag} {F H : Hp}
theorem IsAll.atI {vs : List V} {ds : List D} (h : IsAll K F vs ds) {i : Int} {d : D} (e : L2.atI ds i = some d) : ∃ v, L2.atI vs i = some v ∧ Is K F v d := by
  unfold L2.atI at e ⊢
  rw [h.length]
  cases q : ixN ds.length i with
  | none => rw [q] at e; cases e
  | some j =>
    rw [q] at e
    exact h.get e
/-- what a list or a tuple or a text is cut to -/
def cutX {α : Type} (xs : List α) (lo hi : Option Int) : List α := (xs.drop (HT.sIx xs.length 0 lo)).take (HT.sIx xs.length xs.length hi - HT.sIx xs.length 0 lo)
theorem IsAll.cut {vs : List V} {ds : List D} (h : IsAll K F vs ds) (lo hi : Option Int) : IsAll K F (cutV vs lo hi) (cutX ds lo hi) := by
  unfold cutV cutX
  rw [h.length]
  exact (h.drop _).take _
theorem cutX_whole {α : Type} (xs : List α) (lo hi : Option Int) (h : HT.sIx xs.length 0 lo = 0 ∧ HT.sIx xs.length xs.length hi = xs.length) : cutX xs lo hi = xs := by
  unfold cutX
  rw [h.1, h.2, List.drop_zero, Nat.sub_zero, List.take_length]
theorem cutX_run {α : Type} (xs : List α) (a b : Nat) : cutX xs (some (a : Int)) (some (b : Int)) = (xs.take b).drop a := by
  unfold cutX
  rw [HT.sIx_nat, HT.sIx_nat, List.drop_take]
  rcases Nat.lt_or_ge a xs.length with h | h
  · rw [Nat.min_eq_left (Nat.le_of_lt h)]
    rcases Nat.lt_or_ge b xs.length with h2 | h2
    · rw [Nat.min_eq_left (Nat.le_of_lt h2)]
    · rw [Nat.min_eq_right h2, List.take_of_length_le (by rw [List.length_drop]; omega), List.take_of_length_le (by rw [List.length_drop]; omega)]
  · rw [Nat.min_eq_right h, List.drop_length, List.drop_eq_nil_of_le h, List.take_nil, List.take_nil]
end
theorem StA.newT {K : PySem.W.Frag} {F H : Hp} {O : OW} (S : StA K F O H) {p : Addr} (hp : H p = none) {vs : List V} {ds : List D} (hr : IsAll K F vs ds) :
    Same F (upd F p (.tup vs)) ∧ StA K (upd F p (.tup vs)) O (upd H p (.tup vs)) ∧ Is K (upd F p (.tup vs)) (.ref p) (.tup ds) :=
  ⟨same_new (S.neF hp), S.new hp, .tup (.inl (.inl upd_same)) (hr.mono (same_new (S.neF hp)))⟩
theorem StA.newL {K : PySem.W.Frag} {F H : Hp} {O : OW} (S : StA K F O H) {p : Addr} (hp : H p = none) {vs : List V} {ds : List D} (hr : IsAll K F vs ds) :
    Same F (upd F p (.lst vs)) ∧ StA K (upd F p (.lst vs)) O (upd H p (.lst vs)) ∧ Is K (upd F p (.lst vs)) (.ref p) (.lst ds) :=
  ⟨same_new (S.neF hp), S.new hp, .lst upd_same (hr.mono (same_new (S.neF hp)))⟩
section
variable {X : Cx} {Z : ZP} {F : Hp} {O : OW} {ρ : Rho}
/-! ### items -/
abbrev xCan (X : Cx) : R2 := fun x y H Q => ∀ (value slice : Expr) (pins : List (Addr × Obj)) (s : Shared) (σ : L2.St) (v u : Value), Inv X pins σ H s → RelV x v → RelV y u →
  subscripted slice false v u = operate [v, u] (getItem v u) → wpAny (model X.prog X.w) X.A (subscriptTail value slice v u) (EP X pins σ Q) X.xe s
theorem ix_can : IxR X (xCan X) := fun value slice pins s σ _ _ _ v u _ I rx ry h => h value slice pins s σ v u I rx ry
def IxD (X : Cx) (x y : D) (F : Hp) (O : OW) (P : D → Prop) : Prop :=
  ∀ (H : Hp) (v u : V), StA X.K F O H → Is X.K F v x → Is X.K F u y → ∀ Q : VK, (∀ w d, Is X.K F w d → P d → Q w H) → xCan X v u H Q
theorem IxD.of {r : R2} {x y : D} {P : D → Prop} (ho : IxR X r) (h : ∀ (H : Hp) (v u : V), StA X.K F O H → Is X.K F v x → Is X.K F u y → ∀ Q : VK, (∀ w d, Is X.K F w d → P d → Q w H) → r v u H Q) : IxD X x y F O P :=
  fun H v u S hv hu Q q value slice pins s σ v' u' I rv ru hs => ho value slice pins s σ H v u v' u' Q I rv ru (h H v u S hv hu Q q) hs
theorem evp_ix {a b : Expr} {pos : Pos} {P : Hp → OW → D → Prop} (h : EvP X Z a F O ρ fun F1 O1 d1 => EvP X Z b F1 O1 ρ fun F2 O2 d2 => IxD X d1 d2 F2 O2 fun d => P F2 O2 d) (hs : PlainIx b := by exact fun _ _ => rfl) : EvP X Z (.Subscript a b pos) F O ρ P :=
  .mk fun T σ H S Q q => canE_of (pe_ix ix_can pe_can pe_can hs) (h T σ H S _ fun F1 O1 H1 v d e1 S1 r1 k => k (tkm T e1) σ H1 S1 _ fun F2 O2 H2 u d2 e2 S2 r2 k2 =>
    k2 H2 v u S2.a (r1.mono e2) r2 Q fun w d r p => q F2 O2 H2 w d (e1.trans e2) S2 r p)
section
variable {xs : List D} {i : Int} {d : D} {P : D → Prop}
theorem ixd_tup (hi : L2.atI xs i = some d) (h : P d) : IxD X (.tup xs) (.int i) F O P := IxD.of ix_tup fun H v u S hv hu Q q => by
  cases hu
  cases hv with
  | tup ha hr =>
    obtain ⟨w, hw, r⟩ := hr.atI hi
    exact ⟨_, _, i, w, rfl, rfl, sqT_mono S.ex ha, hw, q w d r h⟩
theorem ixd_lst (hi : L2.atI xs i = some d) (h : P d) : IxD X (.lst xs) (.int i) F O P := IxD.of ix_list fun H v u S hv hu Q q => by
  cases hu
  cases hv with
  | lst ha hr =>
    obtain ⟨w, hw, r⟩ := hr.atI hi
    exact ⟨_, _, i, w, rfl, rfl, .inl (.inl (S.ex _ _ ha)), hw, q w d r h⟩
theorem ixd_frl (hi : L2.atI xs i = some d) (h : P d) : IxD X (.frl xs) (.int i) F O P := IxD.of ix_list fun H v u S hv hu Q q => by
  cases hu
  cases hv with
  | frl ha hr =>
    obtain ⟨w, hw, r⟩ := hr.atI hi
    exact ⟨_, _, i, w, rfl, rfl, Same.seq S.ex ha, hw, q w d r h⟩
theorem ixd_own {j : Nat} {p : Addr} (hj : O[j]? = some (p, .lst xs)) (hi : L2.atI xs i = some d) (h : P d) : IxD X (.raw (.ref p)) (.int i) F O P := IxD.of ix_list fun H v u S hv hu Q q => by
  cases hu
  cases hv
  obtain ⟨_, vs, hH, hr⟩ := S.own _ (List.mem_of_getElem? hj)
  obtain ⟨w, hw, r⟩ := hr.atI hi
  exact ⟨_, _, i, w, rfl, rfl, .inl (.inl hH), hw, q w d r h⟩
end
/-! ### built-ins by value -/
abbrev cCan (X : Cx) (f : Value) : List V → Hp → VK → Prop := fun vs H Q => ∀ (pins : List (Addr × Obj)) (s : Shared) (σ : L2.St) (us : List Value), Inv X pins σ H s → Vals vs us → wpAny (model X.prog X.w) X.A (call f us) (EP X pins σ Q) X.xe s
theorem call_can {f : Value} : CallR X f (cCan X f) := fun pins s σ _ _ us _ I r h => h pins s σ us I r
def CallD (X : Cx) (f : Value) (ds : List D) (F : Hp) (O : OW) (P : Hp → D → Prop) : Prop :=
  ∀ (H : Hp) (vs : List V), StA X.K F O H → IsAll X.K F vs ds → ∀ Q : VK, (∀ F2 H2 w d, Same F F2 → StA X.K F2 O H2 → Is X.K F2 w d → P F2 d → Q w H2) → cCan X f vs H Q
theorem CallD.of {f : Value} {r : List V → Hp → VK → Prop} {ds : List D} {P : Hp → D → Prop} (ho : CallR X f r)
    (h : ∀ (H : Hp) (vs : List V), StA X.K F O H → IsAll X.K F vs ds → ∀ Q : VK, (∀ F2 H2 w d, Same F F2 → StA X.K F2 O H2 → Is X.K F2 w d → P F2 d → Q w H2) → r vs H Q) : CallD X f ds F O P :=
  fun H vs S hv Q q pins s σ us I rv => ho pins s σ H vs us Q I rv (h H vs S hv Q q)
theorem evp_callB {x : Str} {id : String} {e : Expr} {es : List Expr} {p pos : Pos} {P : Hp → OW → D → Prop} (hm : X.mg x = none) (hv : bootBuiltins x = some (.builtin id))
    (h : ArP X Z (e :: es) F O ρ fun F1 O1 ds => CallD X (.builtin id) ds F1 O1 fun F2 d => P F2 O1 d) (hg : Gl X x := by rfl) (hn : x ≠ "__name__" := by decide) (hdb : (x == ("__debug__" : Str)) = false := by decide)
    (he : starEach (e :: es) X.env = (false, eval e X.env) :: starEach es X.env := by rfl) (hpl : (backTo pos (starEach es X.env)).any (·.1) = false := by rfl) : EvP X Z (.Call (.Name x p) (e :: es) [] pos) F O ρ P :=
  .mk fun T σ H S Q q => canE_of (pe_callB call_can hg hm hv pa_can hn hdb he hpl) (h T σ H S _ fun F1 O1 H1 vs ds e1 S1 r1 k =>
    k H1 vs S1.a r1 Q fun F2 H2 w d e2 S2 r2 p => q F2 O1 H2 w d (e1.trans e2) ⟨S2, S1.sig.mono e2⟩ r2 p)
theorem evp_callT {x : Str} {id : String} {e : Expr} {es : List Expr} {p pos : Pos} {P : Hp → OW → D → Prop} (hm : X.mg x = none) (hv : bootBuiltins x = some (.type id))
    (h : ArP X Z (e :: es) F O ρ fun F1 O1 ds => CallD X (.type id) ds F1 O1 fun F2 d => P F2 O1 d) (hg : Gl X x := by rfl) (hn : x ≠ "__name__" := by decide) (hdb : (x == ("__debug__" : Str)) = false := by decide)
    (he : starEach (e :: es) X.env = (false, eval e X.env) :: starEach es X.env := by rfl) (hpl : (backTo pos (starEach es X.env)).any (·.1) = false := by rfl) : EvP X Z (.Call (.Name x p) (e :: es) [] pos) F O ρ P :=
  .mk fun T σ H S Q q => canE_of (pe_callTy call_can hg hm hv pa_can hn hdb he hpl) (h T σ H S _ fun F1 O1 H1 vs ds e1 S1 r1 k =>
    k H1 vs S1.a r1 Q fun F2 H2 w d e2 S2 r2 p => q F2 O1 H2 w d (e1.trans e2) ⟨S2, S1.sig.mono e2⟩ r2 p)
theorem isAll1 {K : PySem.W.Frag} {F : Hp} {vs : List V} {x : D} (h : IsAll K F vs [x]) : ∃ v, vs = [v] ∧ Is K F v x := by
  cases h with
  | cons r t => cases t; exact ⟨_, rfl, r⟩
theorem isAll2 {K : PySem.W.Frag} {F : Hp} {vs : List V} {x y : D} (h : IsAll K F vs [x, y]) : ∃ v u, vs = [v, u] ∧ Is K F v x ∧ Is K F u y := by
  cases h with
  | cons r t =>
    cases t with
    | cons r2 t2 => cases t2; exact ⟨_, _, rfl, r, r2⟩
section
variable {P : Hp → D → Prop} {xs : List D}
theorem calld_len_tup (h : P F (.int xs.length)) : CallD X (.builtin "len") [.tup xs] F O P := CallD.of call_len_seq fun H vs S hv Q q => by
  obtain ⟨v, rfl, r⟩ := isAll1 hv
  cases r with
  | tup ha hr => exact ⟨_, _, rfl, .inr (sqT_mono S.ex ha), by rw [hr.length]; exact q F H _ _ (Same.refl _) S (.int _) h⟩
theorem calld_len_lst (h : P F (.int xs.length)) : CallD X (.builtin "len") [.lst xs] F O P := CallD.of call_len_seq fun H vs S hv Q q => by
  obtain ⟨v, rfl, r⟩ := isAll1 hv
  cases r with
  | lst ha hr => exact ⟨_, _, rfl, .inl (.inl (.inl (S.ex _ _ ha))), by rw [hr.length]; exact q F H _ _ (Same.refl _) S (.int _) h⟩
theorem calld_len_frl (h : P F (.int xs.length)) : CallD X (.builtin "len") [.frl xs] F O P := CallD.of call_len_seq fun H vs S hv Q q => by
  obtain ⟨v, rfl, r⟩ := isAll1 hv
  cases r with
  | frl ha hr => exact ⟨_, _, rfl, .inl (Same.seq S.ex ha), by rw [hr.length]; exact q F H _ _ (Same.refl _) S (.int _) h⟩
theorem calld_len_own {j : Nat} {p : Addr} (hj : O[j]? = some (p, .lst xs)) (h : P F (.int xs.length)) : CallD X (.builtin "len") [.raw (.ref p)] F O P := CallD.of call_len_seq fun H vs S hv Q q => by
  obtain ⟨v, rfl, r⟩ := isAll1 hv
  cases r
  obtain ⟨_, ws, hH, hr⟩ := S.own _ (List.mem_of_getElem? hj)
  exact ⟨_, _, rfl, .inl (.inl (.inl hH)), by rw [hr.length]; exact q F H _ _ (Same.refl _) S (.int _) h⟩
theorem calld_len_str {z : Str} (hz : z.length ≤ sizeLine) (h : P F (.int z.length)) : CallD X (.builtin "len") [.str z] F O P := CallD.of call_len_str fun H vs S hv Q q => by
  obtain ⟨v, rfl, r⟩ := isAll1 hv
  cases r
  exact ⟨z, rfl, hz, q F H _ _ (Same.refl _) S (.int _) h⟩
theorem calld_abs {i : Int} (h : P F (.int (i.natAbs : Int))) : CallD X (.builtin "abs") [.int i] F O P := CallD.of call_abs fun H vs S hv Q q => by
  obtain ⟨v, rfl, r⟩ := isAll1 hv
  cases r
  refine ⟨i, rfl, ?_⟩
  have e : (if i < 0 then -i else i) = (i.natAbs : Int) := by split <;> omega
  rw [e]
  exact q F H _ _ (Same.refl _) S (.int _) h
theorem calld_max2 {i j : Int} (hc : X.calm = true) (h : P F (.int (max i j))) : CallD X (.builtin "max") [.int i, .int j] F O P := CallD.of (call_max2 hc) fun H vs S hv Q q => by
  obtain ⟨v, u, rfl, r, r2⟩ := isAll2 hv
  cases r
  cases r2
  refine ⟨i, j, rfl, ?_⟩
  have e : (if j > i then j else i) = max i j := by split <;> omega
  rw [e]
  exact q F H _ _ (Same.refl _) S (.int _) h
theorem calld_min2 {i j : Int} (hc : X.calm = true) (h : P F (.int (min i j))) : CallD X (.builtin "min") [.int i, .int j] F O P := CallD.of (call_min2 hc) fun H vs S hv Q q => by
  obtain ⟨v, u, rfl, r, r2⟩ := isAll2 hv
  cases r
  cases r2
  refine ⟨i, j, rfl, ?_⟩
  have e : (if j < i then j else i) = min i j := by split <;> omega
  rw [e]
  exact q F H _ _ (Same.refl _) S (.int _) h
theorem calld_int {i : Int} (h : P F (.int i)) : CallD X (.type "int") [.int i] F O P := CallD.of call_int1 fun H vs S hv Q q => by
  obtain ⟨v, rfl, r⟩ := isAll1 hv
  cases r
  exact .inl ⟨i, rfl, q F H _ _ (Same.refl _) S (.int _) h⟩
theorem calld_sum {ns : List Int} (hc : X.calm = true) (h : P F (.int ns.sum)) : CallD X (.builtin "sum") [.lst (ns.map .int)] F O P := CallD.of (cr_sum hc) fun H vs S hv Q q => by
  obtain ⟨v, rfl, r⟩ := isAll1 hv
  cases r with
  | lst ha hr => exact ⟨_, ns, rfl, by rw [← hr.ints]; exact .inl (.inl (S.ex _ _ ha)), q F H _ _ (Same.refl _) S (.int _) h⟩
theorem calld_any {bs : List Bool} (hc : X.calm = true) (h : P F (.bl (bs.any id))) : CallD X (.builtin "any") [.lst (bs.map .bl)] F O P := CallD.of (cr_any hc) fun H vs S hv Q q => by
  obtain ⟨v, rfl, r⟩ := isAll1 hv
  cases r with
  | lst ha hr => exact ⟨_, bs, rfl, by rw [← hr.bls]; exact .inl (.inl (S.ex _ _ ha)), q F H _ _ (Same.refl _) S (.bl _) h⟩
theorem calld_all {bs : List Bool} (hc : X.calm = true) (h : P F (.bl (bs.all id))) : CallD X (.builtin "all") [.lst (bs.map .bl)] F O P := CallD.of (cr_all hc) fun H vs S hv Q q => by
  obtain ⟨v, rfl, r⟩ := isAll1 hv
  cases r with
  | lst ha hr => exact ⟨_, bs, rfl, by rw [← hr.bls]; exact .inl (.inl (S.ex _ _ ha)), q F H _ _ (Same.refl _) S (.bl _) h⟩
/-- tuple(a list) -/
theorem calld_tuple (h : ∀ F2, Same F F2 → P F2 (.tup xs)) : CallD X (.type "tuple") [.lst xs] F O P := CallD.of call_tuple_of fun H vs S hv Q q => by
  obtain ⟨v, rfl, r⟩ := isAll1 hv
  cases r with
  | lst ha hr => exact ⟨_, _, rfl, .inl ⟨.inl (.inl (S.ex _ _ ha)), fun l hl => q _ _ _ (.tup xs) (same_new (S.neF hl)) (S.new hl) (.tup (.inl (.inl upd_same)) (hr.mono (same_new (S.neF hl)))) (h _ (same_new (S.neF hl)))⟩⟩
/-- tuple(a list of our own) -/
theorem calld_tupleO {j : Nat} {p : Addr} (hj : O[j]? = some (p, .lst xs)) (h : ∀ F2, Same F F2 → P F2 (.tup xs)) : CallD X (.type "tuple") [.raw (.ref p)] F O P := CallD.of call_tuple_of fun H vs S hv Q q => by
  obtain ⟨v, rfl, r⟩ := isAll1 hv
  cases r
  obtain ⟨_, ws, hH, hr⟩ := S.own _ (List.mem_of_getElem? hj)
  exact ⟨_, _, rfl, .inl ⟨.inl (.inl hH), fun l hl => q _ _ _ (.tup xs) (same_new (S.neF hl)) (S.new hl) (.tup (.inl (.inl upd_same)) (hr.mono (same_new (S.neF hl)))) (h _ (same_new (S.neF hl)))⟩⟩
/-- list(a list or a tuple) -/
theorem calld_list_tup (h : ∀ F2, Same F F2 → P F2 (.lst xs)) : CallD X (.type "list") [.tup xs] F O P := CallD.of call_list_of fun H vs S hv Q q => by
  obtain ⟨v, rfl, r⟩ := isAll1 hv
  cases r with
  | tup ha hr => exact ⟨_, _, rfl, .inr (sqT_mono S.ex ha), fun l hl => q _ _ _ (.lst xs) (same_new (S.neF hl)) (S.new hl) (.lst upd_same (hr.mono (same_new (S.neF hl)))) (h _ (same_new (S.neF hl)))⟩
theorem calld_list_lst (h : ∀ F2, Same F F2 → P F2 (.lst xs)) : CallD X (.type "list") [.lst xs] F O P := CallD.of call_list_of fun H vs S hv Q q => by
  obtain ⟨v, rfl, r⟩ := isAll1 hv
  cases r with
  | lst ha hr => exact ⟨_, _, rfl, .inl (.inl (.inl (S.ex _ _ ha))), fun l hl => q _ _ _ (.lst xs) (same_new (S.neF hl)) (S.new hl) (.lst upd_same (hr.mono (same_new (S.neF hl)))) (h _ (same_new (S.neF hl)))⟩
end
/-! ### isinstance -/
def kindD : D → Option String
  | .non => some "NoneType" | .bl _ => some "bool" | .int _ => some "int" | .str _ => some "str" | .lst _ => some "list" | .frl _ => some "list" | .tup _ => some "tuple" | .emp => some "dict" | _ => none
theorem tyx_of {K : PySem.W.Frag} {F H : Hp} {v : V} {d : D} {n : String} (r : Is K F v d) (k : kindD d = some n) (e : Same F H) : TyX K H v (.type n) := by
  cases r with
  | non => cases k; exact .base .non
  | bl b => cases k; exact .base (.bl b)
  | int i => cases k; exact .base (.int i)
  | str x => cases k; exact .base (.str x)
  | lst ha _ => cases k; exact .base (.lst (e _ _ ha))
  | frl ha _ =>
    cases k
    rcases e.seq ha with (h | ⟨o, h⟩) | ⟨o, its, n, h, hc, _⟩
    · exact .base (.lst h)
    · exact .base (.frz h)
    · exact .kList h hc
  | tup ha _ =>
    cases k
    rcases sqT_mono e ha with (h | ⟨o, h⟩) | ⟨o, its, n, h, hc, _⟩
    · exact .base (.tup h)
    · exact .fTuple h
    · exact .kTuple h hc
  | emp ha => cases k; exact .base (.dK (e _ _ ha))
  | ins _ _ => cases k
  | raw v => cases k
theorem calld_isi {d : D} {n m : String} {b : Bool} {P : Hp → D → Prop} (k : kindD d = some n) (hk : kitB n m = some b) (h : P F (.bl b)) : CallD X (.builtin "isinstance") [d, .raw (.ty m)] F O P := CallD.of call_isi fun H vs S hv Q q => by
  obtain ⟨v, u, rfl, r, r2⟩ := isAll2 hv
  cases r2
  exact ⟨v, .ty m, _, _, b, rfl, .ty m, tyx_of r k S.ex, kit_ty hk, q F H _ _ (Same.refl _) S (.bl _) h⟩
/-! ### tuples, lists: +, * -/
section
variable {xs ys : List D} {P : Hp → D → Prop}
theorem opd_catT (hl : xs.length + ys.length ≤ sizeLine) (h : ∀ F2, Same F F2 → P F2 (.tup (xs ++ ys))) : OpD X (binaryOp .Add) (.tup xs) (.tup ys) F P := OpD.of op_catA fun O H v u S hv hu Q q => by
  cases hv with
  | tup ha hr =>
    cases hu with
    | tup hb hs =>
      refine ⟨_, _, _, _, rfl, rfl, sqT_mono S.ex ha, sqT_mono S.ex hb, by rw [hr.length, hs.length]; exact hl, fun e => ?_, fun _ e => ?_, fun _ _ p hp => ?_⟩
      · subst e
        cases hr
        exact q F H _ _ (Same.refl _) S (.tup hb hs) (h F (Same.refl _))
      · subst e
        cases hs
        exact q F H _ _ (Same.refl _) S (.tup ha hr) (by simpa using h F (Same.refl _))
      · obtain ⟨a1, a2, a3⟩ := S.newT hp (hr.append hs)
        exact q _ _ _ _ a1 a2 a3 (h _ a1)
theorem opd_catL (hl : xs.length + ys.length ≤ sizeLine) (h : ∀ F2, Same F F2 → P F2 (.lst (xs ++ ys))) : OpD X (binaryOp .Add) (.lst xs) (.lst ys) F P := OpD.of op_cat fun O H v u S hv hu Q q => by
  cases hv with
  | lst ha hr =>
    cases hu with
    | lst hb hs =>
      refine ⟨_, _, _, _, rfl, rfl, S.ex _ _ ha, S.ex _ _ hb, by rw [hr.length, hs.length]; exact hl, fun p hp => ?_⟩
      obtain ⟨a1, a2, a3⟩ := S.newL hp (hr.append hs)
      exact q _ _ _ _ a1 a2 a3 (h _ a1)
theorem IsAll.rep {K : PySem.W.Frag} {F : Hp} {vs : List V} {ds : List D} (h : IsAll K F vs ds) : ∀ n : Nat, IsAll K F (List.replicate n vs).flatten (List.replicate n ds).flatten
  | 0 => .nil
  | n + 1 => by
    rw [List.replicate_succ, List.replicate_succ, List.flatten_cons, List.flatten_cons]
    exact h.append (IsAll.rep h n)
theorem opd_repT {k : Int} (h0 : xs ≠ []) (h1 : 2 ≤ k) (h2 : k ≤ 1000) (hl : xs.length ≤ 1000) (h : ∀ F2, Same F F2 → P F2 (.tup (List.replicate k.toNat xs).flatten)) : OpD X (binaryOp .Mult) (.tup xs) (.int k) F P := OpD.of op_repT fun O H v u S hv hu Q q => by
  cases hu
  cases hv with
  | tup ha hr =>
    refine ⟨_, k, _, rfl, rfl, sqT_mono S.ex ha, fun e => ?_, h1, h2, by rw [hr.length]; exact hl, fun p hp => ?_⟩
    · rw [e] at hr; cases hr; exact h0 rfl
    · obtain ⟨a1, a2, a3⟩ := S.newT hp (hr.rep k.toNat)
      exact q _ _ _ _ a1 a2 a3 (h _ a1)
end
/-! ### stores into our own -/
/-- o.append(e), o a list of our own (the j-th) -/
theorem wp_append {o e : Expr} {ap cp pos : Pos} {N : Post}
    (h : EvP X Z o F O ρ fun F1 O1 x => ∃ p, x = .raw (.ref p) ∧ (∃ xs, (p, OE.lst xs) ∈ O1) ∧ EvP X Z e F1 O1 ρ fun F2 O2 d => ∃ (j : Nat) (xs : List D), O2[j]? = some (p, .lst xs) ∧ xs.length < sizeLine ∧ N.nx F2 (O2.set j (p, .lst (xs ++ [d]))) ρ)
    (hbase : attributeBase o "append" X.env (eval o X.env) = eval o X.env := by rfl)
    (hfew : ((backTo cp (starEach [e] X.env)).all (fun x => !x.1) && (backToKw cp (keywordEach [] X.env)).all (fun x => x.1.isSome) && decide ([e].length + ([] : List Keyword).length + (if ([] : List Keyword).isEmpty then 0 else 1) < 30)) = true := by rfl)
    (hline : (ap.endLine == cp.line) = true := by rfl) (hs : starEach [e] X.env = (false, eval e X.env) :: starEach [] X.env := by rfl) (hplain : (backTo cp (starEach [] X.env)).any (·.1) = false := by rfl)
    (hsw : swapsWith (.Call (.Attribute o "append" ap) [e] [] cp) none pos.line X.env = pure false := by rfl) :
    Wp1 X Z (.Expr (.Call (.Attribute o "append" ap) [e] [] cp) pos) F O ρ N :=
  .mk fun T σ H S D E => canS_of (ps_expr (pe_bm PySem.F.plainAttrs_list PySem.F.slot_list_append PySem.F.type_list_append mt_append pe_can (pa_cons pe_can pa_nil hs) hbase hfew hline hs hplain) hsw)
    (h T σ H S _ fun F1 O1 H1 v x e1 S1 r1 ⟨p, ex, ⟨ys, hm⟩, k1⟩ => by
      subst ex
      cases r1
      obtain ⟨_, ws, hH, _⟩ := S1.a.own _ hm
      refine ⟨.inl ⟨rfl, ws, .inl (.inl hH)⟩, ?_⟩
      refine k1 (tkm T e1) σ H1 S1 _ fun F2 O2 H2 u d e2 S2 r2 ⟨j, xs, hj, hl, nx⟩ => ?_
      obtain ⟨hF, vs, hH2, hr⟩ := S2.a.own _ (List.mem_of_getElem? hj)
      refine ⟨p, vs, u, rfl, rfl, hH2, by rw [hr.length]; exact hl, ?_⟩
      exact E.nx F2 _ ρ σ _ (e1.trans e2) ⟨S2.a.set (e' := .lst (xs ++ [d])) hj ⟨_, upd_same, hr.append (.cons r2 .nil)⟩, S2.sig⟩ nx)
/-- what is our own becomes plain data -/
theorem wps_freeze {b : List Stmt} {N : Post} {i j : Nat} {p : Addr} {xs : List D} (hj : O[j]? = some (p, .lst xs)) (hi : ρ[i]? = some (some (.raw (.ref p)))) (h : ∀ F2, Same F F2 → WpS X Z b F2 (O.eraseIdx j) (ρ.set i (some (.lst xs))) N) : WpS X Z b F O ρ N :=
  .mk fun T σ H S D E => by
    obtain ⟨F2, e, S2, r⟩ := S.a.freeze hj
    refine h F2 e (tkm T e) σ H ⟨S2, ?_⟩ D (E.mono e)
    obtain ⟨v, hv, rv⟩ := S.sig.2 i _ hi
    cases rv
    have q := (S.sig.mono e).set r i
    have es : σ.set i (some (.ref p)) = σ := by
      apply List.ext_getElem?
      intro k
      rw [List.getElem?_set]
      split
      · rename_i hk
        subst hk
        split
        · exact hv.symm
        · rename_i hl
          rw [List.getElem?_eq_none (by omega)]
      · rfl
    rw [es] at q
    exact q
/-- own objects may be let go -/
theorem EvP.drop {e : Expr} {P : Hp → OW → D → Prop} (j : Nat) (h : EvP X Z e F O ρ fun F2 O2 d => P F2 (O2.eraseIdx j) d) : EvP X Z e F O ρ P :=
  .mk fun T σ H S Q q => h T σ H S Q fun F2 O2 H2 v d a b c p => q F2 _ H2 v d a ⟨b.a.drop j, b.sig⟩ c p
/-! ### tuple targets -/
end
end CR
/-! Walks over data, for, comprehensions. -/
namespace CR
open PySem PySem.Spec PyProof.Rows L2
/-! ### what is walked -/
/-- the iterator yields just these, whatever is added to the heap -/
def DIt (K : PySem.W.Frag) (F : Hp) (J : It) (xs : List D) : Prop :=
  ∀ (i : Nat) (H F2 : Hp) (O2 : OW), Same F F2 → StA K F2 O2 H → (xs.length ≤ i → J.stop i H) ∧ (i < xs.length → J.go i H) ∧
    ∀ x H' d, xs[i]? = some d → J.yld i H x H' → ∃ F3, Same F2 F3 ∧ StA K F3 O2 H' ∧ Is K F3 x d
def canI (X : Cx) (tg iter : Expr) : TI := fun σ H R => ∀ (pins : List (Addr × Obj)) (s : Shared), Inv X pins σ H s → wpAny (model X.prog X.w) X.A (eval iter X.env) (fun v s1 => wpAny (model X.prog X.w) X.A (pyIter v) (PIE X pins σ tg R) X.xe s1) X.xe s
theorem pi_can {X : Cx} {tg iter : Expr} : PI X tg iter (canI X tg iter) := ⟨fun pins s _ _ _ I h => h pins s I⟩
theorem canI_of {X : Cx} {tg iter : Expr} {t : TI} (h : PI X tg iter t) {σ : L2.St} {H : Hp} {R : It → Hp → Prop} (q : t σ H R) : canI X tg iter σ H R := fun pins s I => h.run pins s σ H R I q
structure SrP (X : Cx) (Z : ZP) (tg iter : Expr) (F : Hp) (O : OW) (ρ : Rho) (P : Hp → OW → List D → Prop) : Prop where
  run : Takes X (wz X.K F Z) → ∀ σ H, Sta X.K F O ρ σ H → ∀ R : It → Hp → Prop, (∀ F2 O2 H2 J xs, Same F F2 → Sta X.K F2 O2 ρ σ H2 → DIt X.K F2 J xs → P F2 O2 xs → R J H2) → canI X tg iter σ H R
instance {X : Cx} {Z : ZP} {tg iter : Expr} {F : Hp} {O : OW} {ρ : Rho} {P : Hp → OW → List D → Prop} : CoeFun (SrP X Z tg iter F O ρ P) (fun _ => Takes X (wz X.K F Z) → ∀ σ H, Sta X.K F O ρ σ H → ∀ R : It → Hp → Prop, (∀ F2 O2 H2 J xs, Same F F2 → Sta X.K F2 O2 ρ σ H2 → DIt X.K F2 J xs → P F2 O2 xs → R J H2) → canI X tg iter σ H R) := ⟨fun h => h.run⟩
section
variable {K : PySem.W.Frag} {F : Hp}
theorem dit_lst {a : Addr} {vs : List V} {xs : List D} (h : SqL K F a vs) (r : IsAll K F vs xs) : DIt K F (Itl K a) xs := fun i H F2 O2 e S => by
  have hH : SqL K H a vs := Same.seq (e.trans S.ex) h
  refine ⟨fun hi => ⟨vs, hH, by rw [r.length]; exact hi⟩, fun hi => ?_, fun x H' d hd y => ?_⟩
  · obtain ⟨v, hv, _⟩ := r.get (List.getElem?_eq_getElem hi)
    exact ⟨vs, v, hH, hv⟩
  · obtain ⟨rfl, y⟩ := y
    obtain ⟨v, hv, rv⟩ := r.get hd
    have ex : x = v := by
      have := y vs hH
      rw [hv] at this
      exact (Option.some.inj this).symm
    subst ex
    exact ⟨F2, Same.refl _, S, rv.mono e⟩
theorem dit_tup {a : Addr} {vs : List V} {xs : List D} (h : SqT K F a vs) (r : IsAll K F vs xs) : DIt K F (Itt K a) xs := fun i H F2 O2 e S => by
  have hH : SqT K H a vs := sqT_mono (e.trans S.ex) h
  refine ⟨fun hi => ⟨vs, hH, by rw [r.length]; exact hi⟩, fun hi => ?_, fun x H' d hd y => ?_⟩
  · obtain ⟨v, hv, _⟩ := r.get (List.getElem?_eq_getElem hi)
    exact ⟨vs, v, hH, hv⟩
  · obtain ⟨rfl, y⟩ := y
    obtain ⟨v, hv, rv⟩ := r.get hd
    have ex : x = v := by
      have := y vs hH
      rw [hv] at this
      exact (Option.some.inj this).symm
    subst ex
    exact ⟨F2, Same.refl _, S, rv.mono e⟩
/-- lo, lo + 1, .. -/
def rngD (lo : Int) (n : Nat) : List D := (List.range n).map fun (k : Nat) => .int (lo + k)
theorem rngD_length (lo : Int) (n : Nat) : (rngD lo n).length = n := by unfold rngD; rw [List.length_map, List.length_range]
theorem rngD_at {lo : Int} {n k : Nat} (h : k < n) : (rngD lo n)[k]? = some (.int (lo + k)) := by
  unfold rngD
  rw [List.getElem?_map, List.getElem?_range h]
  rfl
theorem rngD_of {lo : Int} {n k : Nat} {d : D} (h : (rngD lo n)[k]? = some d) : k < n ∧ d = .int (lo + k) := by
  have hk : k < n := by
    rcases Nat.lt_or_ge k n with q | q
    · exact q
    · rw [List.getElem?_eq_none (by rw [rngD_length]; exact q)] at h; cases h
  rw [rngD_at hk] at h
  exact ⟨hk, (Option.some.inj h).symm⟩
theorem dit_rng {lo : Int} {n : Nat} : DIt K F (Itr lo n) (rngD lo n) := fun i H F2 O2 e S => by
  rw [rngD_length]
  refine ⟨fun hi => hi, fun hi => hi, fun x H' d hd y => ?_⟩
  obtain ⟨rfl, rfl⟩ := y
  obtain ⟨_, rfl⟩ := rngD_of hd
  exact ⟨F2, Same.refl _, S, .int _⟩
theorem DIt.mono {F' : Hp} {J : It} {xs : List D} (h : DIt K F J xs) (e : Same F F') : DIt K F' J xs := fun i H F2 O2 e2 S => h i H F2 O2 (e.trans e2) S
end
section
variable {X : Cx} {Z : ZP} {F : Hp} {O : OW} {ρ : Rho} {tg : Expr}
theorem srp_rng1 {a : Expr} {p pos : Pos} {P : Hp → OW → List D → Prop} (hm : X.mg "range" = none) (h : EvP X Z a F O ρ fun F1 O1 d => ∃ n : Int, d = .int n ∧ (-(2 ^ 62) ≤ n ∧ n < 2 ^ 62) ∧ P F1 O1 (rngD 0 n.toNat)) (hg : Gl X "range" := by rfl)
    (hs : starEach [a] X.env = [(false, eval a X.env)] := by rfl) : SrP X Z tg (.Call (.Name "range" p) [a] [] pos) F O ρ P :=
  .mk fun T σ H S R q => canI_of (pi_range1 hg hm (pa_cons pe_can pa_nil (by rw [hs] <;> rfl)) hs) (h T σ H S _ fun F1 O1 H1 v d e1 S1 r1 ⟨n, ed, hn, p⟩ => by
    subst ed
    cases r1
    exact ⟨n, rfl, hn.1, hn.2, q F1 O1 H1 _ _ e1 S1 dit_rng p⟩)
theorem srp_rng2 {a b : Expr} {p pos : Pos} {P : Hp → OW → List D → Prop} (hm : X.mg "range" = none) (h : EvP X Z a F O ρ fun F1 O1 d1 => EvP X Z b F1 O1 ρ fun F2 O2 d2 => ∃ lo hi : Int, d1 = .int lo ∧ d2 = .int hi ∧ (-(2 ^ 62) ≤ lo ∧ lo < 2 ^ 62 ∧ -(2 ^ 62) ≤ hi ∧ hi < 2 ^ 62) ∧ P F2 O2 (rngD lo (hi - lo).toNat))
    (hg : Gl X "range" := by rfl) (hs : starEach [a, b] X.env = [(false, eval a X.env), (false, eval b X.env)] := by rfl) (hs2 : starEach [b] X.env = [(false, eval b X.env)] := by rfl) : SrP X Z tg (.Call (.Name "range" p) [a, b] [] pos) F O ρ P :=
  .mk fun T σ H S R q => canI_of (pi_range2 hg hm (pa_cons pe_can (pa_cons pe_can pa_nil (by rw [hs2] <;> rfl)) (by rw [hs, hs2] <;> rfl)) hs hs2) (h T σ H S _ fun F1 O1 H1 v d1 e1 S1 r1 k => k (tkm T e1) σ H1 S1 _ fun F2 O2 H2 u d2 e2 S2 r2 ⟨lo, hi, ed1, ed2, hn, p⟩ => by
    subst ed1 ed2
    cases r1
    cases r2
    exact ⟨lo, hi, rfl, hn, q F2 O2 H2 _ _ (e1.trans e2) S2 dit_rng p⟩)
/-! ### targets -/
def TgD (K : PySem.W.Frag) (g : TG) (vs : List Nat) (up : D → Rho → Option Rho) : Prop :=
  ∀ (F : Hp) (O : OW) (ρ : Rho) (σ : L2.St) (H : Hp) (v : V) (d : D) (ρ' : Rho), Sta K F O ρ σ H → Is K F v d → up d ρ = some ρ' → ∀ Q : L2.St → Hp → Prop, (∀ σ', Sta K F O ρ' σ' H → wipe σ' vs = wipe σ vs → Q σ' H) → g v σ H Q
def upN (i : Nat) : D → Rho → Option Rho := fun d ρ => some (ρ.set i (some d))
def upT (i j : Nat) : D → Rho → Option Rho := fun d ρ => match d with
  | .tup [a, b] => some ((ρ.set i (some a)).set j (some b))
  | _ => none
theorem wipe_set {σ : L2.St} {i : Nat} {o : Option V} : ∀ {vs : List Nat}, i ∈ vs → wipe (σ.set i o) vs = wipe σ vs
  | v :: vs, h => by
    show (wipe (σ.set i o) vs).set v none = (wipe σ vs).set v none
    by_cases hv : i ∈ vs
    · rw [wipe_set hv]
    · have e : i = v := by
        rcases List.mem_cons.mp h with h | h
        · exact h
        · exact absurd h hv
      subst e
      have comm : ∀ ws : List Nat, i ∉ ws → wipe (σ.set i o) ws = (wipe σ ws).set i o := by
        intro ws
        induction ws with
        | nil => intro _; rfl
        | cons w ws ih =>
          intro hw
          rw [List.mem_cons] at hw
          show (wipe (σ.set i o) ws).set w none = ((wipe σ ws).set w none).set i o
          rw [ih (fun q => hw (.inr q)), List.set_comm _ _ (fun q => hw (.inl q))]
      rw [comm vs hv, List.set_set]
theorem wipe_wipe (σ : L2.St) : ∀ vs : List Nat, wipe (wipe σ vs) vs = wipe σ vs
  | [] => rfl
  | v :: vs => by
    show (wipe ((wipe σ vs).set v none) vs).set v none = (wipe σ vs).set v none
    by_cases hv : v ∈ vs
    · rw [wipe_set hv, wipe_wipe σ vs]
    · have comm : ∀ (τ : L2.St) (ws : List Nat), v ∉ ws → wipe (τ.set v none) ws = (wipe τ ws).set v none := by
        intro τ ws
        induction ws with
        | nil => intro _; rfl
        | cons w ws ih =>
          intro hw
          rw [List.mem_cons] at hw
          show (wipe (τ.set v none) ws).set w none = ((wipe τ ws).set w none).set v none
          rw [ih (fun q => hw (.inr q)), List.set_comm _ _ (fun q => hw (.inl q))]
      rw [comm _ vs hv, wipe_wipe σ vs, List.set_set]
theorem tgd_name {K : PySem.W.Frag} {i : Nat} {vs : List Nat} (hi : i ∈ vs) : TgD K (gName i) vs (upN i) := fun F O ρ σ H v d ρ' S r e Q q => by
  cases e
  exact q _ ⟨S.a, S.sig.set r i⟩ (wipe_set hi)
theorem tgd_tup {K : PySem.W.Frag} {i j : Nat} {vs : List Nat} (hi : i ∈ vs) (hj : j ∈ vs) : TgD K (gTup K 2 (gCons (gName i) (gCons (gName j) gNil))) vs (upT i j) := fun F O ρ σ H v d ρ' S r e Q q => by
  unfold upT at e
  split at e
  · rename_i a b
    cases e
    cases r with
    | tup ha hr =>
      obtain ⟨va, vb, rfl, ra, rb⟩ := isAll2 hr
      exact ⟨_, _, rfl, sqT_mono S.a.ex ha, rfl, va, [vb], rfl, vb, [], rfl, rfl, q _ ⟨S.a, (S.sig.set ra i).set rb j⟩ (by rw [wipe_set hj, wipe_set hi])⟩
  · cases e
/-! ### for -/
theorem wp_for {g : TG} {vs : List Nat} {up : D → Rho → Option Rho} {iter : Expr} {body : List Stmt} {pos : Pos} {N : Post} (hg : PG X tg g) (td : TgD X.K g vs up) (I : Nat → Hp → OW → Rho → Prop)
    (h : SrP X Z tg iter F O ρ fun F1 O1 xs => I 0 F1 O1 ρ ∧
      (∀ (k : Nat) (d : D) F2 O2 ρ2, Same F1 F2 → xs[k]? = some d → I k F2 O2 ρ2 → ∀ F3, Same F2 F3 → ∃ ρ3, up d ρ2 = some ρ3 ∧ WpS X Z body F3 O2 ρ3 { nx := I (k + 1), ct := I (k + 1), bk := N.nx, rt := N.rt }) ∧
      ∀ F2 O2 ρ2, Same F1 F2 → I xs.length F2 O2 ρ2 → N.nx F2 O2 ρ2)
    (hp : PassesOwn (model X.prog X.w) X.A X.env X.xe) (hc : X.calm = true) (hfs : ∀ y, foldedSetIterable iter X.env y = pure y := by intro _; rfl) : Wp1 X Z (.For tg iter body [] pos) F O ρ N :=
  .mk fun T σ H S D E => canS_of (ps_for hp hc pi_can hg pss_can hfs) (h T σ H S _ fun F1 O1 H1 J xs e1 S1 dt ⟨h0, hs, hd⟩ => by
    refine ⟨fun i m σ' H' => i + m = xs.length ∧ ∃ F2 O2 ρ2, Same F1 F2 ∧ Sta X.K F2 O2 ρ2 σ' H' ∧ I i F2 O2 ρ2, ⟨xs.length, by omega, F1, O1, ρ, Same.refl _, S1, h0⟩, ?_⟩
    rintro i m σ' H' ⟨em, F2, O2, ρ2, e2, S2, hI⟩
    obtain ⟨stop, go, yld⟩ := dt i H' F2 O2 e2 S2.a
    by_cases hi : i < xs.length
    · refine .inr ⟨go hi, fun σ3 H3 => ∃ F3 O3 ρ3, Same F1 F3 ∧ Sta X.K F3 O3 ρ3 σ3 H3 ∧ I (i + 1) F3 O3 ρ3, fun σ3 H3 q => ⟨m - 1, by omega, by omega, q⟩, fun x H3 hy => ?_⟩
      have hd' : xs[i]? = some xs[i] := List.getElem?_eq_getElem hi
      obtain ⟨F3, e3, S3, r3⟩ := yld x H3 _ hd' hy
      obtain ⟨ρ3, eu, hb⟩ := hs i _ F2 O2 ρ2 e2 hd' hI F3 e3
      refine td F3 O2 ρ2 σ' H3 x _ ρ3 ⟨S3, S2.sig.mono e3⟩ r3 eu _ fun σ4 S4 _ => ?_
      have e4 := (e1.trans e2).trans e3
      refine hb (tkm T e4) σ4 H3 S4 _ ⟨?_, ?_, ?_, ?_⟩
      · exact fun F5 O5 ρ5 σ5 H5 e5 S5 q => ⟨F5, O5, ρ5, (e2.trans e3).trans e5, S5, q⟩
      · exact fun F5 O5 v d H5 e5 S5 r q => E.rt F5 O5 v d H5 (e4.trans e5) S5 r q
      · exact fun F5 O5 ρ5 σ5 H5 e5 S5 q => E.nx F5 O5 ρ5 σ5 H5 (e4.trans e5) S5 q
      · exact fun F5 O5 ρ5 σ5 H5 e5 S5 q => ⟨F5, O5, ρ5, (e2.trans e3).trans e5, S5, q⟩
    · have ei : i = xs.length := by omega
      subst ei
      exact .inl ⟨stop (Nat.le_refl _), E.nx F2 O2 ρ2 σ' H' (e1.trans e2) S2 (hd F2 O2 ρ2 e2 hI)⟩)
/-! ### comprehensions -/
def wipeR (ρ : Rho) : List Nat → Rho
  | [] => ρ
  | v :: vs => (wipeR ρ vs).set v none
theorem Sig.wipe {K : PySem.W.Frag} {F : Hp} {ρ : Rho} {σ : L2.St} (h : Sig K F ρ σ) : ∀ vs : List Nat, Sig K F (wipeR ρ vs) (L2.wipe σ vs)
  | [] => h
  | v :: vs => (Sig.wipe h vs).setN none v
theorem takesB {Y : Cx} {F : Hp} : Takes Y (wz Y.K F Z0) := Takes.imp takes0 fun _ _ _ _ ⟨_, _, _, _, _, _, _, z⟩ => z
/-- a clause's tests -/
def canTs (X : Cx) (ifs : List Expr) : TT := fun σ H Q => ∀ (pins : List (Addr × Obj)) (s : Shared), Inv X pins σ H s →
  wpAny (model X.prog X.w) X.A (forIn ifs true fun c r => if r = true then do let ok ← isTrue c X.env (eval c X.env); pure (ForInStep.yield ok) else pure (ForInStep.yield r)) (TP X pins σ Q) X.xe s
structure TtP (X : Cx) (Z : ZP) (ifs : List Expr) (F : Hp) (O : OW) (ρ : Rho) (P : Hp → OW → Bool → Prop) : Prop where
  run : Takes X (wz X.K F Z) → ∀ σ H, Sta X.K F O ρ σ H → ∀ Q : Bool → Hp → Prop, (∀ F2 O2 H2 b, Same F F2 → Sta X.K F2 O2 ρ σ H2 → P F2 O2 b → Q b H2) → canTs X ifs σ H Q
instance {X : Cx} {Z : ZP} {ifs : List Expr} {F : Hp} {O : OW} {ρ : Rho} {P : Hp → OW → Bool → Prop} : CoeFun (TtP X Z ifs F O ρ P) (fun _ => Takes X (wz X.K F Z) → ∀ σ H, Sta X.K F O ρ σ H → ∀ Q : Bool → Hp → Prop, (∀ F2 O2 H2 b, Same F F2 → Sta X.K F2 O2 ρ σ H2 → P F2 O2 b → Q b H2) → canTs X ifs σ H Q) := ⟨fun h => h.run⟩
theorem ttp_nil {P : Hp → OW → Bool → Prop} (h : P F O true) : TtP X Z [] F O ρ P := .mk fun T σ H S Q q pins s I => pts_nil.run pins s σ H Q I (q F O H true (Same.refl _) S h)
theorem ttp_one {c : Expr} {P : Hp → OW → Bool → Prop} (h : TsP X Z c F O ρ P) : TtP X Z [c] F O ρ P := .mk fun T σ H S Q q pins s I => (pts_one pt_can).run pins s σ H Q I (h T σ H S Q q)
abbrev blkX (X : Cx) (s : Shared) (H : Hp) (scope : Scope) (cl : List (Str × Addr)) (C : Addr) (fp : List Addr) : Cx := X.blk s H scope (compEnvC scope cl C X.env) fp
/-- [elt for tg in iter if ..]: I by the turn, the state and the list so far -/
abbrev ttC (X : Cx) (scope : Scope) (ifs : List Expr) : TT := fun σ H Q => ∀ (s : Shared) (H' : Hp) (C : Addr) (cl : List (Str × Addr)) (fp : List Addr), canTs (blkX X s H' scope cl C fp) ifs σ H Q
abbrev teC (X : Cx) (scope : Scope) (elt : Expr) : TE := fun σ H Q => ∀ (s : Shared) (H' : Hp) (C : Addr) (cl : List (Str × Addr)) (fp : List Addr), canE (blkX X s H' scope cl C fp) elt σ H Q
/-- a comprehension at work -/
structure LcP (X : Cx) (Z : ZP) (elt tg iter : Expr) (ifs : List Expr) (scope : Scope) (vs : List Nat) (g : TG) (F : Hp) (O : OW) (ρ : Rho) (P : Hp → OW → D → Prop) : Prop where
  run : Takes X (wz X.K F Z) → ∀ σ H, Sta X.K F O ρ σ H → ∀ Q : VK, (∀ F2 O2 H2 v d, Same F F2 → Sta X.K F2 O2 ρ σ H2 → Is X.K F2 v d → P F2 O2 d → Q v H2) → L2.tLc (canI X tg iter) g (ttC X scope ifs) (teC X scope elt) vs σ H Q
theorem evp_lcp {elt iter : Expr} {ifs : List Expr} {scope : Scope} {own : List (Str × Nat)} {pos : Pos} {g : TG} {P : Hp → OW → D → Prop} (hc : X.calm = true) (hN : X.N.Nodup) (ok : BlkOk X.N X.env.scope scope own)
    (hg : ∀ (s : Shared) (H : Hp) (C : Addr) (cl : List (Str × Addr)) (fp : List Addr), PG (blkX X s H scope cl C fp) tg g) (h : LcP X Z elt tg iter ifs scope (own.map (·.2)) g F O ρ P)
    (hs : ∀ x, foldedSetIterable iter X.env x = pure x := by intro _; rfl) : EvP X Z (.ListComp elt [⟨tg, iter, ifs, 0⟩] scope pos) F O ρ P :=
  .mk fun T σ H S Q q => canE_of (pe_lc (own := own) (g := g) (wi := canI X tg iter) (tt := ttC X scope ifs) (te := teC X scope elt) hc hN pi_can ok hg (fun s H' C cl fp => ⟨fun pins s2 _ _ _ I k => k s H' C cl fp pins s2 I⟩) (fun s H' C cl fp => ⟨fun pins s2 _ _ _ I k => k s H' C cl fp pins s2 I⟩) hs) (h.run T σ H S Q q)
/-- x = [..], x a local that no block reads -/
theorem wp_lcp {i : Nat} {x : Str} {px spos : Pos} {elt iter : Expr} {ifs : List Expr} {scope : Scope} {own : List (Str × Nat)} {pos : Pos} {g : TG} {N : Post} (hc : X.calm = true) (hN : X.N.Nodup) (ok : BlkOk X.N X.env.scope scope own)
    (hg : ∀ (s : Shared) (H : Hp) (C : Addr) (cl : List (Str × Addr)) (fp : List Addr), PG (blkX X s H scope cl C fp) tg g) (h : LcP X Z elt tg iter ifs scope (own.map (·.2)) g F O ρ fun F1 O1 d => N.nx F1 O1 (ρ.set i (some d)))
    (hi : X.N[i]? = some x := by rfl) (hl : X.env.scope.names.lookup x = some .local := by rfl)
    (hsw : swapsWith (.ListComp elt [⟨tg, iter, ifs, 0⟩] scope pos) (some (.Name x px)) spos.line X.env = pure true := by exact sw_true rfl rfl rfl rfl)
    (hs : ∀ x, foldedSetIterable iter X.env x = pure x := by intro _; rfl) : Wp1 X Z (.Assign [.Name x px] (.ListComp elt [⟨tg, iter, ifs, 0⟩] scope pos) spos) F O ρ N :=
  .mk fun T σ H S D E => canS_of (ps_setLc (own := own) (g := g) (wi := canI X tg iter) (tt := ttC X scope ifs) (te := teC X scope elt) hc hN hi hl hsw pi_can ok hg (fun s H' C cl fp => ⟨fun pins s2 _ _ _ I k => k s H' C cl fp pins s2 I⟩) (fun s H' C cl fp => ⟨fun pins s2 _ _ _ I k => k s H' C cl fp pins s2 I⟩) hs)
    (h.run T σ H S _ fun F1 O1 H1 v d e1 S1 r1 p => E.nx F1 O1 _ _ H1 e1 ⟨S1.a, S1.sig.set r1 i⟩ p)
theorem LcP.imp {elt iter : Expr} {ifs : List Expr} {scope : Scope} {vs : List Nat} {g : TG} {P P' : Hp → OW → D → Prop} (h : LcP X Z elt tg iter ifs scope vs g F O ρ P) (i : ∀ F2 O2 d, Same F F2 → P F2 O2 d → P' F2 O2 d) : LcP X Z elt tg iter ifs scope vs g F O ρ P' :=
  .mk fun T σ H S Q q => h.run T σ H S Q fun F2 O2 H2 v d a b c p => q F2 O2 H2 v d a b c (i F2 O2 d a p)
theorem lcp_all {elt iter : Expr} {ifs : List Expr} {scope : Scope} {vs : List Nat} {g : TG} {up : D → Rho → Option Rho} {P : Hp → OW → D → Prop} (td : TgD X.K g vs up)
    (h : SrP X Z tg iter F O ρ fun F1 O1 xs => ∃ I : Nat → Hp → OW → List D → Prop, I 0 F1 O1 [] ∧
      (∀ (k : Nat) (d : D) F2 O2 acc Dl, Same F1 F2 → xs[k]? = some d → I k F2 O2 acc → acc.length ≤ k → ∀ F3, Same F2 F3 → ∃ ρ3, up d (wipeR ρ vs) = some ρ3 ∧
        ∀ (s : Shared) (H : Hp) (C : Addr) (cl : List (Str × Addr)) (fp : List Addr), TtP (blkX X s H scope cl C fp) Z0 ifs F3 ((Dl, .lst acc) :: O2) ρ3 fun F4 O4 b =>
          (b = true → ∀ (s : Shared) (H : Hp) (C : Addr) (cl : List (Str × Addr)) (fp : List Addr), EvP (blkX X s H scope cl C fp) Z0 elt F4 O4 ρ3 fun F5 O5 y => ∃ acc' O6, O5 = (Dl, .lst acc') :: O6 ∧ acc'.length < sizeLine ∧ acc'.length ≤ k ∧ I (k + 1) F5 O6 (acc' ++ [y])) ∧
          (b = false → ∃ acc' O6, O4 = (Dl, .lst acc') :: O6 ∧ acc'.length ≤ k ∧ I (k + 1) F4 O6 acc')) ∧
      ∀ F2 O2 acc, Same F1 F2 → I xs.length F2 O2 acc → acc.length ≤ xs.length → ∀ p, P F2 ((p, .lst acc) :: O2) (.raw (.ref p))) : LcP X Z elt tg iter ifs scope vs g F O ρ P :=
  .mk fun T σ H S Q q => by
    refine h T σ H S _ fun F1 O1 H1 J xs e1 S1 dt ⟨I, h0, ht, hd⟩ Dl hD => ?_
    refine ⟨fun i m H' => i + m = xs.length ∧ ∃ F2 O2 acc, Same F1 F2 ∧ StA X.K F2 ((Dl, .lst acc) :: O2) H' ∧ I i F2 O2 acc ∧ acc.length ≤ i, ⟨xs.length, by omega, F1, O1, [], Same.refl _, S1.a.push (e := .lst []) hD ⟨[], upd_same, .nil⟩, h0, Nat.le_refl _⟩, ?_⟩
    rintro i m H' ⟨em, F2, O2, acc, e2, S2, hI, hl⟩
    obtain ⟨stop, go, yld⟩ := dt i H' F2 _ e2 S2
    by_cases hi : i < xs.length
    · refine .inr ⟨go hi, fun H3 => ∃ F3 O3 acc3, Same F1 F3 ∧ StA X.K F3 ((Dl, .lst acc3) :: O3) H3 ∧ I (i + 1) F3 O3 acc3 ∧ acc3.length ≤ i + 1, fun H3 k => ⟨m - 1, by omega, by omega, k⟩, fun x H3 hy => ?_⟩
      have hd' : xs[i]? = some xs[i] := List.getElem?_eq_getElem hi
      obtain ⟨F3, e3, S3, r3⟩ := yld x H3 _ hd' hy
      have sg : Sig X.K F3 (wipeR ρ vs) (wipe σ vs) := (S1.sig.mono (e2.trans e3)).wipe _
      obtain ⟨ρ3, eu, hb⟩ := ht i _ F2 O2 acc Dl e2 hd' hI hl F3 e3
      refine td F3 _ _ _ H3 x _ ρ3 ⟨S3, sg⟩ r3 eu _ fun σ4 S4 ew => ⟨ew.trans (wipe_wipe _ _), fun s' H' C' cl' fp' => ?_⟩
      refine hb s' H' C' cl' fp' takesB σ4 H3 S4 _ fun F4 O4 H4 b e4 S4' ⟨pt, pf⟩ => ?_
      cases b with
      | true =>
        rw [if_pos rfl]
        intro s5 H5' C5 cl5 fp5
        refine pt rfl s5 H5' C5 cl5 fp5 takesB σ4 H4 S4' _ fun F5 O5 H5 v y e5 S5 r5 ⟨acc', O6, eo, h1, h2, hI'⟩ => ?_
        subst eo
        obtain ⟨hF, vs, hH, hr⟩ := S5.a.own _ List.mem_cons_self
        refine ⟨vs, hH, by rw [hr.length]; exact h1, F5, O6, acc' ++ [y], (((e2.trans e3).trans e4).trans e5), ?_, hI', by rw [List.length_append, List.length_singleton]; omega⟩
        exact S5.a.set (j := 0) (e' := .lst (acc' ++ [y])) rfl ⟨_, upd_same, hr.append (.cons r5 .nil)⟩
      | false =>
        rw [if_neg Bool.false_ne_true]
        obtain ⟨acc', O6, eo, h2, hI'⟩ := pf rfl
        subst eo
        exact ⟨F4, O6, acc', ((e2.trans e3).trans e4), S4'.a, hI', by omega⟩
    · have ei : i = xs.length := by omega
      subst ei
      exact .inl ⟨stop (Nat.le_refl _), q F2 _ H' _ _ (e1.trans e2) ⟨S2, S1.sig.mono e2⟩ (.raw _) (hd F2 O2 acc e2 hI hl Dl)⟩
end
end CR
/-! == and != of data. -/
namespace CR
open PySem PySem.Spec PyProof.Rows L2
mutual
def toPy : D → PyData
  | .bl b => .bool b
  | .int i => .int i
  | .str s => .str s
  | .lst xs => .list (toPys xs)
  | .frl xs => .list (toPys xs)
  | .tup xs => .tuple (toPys xs)
  | .non => .none
  | .emp => .none
  | .ins _ _ => .none
  | .raw _ => .none
def toPys : List D → List PyData
  | [] => []
  | x :: xs => toPy x :: toPys xs
end
/-- data that == may be asked of, n deep at most -/
def okD : Nat → D → Bool
  | _, .non => true
  | _, .bl _ => true
  | _, .int _ => true
  | _, .str s => PyData.strOk s
  | n + 1, .lst xs => xs.all (okD n)
  | n + 1, .frl xs => xs.all (okD n)
  | n + 1, .tup xs => xs.all (okD n)
  | _, _ => false
def deq (d e : D) : Bool := PyData.eqv (toPy d) (toPy e)
def deqs (d e : List D) : Bool := PyData.eqvAll (toPys d) (toPys e)
theorem ok_list (n : Nat) (h : ∀ d, okD n d = true → (toPy d).canLay0 = true ∧ (toPy d).depth ≤ n) : ∀ xs : List D, xs.all (okD n) = true → PyData.canLayAll0 (toPys xs) = true ∧ PyData.depthAll (toPys xs) ≤ n
  | [], _ => ⟨rfl, Nat.zero_le _⟩
  | x :: xs, hx => by
    rw [List.all_cons, Bool.and_eq_true] at hx
    obtain ⟨a, b⟩ := h x hx.1
    obtain ⟨c, d⟩ := ok_list n h xs hx.2
    exact ⟨by simp [toPys, PyData.canLayAll0, a, c], by simp [toPys, PyData.depthAll]; omega⟩
theorem ok_py : ∀ (n : Nat) (d : D), okD n d = true → (toPy d).canLay0 = true ∧ (toPy d).depth ≤ n
  | n, .non, _ => ⟨by simp [toPy, PyData.canLay0], by simp [toPy, PyData.depth]⟩
  | n, .bl _, _ => ⟨by simp [toPy, PyData.canLay0], by simp [toPy, PyData.depth]⟩
  | n, .int _, _ => ⟨by simp [toPy, PyData.canLay0], by simp [toPy, PyData.depth]⟩
  | n, .str s, h => by
    have h' : PyData.strOk s = true := by cases n <;> exact h
    exact ⟨by simp [toPy, PyData.canLay0, h'], by simp [toPy, PyData.depth]⟩
  | 0, .lst xs, h => by cases h
  | 0, .frl xs, h => by cases h
  | 0, .tup xs, h => by cases h
  | n + 1, .lst xs, h => by
    obtain ⟨a, b⟩ := ok_list n (ok_py n) xs h
    exact ⟨by simp [toPy, PyData.canLay0, a], by simp [toPy, PyData.depth]; omega⟩
  | n + 1, .frl xs, h => by
    obtain ⟨a, b⟩ := ok_list n (ok_py n) xs h
    exact ⟨by simp [toPy, PyData.canLay0, a], by simp [toPy, PyData.depth]; omega⟩
  | n + 1, .tup xs, h => by
    obtain ⟨a, b⟩ := ok_list n (ok_py n) xs h
    exact ⟨by simp [toPy, PyData.canLay0, a], by simp [toPy, PyData.depth]; omega⟩
  | n, .emp, h => by cases n <;> cases h
  | n, .ins _ _, h => by cases n <;> cases h
  | n, .raw _, h => by cases n <;> cases h
section
variable {K : PySem.W.Frag} {F H : Hp}
theorem dps (n : Nat) (hd : ∀ {v : V} {d : D}, okD n d = true → Is K F v d → Dp K H v (toPy d)) : ∀ {vs : List V} {ds : List D}, ds.all (okD n) = true → IsAll K F vs ds → DpAll K H vs (toPys ds)
  | _, _, _, .nil => .nil
  | _, _, h, .cons r t => by
    rw [List.all_cons, Bool.and_eq_true] at h
    exact .cons (hd h.1 r) (dps n hd h.2 t)
theorem dp_of (e : Same F H) : ∀ (n : Nat) {v : V} {d : D}, okD n d = true → Is K F v d → Dp K H v (toPy d)
  | _, _, _, _, .non => .non
  | _, _, _, _, .bl b => .bl b
  | _, _, _, _, .int i => .int i
  | _, _, _, _, .str s => .str s
  | 0, _, _, h, .lst _ _ => by cases h
  | 0, _, _, h, .frl _ _ => by cases h
  | 0, _, _, h, .tup _ _ => by cases h
  | n + 1, _, _, h, .lst ha hr => .lst (.inl (.inl (e _ _ ha))) (dps n (dp_of e n) h hr)
  | n + 1, _, _, h, .frl ha hr => .lst (e.seq ha) (dps n (dp_of e n) h hr)
  | n + 1, _, _, h, .tup ha hr => .tup (sqT_mono e ha) (dps n (dp_of e n) h hr)
  | n, _, _, h, .emp _ => by cases n <;> cases h
  | n, _, _, h, .ins _ _ => by cases n <;> cases h
  | n, _, _, h, .raw _ => by cases n <;> cases h
end
theorem shaped_of {d : D} (h : okD 9 d = true) : SeqAt.shaped (toPy d) = true := by
  obtain ⟨a, b⟩ := ok_py 9 d h
  unfold SeqAt.shaped
  rw [a, decide_eq_true (by omega)]
  rfl
section
variable {X : Cx} {F : Hp} {x y : D} {P : Hp → D → Prop} {k : Nat}
theorem opd_eq (hr : Room k X.A) (hx : okD 9 x = true) (hy : okD 9 y = true) (h : P F (.bl (deq x y))) : OpD X (compareOp .Eq) x y F P := OpD.of (op_eqD hr.units) fun O H v u S hv hu Q q =>
  ⟨_, _, dp_of S.ex 9 hx hv, dp_of S.ex 9 hy hu, shaped_of hx, shaped_of hy, q F H _ _ (Same.refl _) S (.bl _) h⟩
theorem opd_ne (hr : Room k X.A) (hx : okD 9 x = true) (hy : okD 9 y = true) (h : P F (.bl (!deq x y))) : OpD X (compareOp .NotEq) x y F P := OpD.of (op_neD hr.units) fun O H v u S hv hu Q q =>
  ⟨_, _, dp_of S.ex 9 hx hv, dp_of S.ex 9 hy hu, shaped_of hx, shaped_of hy, q F H _ _ (Same.refl _) S (.bl _) h⟩
theorem opd_eqI {i j : Int} (h : P F (.bl (decide (i = j)))) : OpD X (compareOp .Eq) (.int i) (.int j) F P := OpD.of op_eq fun O H v u S hv hu Q q => by
  cases hv; cases hu
  refine ⟨rfl, ?_⟩
  have e : decide (V.int i = V.int j) = decide (i = j) := by
    by_cases h : i = j
    · rw [decide_eq_true h, decide_eq_true (by rw [h])]
    · rw [decide_eq_false h, decide_eq_false (fun q => h (V.int.inj q))]
  rw [e]
  exact q F H _ _ (Same.refl _) S (.bl _) h
theorem opd_neI {i j : Int} (h : P F (.bl (!decide (i = j)))) : OpD X (compareOp .NotEq) (.int i) (.int j) F P := OpD.of op_ne fun O H v u S hv hu Q q => by
  cases hv; cases hu
  refine ⟨rfl, ?_⟩
  have e : decide (V.int i = V.int j) = decide (i = j) := by
    by_cases h : i = j
    · rw [decide_eq_true h, decide_eq_true (by rw [h])]
    · rw [decide_eq_false h, decide_eq_false (fun q => h (V.int.inj q))]
  rw [e]
  exact q F H _ _ (Same.refl _) S (.bl _) h
def isNonD : D → Bool
  | .non => true
  | _ => false
/-- is None, is not None: plain data -/
theorem opd_isN (h : P F (.bl (isNonD x))) (hx : ∀ v, x ≠ .raw v) : OpD X (compareOp .Is) x .non F P := OpD.of op_isN fun O H v u S hv hu Q q => by
  cases hu
  refine ⟨rfl, ?_⟩
  have e : decide (v = V.non) = isNonD x := by
    cases hv <;> first | rfl | exact absurd rfl (hx _)
  rw [e]
  exact q F H _ _ (Same.refl _) S (.bl _) h
theorem opd_notN (h : P F (.bl (!isNonD x))) (hx : ∀ v, x ≠ .raw v) : OpD X (compareOp .IsNot) x .non F P := OpD.of op_notN fun O H v u S hv hu Q q => by
  cases hu
  refine ⟨rfl, ?_⟩
  have e : (!decide (v = V.non)) = (!isNonD x) := by
    cases hv <;> first | rfl | exact absurd rfl (hx _)
  rw [e]
  exact q F H _ _ (Same.refl _) S (.bl _) h
end
/-! ### what == answers -/
theorem deq_int (i j : Int) : deq (.int i) (.int j) = decide (i = j) := rfl
theorem deqs_nil : deqs [] [] = true := by simp [deqs, toPys, PyData.eqvAll]
theorem deqs_cons (x y : D) (xs ys : List D) : deqs (x :: xs) (y :: ys) = (deq x y && deqs xs ys) := by simp [deqs, deq, toPys, PyData.eqvAll]
theorem deqs_nc (y : D) (ys : List D) : deqs [] (y :: ys) = false := by simp [deqs, toPys, PyData.eqvAll]
theorem deqs_cn (x : D) (xs : List D) : deqs (x :: xs) [] = false := by simp [deqs, toPys, PyData.eqvAll]
theorem deq_tup (xs ys : List D) : deq (.tup xs) (.tup ys) = deqs xs ys := by simp [deq, deqs, toPy, PyData.eqv]
theorem deq_lst (xs ys : List D) : deq (.lst xs) (.lst ys) = deqs xs ys := by simp [deq, deqs, toPy, PyData.eqv]
theorem deqs_ints : ∀ ns ms : List Int, deqs (ns.map .int) (ms.map .int) = decide (ns = ms)
  | [], [] => deqs_nil
  | [], m :: ms => deqs_nc _ _
  | n :: ns, [] => deqs_cn _ _
  | n :: ns, m :: ms => by
    rw [List.map_cons, List.map_cons, deqs_cons, deq_int, deqs_ints ns ms]
    by_cases h : n = m <;> by_cases h2 : ns = ms <;> simp [h, h2]
theorem deq_pair (a b c d : Int) : deq (.tup [.int a, .int b]) (.tup [.int c, .int d]) = decide (a = c ∧ b = d) := by
  rw [deq_tup, deqs_cons, deqs_cons, deqs_nil, deq_int, deq_int]
  by_cases h : a = c <;> by_cases h2 : b = d <;> simp [h, h2]
theorem okD_ints (n : Nat) (ns : List Int) : (ns.map D.int).all (okD n) = true := by
  rw [List.all_eq_true]
  intro d hd
  obtain ⟨i, _, rfl⟩ := List.mem_map.mp hd
  cases n <;> rfl
mutual
theorem deq_refl : ∀ (n : Nat) (d : D), okD n d = true → deq d d = true
  | n, .non, _ => by simp [deq, toPy, PyData.eqv]
  | n, .bl b, _ => by simp [deq, toPy, PyData.eqv]
  | n, .int _, _ => by simp [deq, toPy, PyData.eqv]
  | n, .str s, h => by simp [deq, toPy, PyData.eqv]
  | 0, .lst xs, h => by cases h
  | 0, .frl xs, h => by cases h
  | 0, .tup xs, h => by cases h
  | n + 1, .lst xs, h => by rw [deq_lst]; exact deqs_refl n xs h
  | n + 1, .frl xs, h => by show deq (.frl xs) (.frl xs) = true; simp only [deq, toPy, PyData.eqv]; exact deqs_refl n xs h
  | n + 1, .tup xs, h => by rw [deq_tup]; exact deqs_refl n xs h
  | n, .emp, h => by cases n <;> cases h
  | n, .ins _ _, h => by cases n <;> cases h
  | n, .raw _, h => by cases n <;> cases h
theorem deqs_refl : ∀ (n : Nat) (xs : List D), xs.all (okD n) = true → deqs xs xs = true
  | n, [], _ => deqs_nil
  | n, x :: xs, h => by
    rw [List.all_cons, Bool.and_eq_true] at h
    rw [deqs_cons, deq_refl n x h.1, deqs_refl n xs h.2]
    rfl
end
end CR
/-! Slices, calls of values, more statements. -/
namespace CR
open PySem PySem.Spec PyProof.Rows L2
/-! ### t[::-1] of a tuple -/
theorem rev_adjust (n : Nat) : Builtin.Slice.sliceAdjust none none (-1) (n : Int) = ((n : Int) - 1, -1) := rfl
theorem rev_places (n : Nat) : Builtin.Slice.slicePlaces ((n : Int) - 1) (-1) (-1) = n := by
  unfold Builtin.Slice.slicePlaces
  rw [if_neg (by decide)]
  by_cases h : (n : Int) - 1 > -1
  · rw [if_pos h, show (-(-1 : Int)) = 1 from rfl, Int.ediv_one]
    omega
  · rw [if_neg h]
    omega
theorem rev_pick (xs : Array Value) : ((List.range xs.size).filterMap fun (k : Nat) => xs[((xs.size : Int) - 1 + (k : Int) * (-1)).toNat]?).toArray = xs.toList.reverse.toArray := by
  congr 1
  have e : ∀ m : Nat, m ≤ xs.size → (List.range m).filterMap (fun (k : Nat) => xs[((xs.size : Int) - 1 + (k : Int) * (-1)).toNat]?) = xs.toList.reverse.take m := by
    intro m
    induction m with
    | zero => intro _; rfl
    | succ m ih =>
      intro hm
      have hl : m < xs.toList.reverse.length := by rw [List.length_reverse, Array.length_toList]; omega
      rw [List.range_succ, List.filterMap_append, ih (by omega), List.take_add_one, List.getElem?_eq_getElem hl]
      have e1 : ((xs.size : Int) - 1 + (m : Int) * (-1)).toNat = xs.size - 1 - m := by omega
      have e2 : xs.size - 1 - m < xs.size := by omega
      simp only [List.filterMap_cons, List.filterMap_nil, e1, Array.getElem?_eq_getElem e2, Option.toList_some, List.getElem_reverse, Array.length_toList, Array.getElem_toList]
  have := e xs.size (Nat.le_refl _)
  rw [this]
  exact List.take_of_length_le (by rw [List.length_reverse, Array.length_toList]; exact Nat.le_refl _)
section
variable {prog : Program} {w : World} {A : Around} {E : Value → Shared → Prop} {s : Shared}
theorem rev_applied {sl : Addr} {vl vu vs : Value} {n : Nat} {Q : Int × Int × Nat → Shared → Prop} (hs : s.heap.IsSliceOf sl vl vu vs) (pl : IsPart vl none) (pu : IsPart vu none) (ps : IsPart vs (some (-1)))
    (h : Q ((n : Int) - 1, -1, n) s) : wpAny (model prog w) A (Builtin.Slice.sliceApplied (.ref sl) (pure (n : Int))) Q E s := by
  obtain ⟨os, hos, _, hds⟩ := id hs
  unfold Builtin.Slice.sliceApplied Builtin.Slice.sliceFields
  refine wpAny_bind (wpAny_bind (wpAny_field hos hds (x := vl) rfl (wpAny_bind (wpAny_field hos hds (x := vu) rfl (wpAny_bind (wpAny_field hos hds (x := vs) rfl (wpAny_pure ?_)))))))
  refine wpAny_bind (HT.slicePart_ ps ?_)
  show wpAny _ _ (if ((-1 : Int) == 0) = true then _ else _) _ _ s
  rw [if_neg (by decide)]
  refine wpAny_bind (HT.slicePart_ pl (wpAny_bind (HT.slicePart_ pu (wpAny_bind (wpAny_pure ?_)))))
  show wpAny _ _ (match Builtin.Slice.sliceAdjust none none (-1) (n : Int) with | (lo, hi) => pure (lo, (-1 : Int), Builtin.Slice.slicePlaces lo hi (-1))) _ _ s
  rw [rev_adjust n]
  show wpAny _ _ (pure ((n : Int) - 1, (-1 : Int), Builtin.Slice.slicePlaces ((n : Int) - 1) (-1) (-1))) _ _ s
  rw [rev_places]
  exact wpAny_pure h
theorem item_tuple_rev {t sl : Addr} {items : Array Value} {vl vu vs : Value} {Q : Value → Shared → Prop} (ht : IsTup s.heap t items) (hs : s.heap.IsSliceOf sl vl vu vs) (pl : IsPart vl none) (pu : IsPart vu none) (ps : IsPart vs (some (-1)))
    (h : Q (.ref s.heap.objs.size) { s with heap := s.heap.push { cls := .type "tuple", data := .seq items.toList.reverse.toArray } }) (hsz : items.size ≤ sizeLine) : wpAny (model prog w) A (getItem (.ref t) (.ref sl)) Q E s := by
  have fit : sizeOk (.seq items.toList.reverse.toArray) := by
    show items.toList.reverse.toArray.size ≤ sizeLine
    rw [List.size_toArray, List.length_reverse, Array.length_toList]
    exact hsz
  obtain ⟨os, hos, hcs, _⟩ := id hs
  have hTs : s.TypeIs (.ref sl) "slice" := ⟨os, hos, hcs⟩
  unfold getItem
  try with_reducible refine wpAny_holding ?_
  first | refine wpAny_bind (wpAny_pure ?_) | skip
  refine wpAny_bind (wpAny_sequenceKey ht.typeIs (by decide) ?_)
  refine wpAny_bind (wpAny_callSpecial?_slot (name := Str.ofString "__getitem__") ht.typeIs PyProof.Rows.slot_tuple_getitem (wpAny_call_entry PyProof.Rows.slot_tuple_getitem ht.typeIs entry_tuple_getitem ?_ (args_tuple_getitem _ _)))
  show wpAny _ _ (Builtin.Tuple.tupleItemsOf (.ref t) >>= _) _ _ s
  refine wpAny_bind (tupleItemsOf_ ht (wpAny_bind (wpAny_typeOf hTs ?_)))
  rw [if_pos (by decide)]
  refine wpAny_bind (rev_applied hs pl pu ps ?_)
  show wpAny _ _ (if (((items.size : Int) - 1 == 0) && ((-1 : Int) == 1) && items.size == items.size) = true then _ else _) _ _ s
  rw [if_neg (by rw [show ((-1 : Int) == 1) = false from rfl]; simp), rev_pick]
  first
    | exact wpAny_bind (m := Builtin.Tuple.tupleExact _) (wpAny_newObj_type (wpAny_pure ⟨_, rfl, wpAny_pure h⟩) fit)
    | exact wpAny_bind (m := Builtin.Tuple.tupleExact _) (wpAny_newObj_type (wpAny_bind (wpAny_pure (wpAny_pure ⟨_, rfl, wpAny_pure h⟩))) fit)
end
def tRevT (K : PySem.W.Frag) (te : TE) : TE := fun σ H Q => te σ H fun x H1 => ∃ a xs, x = .ref a ∧ SqT K H1 a xs ∧ ∀ p, H1 p = none → Q (.ref p) (upd H1 p (.tup xs.reverse))
theorem pe_revT {X : Cx} {e : Expr} {te : TE} {k : Nat} {p1 p2 p3 pos : Pos} (he : PE X e te) : PE X (.Subscript e (.Slice none none (some (.UnaryOp .USub (.Constant (.int 1) k p1) p2)) p3) pos) (tRevT X.K te) := by
  refine ⟨fun pins s σ H Q I h => Subscript_ (thn (he.run pins s σ H _ I h) fun v s1 ⟨x, H1, I1, r1, q1⟩ => ?_)⟩
  obtain ⟨a, xs, rfl, hx, q⟩ := q1
  cases r1
  have part : PO X (some (.UnaryOp .USub (.Constant (.int 1) k p1) p2)) (tPart (tUn (rU fun i => .int (-i)) (tC (.int 1)))) := po_some (pe_un un_neg pe_int)
  refine wpAny_Slice (thn (po_none.run pins s1 σ H1 (fun o H2 => o = none ∧ H2 = H1) I1 ⟨rfl, rfl⟩) fun vl s2 ⟨l, H2, I2, pl, el, e2⟩ => ?_)
  subst el e2
  refine thn (po_none.run pins s2 σ H2 (fun o H3 => o = none ∧ H3 = H2) I2 ⟨rfl, rfl⟩) fun vu s3 ⟨u, H3, I3, pu, eu, e3⟩ => ?_
  subst eu e3
  refine thn (part.run pins s3 σ H3 (fun o H4 => o = some (-1) ∧ H4 = H3) I3 ⟨1, rfl, -1, rfl, rfl, rfl⟩) fun vs s4 ⟨o, H4, I4, ps, eo, e4⟩ => ?_
  subst eo e4
  have I5 : Inv X pins σ H4 { s4 with heap := s4.heap.push { cls := .type "slice", data := .fields #[vl, vu, vs] } } := I4.kept (t' := s4.toks) fun b ob q => Heap.get?_push_of_some _ q
  obtain ⟨its, r, ht, hz⟩ := I5.tuple hx
  have hlen := r.length
  refine tail_any (ops := [.ref a, .ref s4.heap.objs.size]) ht.typeIs (PyProof.Rows.slot_tuple_getitem.lookup) ?_ (by with_unfolding_all rfl)
  refine item_tuple_rev ht (Heap.IsSliceOf.new _ vl vu vs) pl pu ps ?_ (by rw [List.size_toArray]; omega)
  refine ⟨.ref _, _, I5.laid (t' := s4.toks) (o := .tup xs.reverse) (fun b ob q => Heap.get?_push_of_some _ q) (Nat.le_refl _) ?_, rfl, q _ (I5.hok.fresh (Nat.le_refl _))⟩
  exact ⟨by rw [List.length_reverse]; exact hz, _, r.reverse, _, Heap.get?_push_size _ rfl, rfl, 0, rfl⟩
section
variable {X : Cx} {Z : ZP} {F : Hp} {O : OW} {ρ : Rho}
theorem evp_revT {e : Expr} {k : Nat} {p1 p2 p3 pos : Pos} {P : Hp → OW → D → Prop} (h : EvP X Z e F O ρ fun F1 O1 d => ∃ xs, d = .tup xs ∧ ∀ F2, Same F1 F2 → P F2 O1 (.tup xs.reverse)) :
    EvP X Z (.Subscript e (.Slice none none (some (.UnaryOp .USub (.Constant (.int 1) k p1) p2)) p3) pos) F O ρ P :=
  .mk fun T σ H S Q q => canE_of (pe_revT pe_can) (h T σ H S _ fun F1 O1 H1 v d e1 S1 r1 ⟨xs, ed, p⟩ => by
    subst ed
    cases r1 with
    | tup ha hr =>
      refine ⟨_, _, rfl, sqT_mono S1.a.ex ha, fun q' hq' => ?_⟩
      obtain ⟨a1, a2, a3⟩ := S1.a.newT hq' hr.reverse
      exact q _ O1 _ _ _ (e1.trans a1) ⟨a2, S1.sig.mono a1⟩ a3 (p _ a1))
/-! ### slices -/
def PrP (X : Cx) (Z : ZP) (o : Option Expr) (F : Hp) (O : OW) (ρ : Rho) (P : Hp → OW → Option Int → Prop) : Prop := match o with
  | none => P F O none
  | some e => EvP X Z e F O ρ fun F1 O1 d => ∃ i, d = .int i ∧ P F1 O1 (some i)
def tPr (X : Cx) : Option Expr → TO
  | none => tNoPart
  | some e => tPart (canE X e)
theorem po_can {X : Cx} : ∀ {o : Option Expr}, PO X o (tPr X o)
  | none => po_none
  | some _ => po_some pe_can
theorem prp_run {o : Option Expr} {P : Hp → OW → Option Int → Prop} (h : PrP X Z o F O ρ P) (T : Takes X (wz X.K F Z)) {σ : L2.St} {H : Hp} (S : Sta X.K F O ρ σ H) {Q : Option Int → Hp → Prop} (q : ∀ F2 O2 H2 i, Same F F2 → Sta X.K F2 O2 ρ σ H2 → P F2 O2 i → Q i H2) : tPr X o σ H Q := by
  cases o with
  | none => exact q F O H none (Same.refl _) S h
  | some e =>
    exact EvP.run h T σ H S _ fun F1 O1 H1 v d e1 S1 r1 ⟨i, ed, p⟩ => by
      subst ed
      cases r1
      exact ⟨i, rfl, q F1 O1 H1 _ e1 S1 p⟩
theorem prp_none {P : Hp → OW → Option Int → Prop} (h : P F O none) : PrP X Z none F O ρ P := h
/-! ### calls of values -/
/-- f(e, ..), f any expression that gives a def -/
def tCallE (X : Cx) (Z : ZP) (k : Nat) (fe : Expr) (t : TA) (F : Hp) : TE := fun σ H Q => canE X fe σ H fun x H1 => ∃ (a : Addr) (ps : List Str) (S : Spec), x = .ref a ∧ Fa X.prog X.w X.K X.mg X.base a k ps S ∧ t σ H1 fun vs H2 => spD X.K S vs H2 Q (WE (wz X.K F Z) σ)
theorem pe_callE {fe e : Expr} {es : List Expr} {k : Nat} {t : TA} {pos : Pos} (tk : Takes X (wz X.K F Z)) (hr : Room k X.A) (ha : PA X (e :: es) t)
    (h0 : eval (.Call fe (e :: es) [] pos) X.env = (do callWith pos (← eval fe X.env) [] (backTo pos (starEach (e :: es) X.env)) (backToKw pos (keywordEach [] X.env))) := by rfl)
    (he : starEach (e :: es) X.env = (false, eval e X.env) :: starEach es X.env := by rfl) (hpl : (backTo pos (starEach es X.env)).any (·.1) = false := by rfl) :
    PE X (.Call fe (e :: es) [] pos) (tCallE X Z k fe t F) := by
  refine ⟨fun pins s σ H Q I h => ?_⟩
  rw [h0]
  refine wpAny_bind (thn (h pins s I) fun u s1 ⟨x, H1, I1, r1, a, ps, S, ex, ⟨fd, Fn, kp, bn⟩, q⟩ => ?_)
  subst ex
  cases r1
  refine PySem.W.callWith_K (h₀ := X.base) I.ok.mod.kin kp (thn (ha.run pos pins s1 σ _ _ I1 q) fun us s2 ⟨vs, H2, I2, r, q2⟩ => ⟨I2.kIn, ?_⟩) he hpl
  exact run_fnS (E := fun σ => WE (wz X.K F Z) σ) Fn hr bn (passAt tk σ) I2 r q2
theorem evp_callE {fe e : Expr} {es : List Expr} {k : Nat} {pos : Pos} {P : Hp → OW → D → Prop} (hr : Room k X.A)
    (h : EvP X Z fe F O ρ fun F1 O1 d => ∃ (a : Addr) (k' : Nat) (ps : List Str) (S : Spec), d = .raw (.ref a) ∧ Fa X.prog X.w X.K X.mg X.base a k' ps S ∧ k' ≤ k ∧ ArP X Z (e :: es) F1 O1 ρ fun F2 O2 ds => S.s F2 O2 ds P fun F3 O3 cls fs => Z F3 O3 ρ cls fs)
    (h0 : eval (.Call fe (e :: es) [] pos) X.env = (do callWith pos (← eval fe X.env) [] (backTo pos (starEach (e :: es) X.env)) (backToKw pos (keywordEach [] X.env))) := by rfl)
    (he : starEach (e :: es) X.env = (false, eval e X.env) :: starEach es X.env := by rfl) (hpl : (backTo pos (starEach es X.env)).any (·.1) = false := by rfl) :
    EvP X Z (.Call fe (e :: es) [] pos) F O ρ P :=
  .mk fun T σ H S Q q => canE_of (pe_callE (Z := Z) (F := F) T hr pa_can h0 he hpl) (h T σ H S _ fun F1 O1 H1 v d e1 S1 r1 ⟨a, k', ps, Sp, ed, G, hk, ar⟩ => by
    subst ed
    cases r1
    refine ⟨a, ps, Sp, rfl, G.mono hk, ar (tkm T e1) σ H1 S1 _ fun F2 O2 H2 vs ds e2 S2 r2 hs => ?_⟩
    exact spD_E (fun _ _ _ => WE_mono (e1.trans e2)) (spD_at S2 r2 hs fun F3 O3 H3 v3 d3 e3 => q F3 O3 H3 v3 d3 ((e1.trans e2).trans e3)))
/-- a, b, c = e, e', e'' -/
theorem wp_par3 {i j l : Nat} {x y z : Str} {a b c : Expr} {px py pz pt pos pt2 : Pos} {kt k2 : Nat} {N : Post} (h : EvP X Z a F O ρ fun F1 O1 d1 => EvP X Z b F1 O1 ρ fun F2 O2 d2 => EvP X Z c F2 O2 ρ fun F3 O3 d3 => N.nx F3 O3 (((ρ.set i (some d1)).set j (some d2)).set l (some d3)))
    (hc : X.calm = true) (hN : X.N.Nodup) (hi : X.N[i]? = some x := by rfl) (hj : X.N[j]? = some y := by rfl) (hl : X.N[l]? = some z := by rfl) (hij : i ≠ j := by decide) (hil : i ≠ l := by decide) (hjl : j ≠ l := by decide)
    (hx : X.env.scope.names.lookup x = some .local := by rfl) (hy : X.env.scope.names.lookup y = some .local := by rfl) (hz : X.env.scope.names.lookup z = some .local := by rfl)
    (hw : swappedStores [.Tuple [.Name x px, .Name y py, .Name z pz] kt pt] (.Tuple [a, b, c] k2 pt2) X.env = pure (some [x, y, z]) := by rfl)
    (hs : swapsWithSole [.Tuple [.Name x px, .Name y py, .Name z pz] kt pt] (.Tuple [a, b, c] k2 pt2) pos.line X.env = pure false := by rfl)
    (he1 : starEach [a, b, c] X.env = (false, eval a X.env) :: starEach [b, c] X.env := by rfl) (he2 : starEach [b, c] X.env = (false, eval b X.env) :: starEach [c] X.env := by rfl) (he3 : starEach [c] X.env = (false, eval c X.env) :: starEach [] X.env := by rfl) :
    Wp1 X Z (.Assign [.Tuple [.Name x px, .Name y py, .Name z pz] kt pt] (.Tuple [a, b, c] k2 pt2) pos) F O ρ N :=
  .mk fun T σ H S D E => canS_of (ps_par3 hc hN hi hj hl hij hil hjl hx hy hz (pa_cons pe_can (pa_cons pe_can (pa_cons pe_can pa_nil he3) he2) he1) hw hs)
    (h T σ H S _ fun F1 O1 H1 v d e1 S1 r1 k => k (tkm T e1) σ H1 S1 _ fun F2 O2 H2 u d2 e2 S2 r2 k2 => k2 (tkm T (e1.trans e2)) σ H2 S2 _ fun F3 O3 H3 t d3 e3 S3 r3 p =>
      ⟨v, u, t, rfl, E.nx F3 O3 _ _ H3 ((e1.trans e2).trans e3) ⟨S3.a, ((S3.sig.set (r1.mono (e2.trans e3)) i).set (r2.mono e3) j).set r3 l⟩ p⟩)
end
end CR
/-! What a row's head tells of the heap, and the end of a law. -/
namespace CR
open PySem PySem.Spec PyProof.Rows L2
/-! ### what is looked at -/
def frC (n : Nat) (g : Addr → Option Obj) : PySem.W.Frag := He.frG g (cStatics :: He.asD g n)
abbrev AlC : Type := He.AlD × Bool
def obsC (n : Nat) (fa : List He.Fa) (fn : List He.DefD) (ex : PySem.W.Frag → Bool) (g : Addr → Option Obj) : AlC := (He.obsD fa fn (frC n g), ex (frC n g))
def hookC (n : Nat) (fa : List He.Fa) (fn : List He.DefD) (ex : PySem.W.Frag → Bool) : PySem.W.Hook where
  α := AlC
  obs := fun s => obsC n fa fn ex s.heap.get?
  val := fun _ => (He.valD fn, true)
  says := fun _ h => ∃ K : PySem.W.Frag, K.In h ∧ He.SaysD fa fn K ∧ ex K = true
  of := fun _ _ e => ⟨_, He.frG_in, (Prod.mk.inj e).1, (Prod.mk.inj e).2⟩
  keeps := fun _ _ _ ⟨K, hK, c⟩ k => ⟨K, PySem.W.Frag.In.keeps hK k, c⟩
theorem obsC_eq {n : Nat} {fa : List He.Fa} {fn : List He.DefD} {ex : PySem.W.Frag → Bool} {g : Addr → Option Obj} {s : Shared} (h : ∀ a, g a = s.heap.get? a) : obsC n fa fn ex g = (hookC n fa fn ex).obs s := by
  have e : g = s.heap.get? := funext h
  rw [e]
  rfl
/-! ### own exceptions -/
def iniB (K : PySem.W.Frag) (C : Addr) : Bool := decide (PySem.W.findIn K (.ref C) "__init__" = some (some (.ref (He.ma K C "__init__")))) && decide (PySem.W.typeIn K (.ref (He.ma K C "__init__")) = some (.type "function"))
def exA (base : Str) (e0 : List Str) (e1 : List (Str × Str)) (K : PySem.W.Frag) : Bool :=
  baseB K (He.ga K base) && (e0.all fun x => oexB K (He.ga K x) && (iniB K (He.ga K x) && xfB K (He.ga K x))) && (e1.all fun q => oexB K (He.ga K q.1) && (iniB K (He.ga K q.1) && (xfB K (He.ga K q.1) && decide (PySem.W.findIn K (.ref (He.ga K q.1)) q.2 = some none))))
structure EF (K : PySem.W.Frag) (x : Str) : Prop where
  oex : OexC K (He.ga K x)
  ini : PySem.W.findIn K (.ref (He.ga K x)) "__init__" = some (some (.ref (He.ma K (He.ga K x) "__init__")))
  ty : PySem.W.typeIn K (.ref (He.ma K (He.ga K x) "__init__")) = some (.type "function")
  xf : XfC K (He.ga K x)
/-! ### the whole -/
structure Has (fa : List He.Fa) (fn : List He.DefD) (ex : PySem.W.Frag → Bool) (K : PySem.W.Frag) (mg : Str → Option Value) : Prop where
  ns : ∃ h : Heap, K.In h ∧ h.Ns mainGlobals mg
  d : He.SaysD fa fn K
  ex : ex K = true
section
variable {fa : List He.Fa} {fn : List He.DefD} {ex : PySem.W.Frag → Bool} {K : PySem.W.Frag} {mg : Str → Option Value} {base : Str} {e0 : List Str} {e1 : List (Str × Str)}
theorem Has.glo (c : Has fa fn ex K mg) (i : Nat) {x : Str} (h : fa[i]? = some (.glo x) := by rfl) : mg x = some (.ref (He.ga K x)) := by
  obtain ⟨hp, X, G⟩ := c.ns
  exact He.glo_ok X G (c.d.fact i h)
theorem Has.free (c : Has fa fn ex K mg) (i : Nat) {x : Str} (h : fa[i]? = some (.free x) := by rfl) : mg x = none := by
  obtain ⟨hp, X, G⟩ := c.ns
  exact He.free_ok X G (c.d.fact i h)
theorem Has.int (c : Has fa fn ex K mg) (i : Nat) {x : Str} {j : Int} (h : fa[i]? = some (.int x j) := by rfl) : ∃ t, mg x = some (.int j t) := by
  obtain ⟨hp, X, G⟩ := c.ns
  exact He.int_ok X G (c.d.fact i h)
theorem Has.str (c : Has fa fn ex K mg) (i : Nat) {x z : Str} (h : fa[i]? = some (.str x z) := by rfl) : ∃ t, mg x = some (.str z t) := by
  obtain ⟨hp, X, G⟩ := c.ns
  exact He.str_ok X G (c.d.fact i h)
theorem Has.exm (c : Has fa fn ex K mg) (i : Nat) {x y : Str} {b : Bool} (h : fa[i]? = some (.exm x y b) := by rfl) : PySem.W.exmOne K (.ref (He.ga K x)) (.ref (He.ga K y)) = some b := He.exm_ok (c.d.fact i h)
theorem Has.bas (c : Has fa fn (exA base e0 e1) K mg) : BaseC K (He.ga K base) := by
  obtain ⟨h, _⟩ := He.ba c.ex
  obtain ⟨h, _⟩ := He.ba h
  exact baseB_ok h
theorem Has.x0 (c : Has fa fn (exA base e0 e1) K mg) (i : Nat) {x : Str} (h : e0[i]? = some x := by rfl) : EF K x := by
  obtain ⟨h1, _⟩ := He.ba c.ex
  obtain ⟨_, h2⟩ := He.ba h1
  have q := List.all_eq_true.mp h2 x (List.mem_of_getElem? h)
  obtain ⟨a, q⟩ := He.ba q
  obtain ⟨b, d⟩ := He.ba q
  obtain ⟨b1, b2⟩ := He.ba b
  exact ⟨oexB_ok a, of_decide_eq_true b1, of_decide_eq_true b2, xfB_ok d⟩
theorem Has.x1 (c : Has fa fn (exA base e0 e1) K mg) (i : Nat) {x f : Str} (h : e1[i]? = some (x, f) := by rfl) : EF K x ∧ PySem.W.findIn K (.ref (He.ga K x)) f = some none := by
  obtain ⟨_, h2⟩ := He.ba c.ex
  have q := List.all_eq_true.mp h2 (x, f) (List.mem_of_getElem? h)
  obtain ⟨a, q⟩ := He.ba q
  obtain ⟨b, q⟩ := He.ba q
  obtain ⟨b1, b2⟩ := He.ba b
  obtain ⟨d, e⟩ := He.ba q
  exact ⟨⟨oexB_ok a, of_decide_eq_true b1, of_decide_eq_true b2, xfB_ok d⟩, of_decide_eq_true e⟩
end
/-- a def at the module's top: its body keeps the promise -/
theorem fc_go {P : Program} {w : World} {K : PySem.W.Frag} {mg : Str → Option Value} {base : Heap} {fa : List He.Fa} {fn : List He.DefD} {ex : PySem.W.Frag → Bool} {x : Str} {params : Arguments} {body : List Stmt} {scope : Scope} {N ps : List Str} {k : Nat} {S : Spec}
    (c : Has fa fn ex K mg) (i j : Nat) (sc : FnScope N ps scope)
    (len : ∀ F O ds RT XC, S.s F O ds RT XC → ds.length = ps.length)
    (hb : ∀ (cdv : Value) (f : Addr) (A : Around) (outer : List Env) (s : Shared) (H : Hp) (E : XK) (F : Hp) (O : OW) (ds : List D) (RT : Hp → OW → D → Prop) (XC : Hp → OW → Value → List (Str × D) → Prop),
      Room k (A.deeper (envOfC x scope s.heap.objs.size f cdv)) → S.s F O ds RT XC →
      WpS (cxOf (L2.CX P w) P w K mg base N x scope f cdv A outer s H E) (fun F2 O2 _ c fs => XC F2 O2 c fs) body F O (ds.map some ++ List.replicate (N.length - ds.length) none) { nx := fun F2 O2 _ => RT F2 O2 .non, rt := RT })
    (bn : ∀ (kV doc pm : Value) (an : Option Addr) (cdv ct : Value) (us : List Value), us.length = ps.length → bindArgs (PySem.W.fnOf x x params body scope .none kV doc pm an cdv ct) ⟨us, []⟩ = pure (ps.zip us))
    (h1 : fn[i]? = some ⟨(x, none), x, x, params, body, scope, [], []⟩ := by rfl) (h2 : fa[j]? = some (.glo x) := by rfl) : Fc P w K mg base x (k + 1) ps S := by
  obtain ⟨fd, F⟩ := c.d.def_ i h1
  exact fc_mk F (c.glo j h2) (fn_ok F sc len fun cdv A outer s H E F O ds RT XC hr hs => hb cdv _ A outer s H E F O ds RT XC hr hs) bn
/-! ### the state's end -/
theorem outS_ret {mg : Str → Option Value} {d : D} {F : Hp} {O : OW} {RT : Hp → OW → D → Prop} {XC : Hp → OW → Value → List (Str × D) → Prop} (h : ∀ F2, Same F F2 → RT F2 O d) : outS mg (.ret d) F O RT XC := h
theorem outS_exc {mg : Str → Option Value} {x : Str} {fs : List (Str × D)} {F : Hp} {O : OW} {RT : Hp → OW → D → Prop} {XC : Hp → OW → Value → List (Str × D) → Prop} (h : ∀ F2 c, Same F F2 → mg x = some c → XC F2 O c fs) : outS mg (.exc x fs) F O RT XC := h
theorem outS_if {mg : Str → Option Value} {c : Prop} [Decidable c] {a b : Res} {F : Hp} {O : OW} {RT : Hp → OW → D → Prop} {XC : Hp → OW → Value → List (Str × D) → Prop} (h1 : c → outS mg a F O RT XC) (h2 : ¬ c → outS mg b F O RT XC) : outS mg (if c then a else b) F O RT XC := by
  by_cases h : c
  · rw [if_pos h]; exact h1 h
  · rw [if_neg h]; exact h2 h
/-- the law's promise -/
abbrev lawS (mg : Str → Option Value) (n : Nat) : Spec := puS mg (fun ns : List Int => [.frl (ns.map D.int)]) (fun ns => ns.length ≤ n) (fun _ => .ret (.bl true))
theorem isAll_frl {K : PySem.W.Frag} {F : Hp} (ns : List Int) : IsAll K F (ns.map V.int) (ns.map D.int) := IsAll.of_ints ns
theorem sta_only {K : PySem.W.Frag} {H : Hp} : StA K H [] H := ⟨Same.refl H, (fun x hx => absurd hx (List.not_mem_nil)), List.nodup_nil⟩
/-- the law's def: its body keeps the promise, at every base -/
theorem law_go {P : Program} {w : World} {K : PySem.W.Frag} {mg : Str → Option Value} {fa : List He.Fa} {fn : List He.DefD} {ex : PySem.W.Frag → Bool} {x y : Str} {params : Arguments} {body : List Stmt} {scope : Scope} {N : List Str} {k n : Nat}
    (c : Has fa fn ex K mg) (i : Nat) (sc : FnScope N [y] scope)
    (hb : ∀ (base : Heap) (cdv : Value) (f : Addr) (A : Around) (outer : List Env) (s : Shared) (H : Hp) (E : XK) (F : Hp) (O : OW) (ds : List D) (RT : Hp → OW → D → Prop) (XC : Hp → OW → Value → List (Str × D) → Prop),
      Room k (A.deeper (envOfC x scope s.heap.objs.size f cdv)) → (lawS mg n).s F O ds RT XC →
      WpS (cxOf (L2.CX P w) P w K mg base N x scope f cdv A outer s H E) (fun F2 O2 _ c fs => XC F2 O2 c fs) body F O (ds.map some ++ List.replicate (N.length - ds.length) none) { nx := fun F2 O2 _ => RT F2 O2 .non, rt := RT })
    (bn : ∀ (kV doc pm : Value) (an : Option Addr) (cdv ct : Value) (us : List Value), us.length = [y].length → bindArgs (PySem.W.fnOf x x params body scope .none kV doc pm an cdv ct) ⟨us, []⟩ = pure ([y].zip us))
    (h1 : fn[i]? = some ⟨(x, none), x, x, params, body, scope, [], []⟩ := by rfl) :
    ∃ fd, (∀ (s : Shared) (u : Value), BindsTo s fd ⟨[u], []⟩ [(y, u)]) ∧ ∀ base, FnOk P w K mg base (L2.CX P w) (k + 1) (He.ga K x) fd [y] (spD K (lawS mg n)) := by
  obtain ⟨fd, F⟩ := c.d.def_ i h1
  refine ⟨fd, fun s u => FunD.bindsA (ps := [y]) F bn s [u] rfl, fun base => fn_ok F sc ?_ fun cdv A outer s H E F O ds RT XC hr hs => hb base cdv _ A outer s H E F O ds RT XC hr hs⟩
  rintro F O ds RT XC ⟨ns, rfl, _⟩
  rfl
theorem law_wk {l : PySem.W.OpenLaw} {n k : Nat} {q : Program} {loose : List Str} {XP : (Str → Option Value) → Heap → Prop} {fa : List He.Fa} {fn : List He.DefD} {ex : PySem.W.Frag → Bool} {nn : Nat} {d : DefRec} {x : Str}
    (hn : l.most = some n) (hn2 : n ≤ sizeLine) (hdf : d.params.defaults = []) (hr : Room k callerA) (j : Nat) (hj : fa[j]? = some (.glo d.name))
    (L : ∀ (w : World) (K : PySem.W.Frag) (mg : Str → Option Value), Has fa fn ex K mg → ∃ fd, (∀ (s : Shared) (u : Value), BindsTo s fd ⟨[u], []⟩ [(x, u)]) ∧ ∀ base, FnOk l.prog w K mg base (L2.CX l.prog w) k (He.ga K d.name) fd [x] (spD K (lawS mg n))) :
    PySem.W.WalkO q loose XP (hookC nn fa fn ex).says l.row.toRowW d [] (fun f vs => PySem.call f vs) := by
  refine Att.attach_call hn hdf fun w s₀ s₁ mg mb fa' o pm cd doc a vs ns G Y ho hd hcd hmg hobj hints hlen hg => ?_
  obtain ⟨K, KX, cd', ce⟩ := Y
  have c : Has fa fn ex K mg := ⟨⟨_, KX, G.T.g⟩, cd', ce⟩
  obtain ⟨fd, hb, hF⟩ := L w K mg c
  obtain rfl : He.ga K d.name = fa' := Value.ref.inj (Option.some.inj ((c.glo j hj).symm.trans hmg))
  refine law_call KX G.T.g G.T.b G.T.builtins G.T.nolimit hg hobj hints (Nat.le_trans hlen hn2) hr
    (fun base _ _ => hF base) hb
    (fun H hO hS => ⟨H, [], [.frl (ns.map D.int)], sta_only, .cons (.frl hS (isAll_frl ns)) .nil, ns, rfl, hlen, fun F2 e _ v H2 S2 r => by cases r; rfl⟩)
    fun H e s' he => ?_
  obtain ⟨_, _, _, _, _, _, _, _, _, _, _, _, z⟩ := he
  exact z
end CR
/-! A module's tuple of strings. -/
namespace CR
open PySem PySem.Spec PyProof.Rows L2
def isStrV (v : Value) (z : Str) : Bool := match v with
  | .str y _ => decide (y = z)
  | _ => false
def strsB : List Value → List Str → Bool
  | [], [] => true
  | v :: vs, z :: zs => isStrV v z && strsB vs zs
  | _, _ => false
theorem strsB_ok : ∀ {vs : List Value} {zs : List Str}, strsB vs zs = true → Vals (zs.map V.str) vs
  | [], [], _ => .nil
  | [], _ :: _, h => by cases h
  | _ :: _, [], h => by cases h
  | v :: vs, z :: zs, h => by
    obtain ⟨h1, h2⟩ := He.ba h
    refine .cons ?_ (strsB_ok h2)
    unfold isStrV at h1
    split at h1
    · rename_i y t
      exact ⟨t, by rw [of_decide_eq_true h1]⟩
    · cases h1
def seqB (o : Obj) (zs : List Str) : Bool := decide (o.cls = .type "tuple") && match o.data with
  | .seq its _ => decide (its.size ≤ sizeLine) && strsB its.toList zs
  | _ => false
def tupB (x : Str) (zs : List Str) (K : PySem.W.Frag) : Bool := match PySem.W.nsIn K mainGlobals x with
  | some (some (.ref a)) => (match K.lookup a with
    | some o => seqB o zs
    | none => false)
  | _ => false
theorem tupB_ok {x : Str} {zs : List Str} {K : PySem.W.Frag} {h : Heap} {mg : Str → Option Value} (X : K.In h) (G : h.Ns mainGlobals mg) (c : tupB x zs K = true) : ∃ a, mg x = some (.ref a) ∧ ∀ F : Hp, SqT K F a (zs.map V.str) := by
  unfold tupB at c
  split at c
  · rename_i a e
    refine ⟨a, PySem.W.mg_of X G e, fun F => ?_⟩
    split at c
    · rename_i o eo
      obtain ⟨c1, c2⟩ := He.ba c
      split at c2
      · rename_i its n ed
        obtain ⟨c3, c4⟩ := He.ba c2
        exact .inr ⟨o, its, n, eo, of_decide_eq_true c1, ed, of_decide_eq_true c3, strsB_ok c4⟩
      · cases c2
    · cases c
  · cases c
theorem Has.tup {fa : List He.Fa} {fn : List He.DefD} {e1 : PySem.W.Frag → Bool} {K : PySem.W.Frag} {mg : Str → Option Value} {x : Str} {zs : List Str} (c : Has fa fn (fun K => e1 K && tupB x zs K) K mg) : ∃ a, mg x = some (.ref a) ∧ ∀ F : Hp, SqT K F a (zs.map V.str) := by
  obtain ⟨h, X, G⟩ := c.ns
  exact tupB_ok X G (He.ba c.ex).2
theorem isAll_strs {K : PySem.W.Frag} {F : Hp} : ∀ zs : List Str, IsAll K F (zs.map V.str) (zs.map D.str)
  | [] => .nil
  | z :: zs => .cons (.str z) (isAll_strs zs)
theorem evp_gts {X : Cx} {Z : ZP} {F : Hp} {O : OW} {ρ : Rho} {x : Str} {zs : List Str} {pos : Pos} {P : Hp → OW → D → Prop} (hm : ∃ a, X.mg x = some (.ref a) ∧ ∀ F : Hp, SqT X.K F a (zs.map V.str)) (h : P F O (.tup (zs.map .str))) (hg : Gl X x := by rfl) (hd : (x == ("__debug__" : Str)) = false := by decide) : EvP X Z (.Name x pos) F O ρ P := by
  obtain ⟨a, hm, ht⟩ := hm
  exact evp_c (v := .ref a) (pe_glob hg hm rfl hd) (fun F => .tup (ht F) (isAll_strs zs)) h
/-! ### a def's scope, looked at by the kernel alone -/
def scB (N P : List Str) (sc : Scope) : Bool :=
  decide (sc.kind = .function) && (!sc.isCoroutine && (!sc.isGenerator && (decide N.Nodup && (decide (N.take P.length = P) && (P.all (fun x => decide (sc.names.lookup x = some .local ∨ sc.names.lookup x = some .cell)) && sc.names.all (fun y => decide (y.2 ≠ .free)))))))
theorem scB_ok {N P : List Str} {sc : Scope} (h : scB N P sc = true) : FnScope N P sc := by
  unfold scB at h
  obtain ⟨h1, h⟩ := He.ba h
  obtain ⟨h2, h⟩ := He.ba h
  obtain ⟨h3, h⟩ := He.ba h
  obtain ⟨h4, h⟩ := He.ba h
  obtain ⟨h5, h⟩ := He.ba h
  obtain ⟨h6, h7⟩ := He.ba h
  exact ⟨of_decide_eq_true h1, by simpa using h2, by simpa using h3, of_decide_eq_true h4, of_decide_eq_true h5, fun x hx => of_decide_eq_true (List.all_eq_true.1 h6 x hx), fun y hy => of_decide_eq_true (List.all_eq_true.1 h7 y hy)⟩
end CR
/-! isinstance of a caught exception. -/
/-! Rules in the shape that the stepping wants. -/
namespace CR
open PySem PySem.Spec PyProof.Rows L2
section
variable {X : Cx} {Z : ZP} {F : Hp} {O : OW} {ρ : Rho}
theorem evp_gi {x : Str} {i : Int} {pos : Pos} {P : Hp → OW → D → Prop} (hm : ∃ t, X.mg x = some (.int i t)) (h : P F O (.int i)) (hg : Gl X x := by rfl) (hd : (x == ("__debug__" : Str)) = false := by decide) : EvP X Z (.Name x pos) F O ρ P := by
  obtain ⟨t, hm⟩ := hm
  exact evp_gint hm h hg hd
end
section
variable {X : Cx} {Z : ZP} {F : Hp} {O : OW} {ρ : Rho}
/-- a statement, then what is known behind it -/
theorem wps_seq {st : Stmt} {rest : List Stmt} {N : Post} (M : Hp → OW → Rho → Prop) (h1 : Wp1 X Z st F O ρ { N with nx := M }) (h2 : ∀ F2 O2 ρ2, Same F F2 → M F2 O2 ρ2 → WpS X Z rest F2 O2 ρ2 N) : WpS X Z (st :: rest) F O ρ N :=
  wps_cons <| .mk fun T σ H S D E => h1 T σ H S D ⟨fun F2 O2 ρ2 σ2 H2 a b m => E.nx F2 O2 ρ2 σ2 H2 a b (h2 F2 O2 ρ2 a m), E.rt, E.bk, E.ct⟩
end
theorem Fc.fa {P : Program} {w : World} {K : PySem.W.Frag} {mg : Str → Option Value} {base : Heap} {x : Str} {k : Nat} {ps : List Str} {S : Spec} {a : Addr} (h : Fc P w K mg base x k ps S) (g : mg x = some (.ref a)) : Fa P w K mg base a k ps S := by
  obtain ⟨f, e, q⟩ := h
  rw [g] at e
  cases e
  exact q
/-! == of tuples and lists of numbers -/
section
variable {X : Cx} {F : Hp} {P : Hp → D → Prop} {k : Nat} {a b c d : Int} {xs ys : List Int}
theorem okD_tups (xs : List Int) : okD 9 (.tup (xs.map .int)) = true := okD_ints 8 xs
theorem okD_lsts (xs : List Int) : okD 9 (.lst (xs.map .int)) = true := okD_ints 8 xs
theorem opd_neP (hr : Room k X.A) (h : P F (.bl (!decide (a = c ∧ b = d)))) : OpD X (compareOp .NotEq) (.tup [.int a, .int b]) (.tup [.int c, .int d]) F P := opd_ne hr rfl rfl (by rw [deq_pair]; exact h)
theorem opd_eqP (hr : Room k X.A) (h : P F (.bl (decide (a = c ∧ b = d)))) : OpD X (compareOp .Eq) (.tup [.int a, .int b]) (.tup [.int c, .int d]) F P := opd_eq hr rfl rfl (by rw [deq_pair]; exact h)
theorem opd_neTs (hr : Room k X.A) (h : P F (.bl (!decide (xs = ys)))) : OpD X (compareOp .NotEq) (.tup (xs.map .int)) (.tup (ys.map .int)) F P := opd_ne hr (okD_tups xs) (okD_tups ys) (by rw [deq_tup, deqs_ints]; exact h)
theorem opd_eqTs (hr : Room k X.A) (h : P F (.bl (decide (xs = ys)))) : OpD X (compareOp .Eq) (.tup (xs.map .int)) (.tup (ys.map .int)) F P := opd_eq hr (okD_tups xs) (okD_tups ys) (by rw [deq_tup, deqs_ints]; exact h)
theorem opd_neLs (hr : Room k X.A) (h : P F (.bl (!decide (xs = ys)))) : OpD X (compareOp .NotEq) (.lst (xs.map .int)) (.lst (ys.map .int)) F P := opd_ne hr (okD_lsts xs) (okD_lsts ys) (by rw [deq_lst, deqs_ints]; exact h)
theorem opd_eqLs (hr : Room k X.A) (h : P F (.bl (decide (xs = ys)))) : OpD X (compareOp .Eq) (.lst (xs.map .int)) (.lst (ys.map .int)) F P := opd_eq hr (okD_lsts xs) (okD_lsts ys) (by rw [deq_lst, deqs_ints]; exact h)
end
/-! splits of a Bool -/
section
variable {A B p : Prop} {b : Bool}
theorem bs_t (h : A) : (true = true → A) ∧ (true = false → B) := ⟨fun _ => h, fun q => by cases q⟩
theorem bs_f (h : B) : (false = true → A) ∧ (false = false → B) := ⟨(fun q => by cases q), fun _ => h⟩
theorem bs_d [Decidable p] (h1 : p → A) (h2 : ¬ p → B) : (decide p = true → A) ∧ (decide p = false → B) := ⟨fun q => h1 (of_decide_eq_true q), fun q => h2 (of_decide_eq_false q)⟩
theorem bs_nd [Decidable p] (h1 : ¬ p → A) (h2 : p → B) : ((!decide p) = true → A) ∧ ((!decide p) = false → B) := ⟨fun q => h1 (by simpa using q), fun q => h2 (by simpa using q)⟩
theorem bs_n (h1 : b = false → A) (h2 : b = true → B) : ((!b) = true → A) ∧ ((!b) = false → B) := ⟨fun q => h1 (by simpa using q), fun q => h2 (by simpa using q)⟩
theorem bs_b (h1 : b = true → A) (h2 : b = false → B) : (b = true → A) ∧ (b = false → B) := ⟨h1, h2⟩
end
theorem bs_nt {A B : Prop} (h : B) : ((!true) = true → A) ∧ ((!true) = false → B) := bs_f h
theorem bs_nf {A B : Prop} (h : A) : ((!false) = true → A) ∧ ((!false) = false → B) := bs_t h
/-! a path's end -/
section
variable {mg : Str → Option Value} {r : Res} {F F2 : Hp} {O : OW} {RT : Hp → OW → D → Prop} {XC : Hp → OW → Value → List (Str × D) → Prop}
theorem fin_rt {d : D} (hs : outS mg r F O RT XC) (e : Same F F2) (hr : r = .ret d) : RT F2 O d := by
  subst hr
  exact hs F2 e
theorem fin_xc {x : Str} {c : Value} {fs : List (Str × D)} (hs : outS mg r F O RT XC) (e : Same F F2) (hm : mg x = some c) (hr : r = .exc x fs) : XC F2 O c fs := by
  subst hr
  exact hs F2 c e hm
end
theorem owns_cx {CX : CXT} {P : Program} {w : World} {K : PySem.W.Frag} {mg : Str → Option Value} {base : Heap} {N : List Str} {qual : Str} {scope : Scope} {f : Addr} {cd : Value} {A : Around} {outer : List Env} {s : Shared} {H : Hp} {E : XK} :
    PassesOwn (model P w) (cxOf CX P w K mg base N qual scope f cd A outer s H E).A (cxOf CX P w K mg base N qual scope f cd A outer s H E).env (cxOf CX P w K mg base N qual scope f cd A outer s H E).xe :=
  passes_of (X := cxOf CX P w K mg base N qual scope f cd A outer s H E) (K := fun e s2 => CX outer H s E e s2) (E₁ := fun e s2 => CX outer H s E e s2) rfl
/-! one of some numbers -/
def sel2 (x a b : Int) : Int := if x = 0 then a else b
def sel3 (x a b c : Int) : Int := if x = 0 then a else if x = 1 then b else c
def sel4 (x a b c d : Int) : Int := if x = 0 then a else if x = 1 then b else if x = 2 then c else d
section
variable {X : Cx} {F : Hp} {O : OW} {x a b c d : Int} {P : D → Prop}
theorem ixd_i2 (h0 : 0 ≤ x) (h1 : x < 2) (h : P (.int (sel2 x a b))) : IxD X (.lst [.int a, .int b]) (.int x) F O P := by
  have e : x = 0 ∨ x = 1 := by omega
  rcases e with rfl | rfl
  · exact ixd_lst (d := .int a) rfl h
  · exact ixd_lst (d := .int b) rfl h
theorem ixd_i3 (h0 : 0 ≤ x) (h1 : x < 3) (h : P (.int (sel3 x a b c))) : IxD X (.lst [.int a, .int b, .int c]) (.int x) F O P := by
  have e : x = 0 ∨ x = 1 ∨ x = 2 := by omega
  rcases e with rfl | rfl | rfl
  · exact ixd_lst (d := .int a) rfl h
  · exact ixd_lst (d := .int b) rfl h
  · exact ixd_lst (d := .int c) rfl h
theorem ixd_i4 (h0 : 0 ≤ x) (h1 : x < 4) (h : P (.int (sel4 x a b c d))) : IxD X (.lst [.int a, .int b, .int c, .int d]) (.int x) F O P := by
  have e : x = 0 ∨ x = 1 ∨ x = 2 ∨ x = 3 := by omega
  rcases e with rfl | rfl | rfl | rfl
  · exact ixd_lst (d := .int a) rfl h
  · exact ixd_lst (d := .int b) rfl h
  · exact ixd_lst (d := .int c) rfl h
  · exact ixd_lst (d := .int d) rfl h
theorem ixd_any {xs : List D} {P : D → Prop} (h0 : 0 ≤ x) (h1 : x < xs.length) (h : ∀ d ∈ xs, P d) : IxD X (.lst xs) (.int x) F O P := by
  have hl : x.toNat < xs.length := by omega
  refine ixd_lst (d := xs[x.toNat]) ?_ (h _ (List.getElem_mem hl))
  obtain ⟨n, rfl⟩ : ∃ n : Nat, x = n := ⟨x.toNat, by omega⟩
  exact atI_nat (List.getElem?_eq_getElem hl)
end
theorem opd_powL {X : Cx} {F : Hp} {i j v : Int} {P : Hp → D → Prop} (e : i ^ j.toNat = v) (hc : CPow i j) (h : P F (.int v)) : OpD X (binaryOp .Pow) (.int i) (.int j) F P := by
  subst e
  exact opd_pow hc h
/-- 2 ^ 200 -/
abbrev lim : Int := 1606938044258990275541962092341162602522202993782792835301376
theorem lim_bd {m : Int} (h : 0 < m ∧ m ≤ lim) : m.natAbs < 2 ^ 8000 := by
  have h1 : m.natAbs < 2 ^ 201 := by
    have := h.1
    have := h.2
    simp only [lim] at *
    omega
  exact Nat.lt_of_lt_of_le h1 (Nat.pow_le_pow_right (by decide) (by decide))
/-! bounds -/
theorem le2 {i : Int} {b : Nat} (h1 : -(2 ^ b : Int) < i) (h2 : i < 2 ^ b) : i.natAbs < 2 ^ b := by
  have e : ((2 ^ b : Nat) : Int) = (2 : Int) ^ b := by simp
  rw [← e] at h1 h2
  omega
/-- both factors are small -/
theorem mul_c {i j : Int} {a b : Nat} (hi : i.natAbs < 2 ^ a) (hj : j.natAbs < 2 ^ b) (h : a + b ≤ 900000 := by decide) : CMulW i j :=
  wide_mul (a := a + 1) (b := b + 1) (Nat.lt_trans hi (Nat.pow_lt_pow_right (by decide) (Nat.lt_succ_self a))) (Nat.lt_trans hj (Nat.pow_lt_pow_right (by decide) (Nat.lt_succ_self b))) (Nat.succ_pos _) (Nat.succ_pos _) (by omega)
theorem div_c {i j : Int} {b : Nat} (h0 : 0 < j) (hj : j.natAbs < 2 ^ b) (h : b ≤ 8000 := by decide) : CDivW i j :=
  wide_div (b := b + 1) h0 (Nat.lt_trans hj (Nat.pow_lt_pow_right (by decide) (Nat.lt_succ_self b))) (Nat.succ_pos _) (by omega)
theorem bnd_le {i : Int} {a b : Nat} (hi : i.natAbs < 2 ^ a) (h : a ≤ b) : i.natAbs < 2 ^ b := Nat.lt_of_lt_of_le hi (Nat.pow_le_pow_right (by decide) h)
/-! the built-in names -/
theorem bt_len : bootBuiltins "len" = some (.builtin "len") := by kernel_rfl
theorem bt_abs : bootBuiltins "abs" = some (.builtin "abs") := by kernel_rfl
theorem bt_max : bootBuiltins "max" = some (.builtin "max") := by kernel_rfl
theorem bt_min : bootBuiltins "min" = some (.builtin "min") := by kernel_rfl
theorem bt_sum : bootBuiltins "sum" = some (.builtin "sum") := by kernel_rfl
theorem bt_any : bootBuiltins "any" = some (.builtin "any") := by kernel_rfl
theorem bt_all : bootBuiltins "all" = some (.builtin "all") := by kernel_rfl
theorem bt_isinstance : bootBuiltins "isinstance" = some (.builtin "isinstance") := by kernel_rfl
theorem bt_sorted : bootBuiltins "sorted" = some (.builtin "sorted") := by kernel_rfl
theorem bt_int : bootBuiltins "int" = some (.type "int") := by kernel_rfl
theorem bt_bool : bootBuiltins "bool" = some (.type "bool") := by kernel_rfl
theorem bt_tuple : bootBuiltins "tuple" = some (.type "tuple") := by kernel_rfl
theorem bt_list : bootBuiltins "list" = some (.type "list") := by kernel_rfl
theorem bt_str : bootBuiltins "str" = some (.type "str") := by kernel_rfl
theorem bt_dict : bootBuiltins "dict" = some (.type "dict") := by kernel_rfl
end CR
/-! Rows of bits, plainly. -/
namespace CR
open PySem PySem.Spec PyProof.Rows L2
/-- what is behind the first bit -/
def nxt (t l : Int) : Int := (t - t % 2 * l) / 2
def bitsM : Nat → Int → Int → List Int
  | 0, _, _ => []
  | n + 1, t, l => t % 2 :: bitsM n (nxt t l) l
def topM : Nat → Int → Int → Int
  | 0, t, _ => t
  | n + 1, t, l => topM n (nxt t l) l
def valM : List Int → Int
  | [] => 0
  | b :: bs => b + 2 * valM bs
theorem nxt_two {t l : Int} (hl : l % 2 = 1) : t = t % 2 * l + 2 * nxt t l := by
  unfold nxt
  have h2 : t % 2 = 0 ∨ t % 2 = 1 := by omega
  rcases h2 with h | h
  · rw [h]; omega
  · rw [h]; omega
theorem bitsM_length : ∀ (n : Nat) (t l : Int), (bitsM n t l).length = n
  | 0, _, _ => rfl
  | n + 1, t, l => by rw [bitsM, List.length_cons, bitsM_length n]
theorem bitsM_bit : ∀ (n : Nat) (t l b : Int), b ∈ bitsM n t l → b = 0 ∨ b = 1
  | 0, _, _, _, h => by cases h
  | n + 1, t, l, b, h => by
    rw [bitsM, List.mem_cons] at h
    rcases h with rfl | h
    · omega
    · exact bitsM_bit n _ _ b h
theorem bitsM_snoc : ∀ (n : Nat) (t l : Int), bitsM (n + 1) t l = bitsM n t l ++ [topM n t l % 2]
  | 0, t, l => rfl
  | n + 1, t, l => by
    rw [bitsM, bitsM_snoc n (nxt t l) l]
    rfl
theorem topM_snoc : ∀ (n : Nat) (t l : Int), topM (n + 1) t l = nxt (topM n t l) l
  | 0, t, l => rfl
  | n + 1, t, l => by
    rw [topM, topM_snoc n (nxt t l) l]
    rfl
theorem topM_add : ∀ (m n : Nat) (t l : Int), topM (m + n) t l = topM n (topM m t l) l
  | 0, n, t, l => by rw [Nat.zero_add]; rfl
  | m + 1, n, t, l => by
    rw [Nat.succ_add, topM, topM_add m n (nxt t l) l]
    rfl
theorem bitsM_add : ∀ (m n : Nat) (t l : Int), bitsM (m + n) t l = bitsM m t l ++ bitsM n (topM m t l) l
  | 0, n, t, l => by rw [Nat.zero_add]; rfl
  | m + 1, n, t, l => by
    rw [Nat.succ_add, bitsM, bitsM_add m n (nxt t l) l]
    rfl
theorem bitsM_get : ∀ (n k : Nat) (t l : Int), k < n → (bitsM n t l)[k]? = some (topM k t l % 2)
  | 0, _, _, _, h => by omega
  | n + 1, 0, t, l, _ => rfl
  | n + 1, k + 1, t, l, h => by
    rw [bitsM, List.getElem?_cons_succ, bitsM_get n k _ _ (by omega)]
    rfl
theorem bitsM_take : ∀ (n k : Nat) (t l : Int), k ≤ n → (bitsM n t l).take k = bitsM k t l
  | _, 0, _, _, _ => by rw [List.take_zero]; rfl
  | 0, k + 1, _, _, h => by omega
  | n + 1, k + 1, t, l, h => by
    rw [bitsM, List.take_succ_cons, bitsM_take n k _ _ (by omega)]
    rfl
theorem bitsM_drop : ∀ (n k : Nat) (t l : Int), k ≤ n → (bitsM n t l).drop k = bitsM (n - k) (topM k t l) l
  | _, 0, _, _, _ => by rw [List.drop_zero]; rfl
  | 0, k + 1, _, _, h => by omega
  | n + 1, k + 1, t, l, h => by
    rw [bitsM, List.drop_succ_cons, bitsM_drop n k _ _ (by omega), Nat.succ_sub_succ]
    rfl
/-- the whole: what the first bits are, what is behind them -/
theorem val_bits {l : Int} (hl : l % 2 = 1) : ∀ (n : Nat) (t : Int), t = valM (bitsM n t l) * l + 2 ^ n * topM n t l
  | 0, t => by simp [bitsM, valM, topM]
  | n + 1, t => by
    have ih := val_bits hl n (nxt t l)
    have h := nxt_two (t := t) hl
    rw [bitsM, valM, topM, Int.add_mul, Int.pow_succ, Int.mul_assoc 2, Int.mul_comm (2 ^ n) 2, Int.mul_assoc 2 (2 ^ n), Int.add_assoc, ← Int.mul_add, ← ih]
    exact h
theorem valM_lt : ∀ (bs : List Int), (∀ b ∈ bs, b = 0 ∨ b = 1) → 0 ≤ valM bs ∧ valM bs < 2 ^ bs.length
  | [], _ => by simp [valM]
  | b :: bs, h => by
    have ih := valM_lt bs fun c hc => h c (List.mem_cons_of_mem _ hc)
    have hb := h b (List.mem_cons_self)
    rw [valM, List.length_cons, Int.pow_succ]
    omega
theorem val_bits_lt (n : Nat) (t l : Int) : 0 ≤ valM (bitsM n t l) ∧ valM (bitsM n t l) < 2 ^ n := by
  have h := valM_lt (bitsM n t l) (bitsM_bit n t l)
  rw [bitsM_length] at h
  exact h
theorem valM_inj : ∀ (bs cs : List Int), (∀ b ∈ bs, b = 0 ∨ b = 1) → (∀ b ∈ cs, b = 0 ∨ b = 1) → bs.length = cs.length → valM bs = valM cs → bs = cs
  | [], [], _, _, _, _ => rfl
  | [], _ :: _, _, _, h, _ => by cases h
  | _ :: _, [], _, _, h, _ => by cases h
  | b :: bs, c :: cs, hb, hc, hl, hv => by
    have h1 := hb b (List.mem_cons_self)
    have h2 := hc c (List.mem_cons_self)
    rw [valM, valM] at hv
    have e : b = c := by omega
    have e2 : valM bs = valM cs := by omega
    rw [e, valM_inj bs cs (fun x hx => hb x (List.mem_cons_of_mem _ hx)) (fun x hx => hc x (List.mem_cons_of_mem _ hx)) (by simpa using hl) e2]
/-! an odd number can be cancelled under powers of two -/
theorem two_cancel {l : Int} (hl : l % 2 = 1) : ∀ (n : Nat) (x : Int), (2 : Int) ^ n ∣ x * l → (2 : Int) ^ n ∣ x
  | 0, x, _ => by rw [Int.pow_zero]; exact Int.one_dvd x
  | n + 1, x, h => by
    have h2 : (2 : Int) ∣ x * l := Int.dvd_trans (by rw [Int.pow_succ]; exact Int.dvd_mul_left _ _) h
    have h3 : (2 : Int) ∣ x := by
      have e : x * l % 2 = 0 := Int.emod_eq_zero_of_dvd h2
      rw [Int.mul_emod, hl] at e
      omega
    obtain ⟨y, rfl⟩ := h3
    rw [Int.pow_succ, Int.mul_comm (2 ^ n) 2] at h ⊢
    rw [Int.mul_assoc] at h
    exact Int.mul_dvd_mul_left 2 (two_cancel hl n y (Int.dvd_of_mul_dvd_mul_left (by decide) h))
/-- what is said of the first bits by their value -/
theorem val_of {l t v : Int} (hl : l % 2 = 1) (n : Nat) (h0 : 0 ≤ v) (h1 : v < 2 ^ n) (h : (2 : Int) ^ n ∣ v * l - t) : valM (bitsM n t l) = v := by
  have e := val_bits hl n t
  obtain ⟨b0, b1⟩ := val_bits_lt n t l
  have d : (2 : Int) ^ n ∣ (v - valM (bitsM n t l)) * l := by
    have : (v - valM (bitsM n t l)) * l = (v * l - t) + 2 ^ n * topM n t l := by
      rw [Int.sub_mul]
      omega
    rw [this]
    exact Int.dvd_add h (Int.dvd_mul_right _ _)
  obtain ⟨q, hq⟩ := two_cancel hl n _ d
  have p : (0 : Int) < 2 ^ n := Int.pow_pos (by decide)
  have hq0 : q = 0 := by
    rcases Int.lt_trichotomy q 0 with h | h | h
    · have : (2 : Int) ^ n * q ≤ 2 ^ n * (-1) := Int.mul_le_mul_of_nonneg_left (by omega) (Int.le_of_lt p)
      omega
    · exact h
    · have : (2 : Int) ^ n * 1 ≤ 2 ^ n * q := Int.mul_le_mul_of_nonneg_left (by omega) (Int.le_of_lt p)
      omega
  rw [hq0, Int.mul_zero] at hq
  omega
theorem pow_le2 {a b : Nat} (h : a ≤ b) : (2 : Int) ^ a ≤ 2 ^ b := by
  obtain ⟨c, rfl⟩ := Nat.le.dest h
  rw [Int.pow_add]
  have h1 : (0 : Int) < 2 ^ c := Int.pow_pos (by decide)
  have h2 : (0 : Int) < 2 ^ a := Int.pow_pos (by decide)
  have : (2 : Int) ^ a * 1 ≤ 2 ^ a * 2 ^ c := Int.mul_le_mul_of_nonneg_left (by omega) (Int.le_of_lt h2)
  omega
/-! lowest terms -/
theorem gcd_low {a b : Int} (h : 0 < b) : 0 < (Int.gcd a b : Int) := by
  have := Int.gcd_pos_of_ne_zero_right a (Int.ne_of_gt h)
  omega
theorem low_top (a b : Int) : a / (Int.gcd a b : Int) * (Int.gcd a b : Int) = a := Int.ediv_mul_cancel (Int.gcd_dvd_left a b)
theorem low_low (a b : Int) : b / (Int.gcd a b : Int) * (Int.gcd a b : Int) = b := Int.ediv_mul_cancel (Int.gcd_dvd_right a b)
theorem low_pos {a b : Int} (h : 0 < b) : 0 < b / (Int.gcd a b : Int) := by
  have e := low_low a b
  have g := gcd_low (a := a) h
  rcases Int.lt_trichotomy (b / (Int.gcd a b : Int)) 0 with q | q | q
  · have : b / (Int.gcd a b : Int) * (Int.gcd a b : Int) < 0 := Int.mul_neg_of_neg_of_pos q g
    omega
  · rw [q, Int.zero_mul] at e; omega
  · exact q
theorem low_odd {a b : Int} (h : b % 2 = 1) : b / (Int.gcd a b : Int) % 2 = 1 := by
  have e := low_low a b
  rcases Int.emod_two_eq (b / (Int.gcd a b : Int)) with q | q
  · have : b / (Int.gcd a b : Int) * (Int.gcd a b : Int) % 2 = 0 := by rw [Int.mul_emod, q]; simp
    omega
  · exact q
theorem low_gcd {a b : Int} (h : 0 < b) : Int.gcd (a / (Int.gcd a b : Int)) (b / (Int.gcd a b : Int)) = 1 := by
  have g := Int.gcd_pos_of_ne_zero_right a (Int.ne_of_gt h)
  exact Int.gcd_ediv_gcd_ediv_gcd g
theorem low_le {a b : Int} (h : 0 < b) : b / (Int.gcd a b : Int) ≤ b := by
  have e := low_low a b
  have g := gcd_low (a := a) h
  have p := low_pos (a := a) h
  have : b / (Int.gcd a b : Int) * 1 ≤ b / (Int.gcd a b : Int) * (Int.gcd a b : Int) := Int.mul_le_mul_of_nonneg_left (by omega) (Int.le_of_lt p)
  omega
theorem low_abs (a b : Int) : (a / (Int.gcd a b : Int)).natAbs ≤ a.natAbs := by
  have e := low_top a b
  have e2 : (a / (Int.gcd a b : Int)).natAbs * Int.gcd a b = a.natAbs := by
    have := congrArg Int.natAbs e
    rw [Int.natAbs_mul, Int.natAbs_natCast] at this
    exact this
  rcases Nat.eq_zero_or_pos (Int.gcd a b) with h | h
  · rw [h]; simp
  · rw [← e2]; exact Nat.le_mul_of_pos_right _ h
theorem val_dvd {l : Int} (hl : l % 2 = 1) (n : Nat) (t : Int) : (2 : Int) ^ n ∣ valM (bitsM n t l) * l - t := by
  have e := val_bits hl n t
  refine ⟨-(topM n t l), ?_⟩
  rw [Int.mul_neg]
  omega
end CR
/-! Data that many laws speak of. -/
namespace CR
open PySem PySem.Spec PyProof.Rows L2
def isFrom (d : D) (lo hi : Int) : Bool := match d with
  | .int i => decide (lo ≤ i ∧ i ≤ hi)
  | _ => false
theorem isFrom_int {d : D} {lo hi : Int} (h : isFrom d lo hi = true) : ∃ i, d = .int i ∧ lo ≤ i ∧ i ≤ hi := by
  cases d with
  | int i => exact ⟨i, rfl, by simpa [isFrom] using h⟩
  | _ => cases h
def pl0 (d : D) : Bool := (kindD d).isSome
def pl1 (d : D) : Bool := pl0 d && match d with
  | .tup xs => xs.all pl0
  | _ => true
theorem pl0_ne {d : D} (h : pl0 d = true) : kindD d ≠ none := fun e => by rw [pl0, e] at h; cases h
abbrev mst : Int := 1000000000000000000000000000000
def isFr (d : D) : Bool := match d with
  | .tup [x, y] => isFrom x (-mst) mst && (isFrom y 1 mst && match x, y with
    | .int a, .int b => decide (b % 2 = 1 ∧ Int.gcd a b = 1)
    | _, _ => false)
  | _ => false
theorem isFr_pair {d : D} (h : isFr d = true) : ∃ a b : Int, d = .tup [.int a, .int b] ∧ -mst ≤ a ∧ a ≤ mst ∧ 1 ≤ b ∧ b ≤ mst ∧ b % 2 = 1 ∧ Int.gcd a b = 1 := by
  unfold isFr at h
  split at h
  · rename_i x y
    rw [Bool.and_eq_true, Bool.and_eq_true] at h
    obtain ⟨h1, h2, h3⟩ := h
    obtain ⟨a, rfl, a1, a2⟩ := isFrom_int h1
    obtain ⟨b, rfl, b1, b2⟩ := isFrom_int h2
    obtain ⟨c1, c2⟩ := of_decide_eq_true h3
    exact ⟨a, b, rfl, a1, a2, b1, b2, c1, c2⟩
  · cases h
theorem isFr_mk {a b : Int} (h1 : -mst ≤ a) (h2 : a ≤ mst) (h3 : 1 ≤ b) (h4 : b ≤ mst) (h5 : b % 2 = 1) (h6 : Int.gcd a b = 1) : isFr (.tup [.int a, .int b]) = true := by
  simp only [isFr, isFrom, Bool.and_eq_true, decide_eq_true_eq]
  exact ⟨⟨h1, h2⟩, ⟨h3, h4⟩, h5, h6⟩
theorem isFr_kinds {d : D} (h : pl1 d = true) : (∃ x y, d = .tup [x, y] ∧ kindD x ≠ none ∧ kindD y ≠ none) ∨ (∃ xs, d = .tup xs ∧ xs.length ≠ 2) ∨ (∀ xs, d ≠ .tup xs) := by
  cases d with
  | tup xs =>
    match xs, h with
    | [], _ => exact .inr (.inl ⟨_, rfl, by simp⟩)
    | [x], _ => exact .inr (.inl ⟨_, rfl, by simp⟩)
    | [x, y], h =>
      simp [pl1, pl0] at h
      refine .inl ⟨x, y, rfl, fun e => ?_, fun e => ?_⟩
      · simp [e] at h
      · simp [e] at h
    | x :: y :: z :: r, _ => exact .inr (.inl ⟨_, rfl, by simp⟩)
  | _ => exact .inr (.inr (by simp))
theorem isFr_len {xs : List D} (h : xs.length ≠ 2) : isFr (.tup xs) = false := by
  match xs, h with
  | [], _ => rfl
  | [x], _ => rfl
  | [x, y], h => exact absurd rfl h
  | x :: y :: z :: r, _ => rfl
theorem isFr_bd {d : D} (h : isFr d = true) : ∃ a b : Int, d = .tup [.int a, .int b] ∧ a.natAbs < 2 ^ 100 ∧ b.natAbs < 2 ^ 100 ∧ 0 < b ∧ b % 2 = 1 ∧ Int.gcd a b = 1 := by
  obtain ⟨a, b, rfl, h1, h2, h3, h4, h5, h6⟩ := isFr_pair h
  simp only [mst] at h1 h2 h4
  exact ⟨a, b, rfl, by omega, by omega, by omega, h5, h6⟩
/-- the drawn row: the script, the place, the seed, the rest -/
def RowOk (r : List D) : Prop := ∃ (ns : List Int) (i s t : Int), r = [.frl (ns.map .int), .int i, .int s, .int t] ∧ ns.length ≤ 63 ∧ 0 ≤ i ∧ 0 ≤ s ∧ s < 2147483647
theorem rowOk_mk (ns : List Int) (i s t : Int) (h1 : ns.length ≤ 63) (h2 : 0 ≤ i) (h3 : 0 ≤ s) (h4 : s < 2147483647) : RowOk [.frl (ns.map .int), .int i, .int s, .int t] := ⟨ns, i, s, t, rfl, h1, h2, h3, h4⟩
/-- what a drawn fraction keeps: the lower number up to most -/
structure FrOk (most a b : Int) : Prop where
  b1 : 1 ≤ b
  b2 : b ≤ most
  b3 : b % 2 = 1
  g : Int.gcd a b = 1
  a1 : -1000000000000000000000000000000 ≤ a
  a2 : a ≤ 1000000000000000000000000000000
theorem frOk_low {m t l : Int} (h1 : 1 ≤ l) (h2 : l ≤ m) (h3 : l % 2 = 1) (t1 : -1000000000000000000000000000000 ≤ t) (t2 : t ≤ 1000000000000000000000000000000) : FrOk m (t / (Int.gcd t l : Int)) (l / (Int.gcd t l : Int)) := by
  have a := low_abs t l
  have p := low_pos (a := t) (b := l) (by omega)
  have q := low_le (a := t) (b := l) (by omega)
  have o := low_odd (a := t) h3
  exact ⟨by omega, by omega, o, low_gcd (by omega), by omega, by omega⟩
theorem FrOk.fr {m a b : Int} (h : FrOk m a b) (hm : m ≤ 1000000000000000000000000000000) : isFr (.tup [.int a, .int b]) = true := by
  obtain ⟨b1, b2, b3, g, a1, a2⟩ := h
  exact isFr_mk a1 a2 b1 (Int.le_trans b2 hm) b3 g
theorem frac_size (y x : Int) (hx : 0 ≤ x) : 1 ≤ min 1000000000000000000000000000000 (sel3 y (1 + 2 * x + 1) (3 * (1 + 2 * x) + 4) 1000000) ∧ min 1000000000000000000000000000000 (sel3 y (1 + 2 * x + 1) (3 * (1 + 2 * x) + 4) 1000000) ≤ 1000000000000000000000000000000 := by
  unfold sel3
  split
  · omega
  · split <;> omega
end CR
/-! Comprehensions whose elements change nothing; clauses. -/
namespace CR
open PySem PySem.Spec PyProof.Rows L2
section
variable {X : Cx} {Z : ZP} {F : Hp} {O : OW} {ρ : Rho} {tg : Expr}
theorem SrP.imp {iter : Expr} {P P' : Hp → OW → List D → Prop} (h : SrP X Z tg iter F O ρ P) (i : ∀ F2 O2 xs, Same F F2 → P F2 O2 xs → P' F2 O2 xs) : SrP X Z tg iter F O ρ P' :=
  .mk fun T σ H S R q => h T σ H S R fun F2 O2 H2 J xs a b c p => q F2 O2 H2 J xs a b c (i F2 O2 xs a p)
theorem TtP.imp {ifs : List Expr} {P P' : Hp → OW → Bool → Prop} (h : TtP X Z ifs F O ρ P) (i : ∀ F2 O2 b, Same F F2 → P F2 O2 b → P' F2 O2 b) : TtP X Z ifs F O ρ P' :=
  .mk fun T σ H S Q q => h T σ H S Q fun F2 O2 H2 b a c p => q F2 O2 H2 b a c (i F2 O2 b a p)
/-- a list of our own, the first one, becomes plain data -/
theorem EvP.frz {e : Expr} {P : Hp → OW → D → Prop} (h : EvP X Z e F O ρ fun F1 O1 d => ∃ p xs O', d = .raw (.ref p) ∧ O1 = (p, .lst xs) :: O' ∧ ∀ F2, Same F1 F2 → P F2 O' (.lst xs)) : EvP X Z e F O ρ P :=
  .mk fun T σ H S Q q => h T σ H S _ fun F1 O1 H1 v d e1 S1 r1 ⟨p, xs, O', ed, eo, k⟩ => by
    subst ed
    subst eo
    cases r1
    obtain ⟨F2, e2, S2, r2⟩ := S1.a.freeze (j := 0) rfl
    exact q F2 O' H1 _ _ (e1.trans e2) ⟨S2, S1.sig.mono e2⟩ r2 (k F2 e2)
section
variable {elt iter : Expr} {ifs : List Expr} {scope : Scope} {vs : List Nat} {g : TG} {up : D → Rho → Option Rho} {P : Hp → OW → D → Prop}
theorem LcP.frz (h : LcP X Z elt tg iter ifs scope vs g F O ρ fun F1 O1 d => ∃ p xs O', d = .raw (.ref p) ∧ O1 = (p, .lst xs) :: O' ∧ ∀ F2, Same F1 F2 → P F2 O' (.lst xs)) : LcP X Z elt tg iter ifs scope vs g F O ρ P :=
  .mk fun T σ H S Q q => h.run T σ H S _ fun F1 O1 H1 v d e1 S1 r1 ⟨p, xs, O', ed, eo, k⟩ => by
    subst ed
    subst eo
    cases r1
    obtain ⟨F2, e2, S2, r2⟩ := S1.a.freeze (j := 0) rfl
    exact q F2 O' H1 _ _ (e1.trans e2) ⟨S2, S1.sig.mono e2⟩ r2 (k F2 e2)
/-- [elt for tg in iter if ..], elt and the tests changing nothing -/
theorem lcp_F (f : D → D) (t : D → Bool) (td : TgD X.K g vs up)
    (h : SrP X Z tg iter F O ρ fun F1 O1 xs => xs.length < sizeLine ∧
      (∀ (k : Nat) (d : D) F2 acc Dl, Same F1 F2 → xs[k]? = some d → ∃ ρ3, up d (wipeR ρ vs) = some ρ3 ∧
        ∀ (s : Shared) (H : Hp) (C : Addr) (cl : List (Str × Addr)) (fp : List Addr), TtP (blkX X s H scope cl C fp) Z0 ifs F2 ((Dl, .lst acc) :: O1) ρ3 fun F4 O4 b => O4 = (Dl, .lst acc) :: O1 ∧ b = t d ∧
          (b = true → ∀ (s : Shared) (H : Hp) (C : Addr) (cl : List (Str × Addr)) (fp : List Addr), EvP (blkX X s H scope cl C fp) Z0 elt F4 ((Dl, .lst acc) :: O1) ρ3 fun F5 O5 y => O5 = (Dl, .lst acc) :: O1 ∧ y = f d)) ∧
      ∀ F2, Same F1 F2 → P F2 O1 (.lst ((xs.filter t).map f))) : LcP X Z elt tg iter ifs scope vs g F O ρ P := by
  refine LcP.frz (lcp_all td ?_)
  refine h.imp fun F1 O1 xs e1 ⟨hl, hb, hd⟩ => ⟨fun k F2 O2 acc => O2 = O1 ∧ acc = ((xs.take k).filter t).map f, ⟨rfl, rfl⟩, ?_, ?_⟩
  · rintro k d F2 O2 acc Dl e2 hk ⟨rfl, ha⟩ hlen F3 e3
    have hkl : k < xs.length := by
      rcases Nat.lt_or_ge k xs.length with q | q
      · exact q
      · rw [List.getElem?_eq_none q] at hk; cases hk
    have et : xs.take (k + 1) = xs.take k ++ [d] := by rw [List.take_add_one, hk]; rfl
    obtain ⟨ρ3, eu, hx⟩ := hb k d F3 acc Dl (e2.trans e3) hk
    refine ⟨ρ3, eu, fun s H C cl fp => (hx s H C cl fp).imp fun F4 O4 b e4 ⟨eo, eb, hy⟩ => ⟨fun bt s H C cl fp => ?_, fun bf => ?_⟩⟩
    · subst eo
      refine (hy bt s H C cl fp).imp fun F5 O5 y e5 ⟨eo5, ey⟩ => ⟨acc, _, eo5, by omega, hlen, rfl, ?_⟩
      rw [et, List.filter_append, List.map_append, ← ha, ey]
      congr 1
      rw [List.filter_cons, ← eb, bt]
      rfl
    · refine ⟨acc, _, eo, hlen, rfl, ?_⟩
      rw [et, List.filter_append, List.map_append, ← ha]
      rw [List.filter_cons, ← eb, bf]
      simp
  · rintro F2 O2 acc e2 ⟨rfl, ha⟩ hlen p
    rw [List.take_length] at ha
    subst ha
    exact ⟨p, _, _, rfl, rfl, fun F3 e3 => hd F3 (e2.trans e3)⟩
/-- [elt for tg in iter] -/
theorem lcp_M (f : D → D) (td : TgD X.K g vs up)
    (h : SrP X Z tg iter F O ρ fun F1 O1 xs => xs.length < sizeLine ∧
      (∀ (k : Nat) (d : D) F2 acc Dl, Same F1 F2 → xs[k]? = some d → ∃ ρ3, up d (wipeR ρ vs) = some ρ3 ∧
        ∀ (s : Shared) (H : Hp) (C : Addr) (cl : List (Str × Addr)) (fp : List Addr), EvP (blkX X s H scope cl C fp) Z0 elt F2 ((Dl, .lst acc) :: O1) ρ3 fun F5 O5 y => O5 = (Dl, .lst acc) :: O1 ∧ y = f d) ∧
      ∀ F2, Same F1 F2 → P F2 O1 (.lst (xs.map f))) : LcP X Z elt tg iter [] scope vs g F O ρ P := by
  refine LcP.frz (lcp_all td ?_)
  refine h.imp fun F1 O1 xs e1 ⟨hl, hb, hd⟩ => ⟨fun k F2 O2 acc => O2 = O1 ∧ acc = (xs.take k).map f, ⟨rfl, rfl⟩, ?_, ?_⟩
  · rintro k d F2 O2 acc Dl e2 hk ⟨rfl, ha⟩ hlen F3 e3
    have hkl : k < xs.length := by
      rcases Nat.lt_or_ge k xs.length with q | q
      · exact q
      · rw [List.getElem?_eq_none q] at hk; cases hk
    have et : xs.take (k + 1) = xs.take k ++ [d] := by rw [List.take_add_one, hk]; rfl
    obtain ⟨ρ3, eu, hx⟩ := hb k d F3 acc Dl (e2.trans e3) hk
    refine ⟨ρ3, eu, fun s H C cl fp => ttp_nil ⟨fun bt s H C cl fp => ?_, fun bf => by cases bf⟩⟩
    refine (hx s H C cl fp).imp fun F5 O5 y e5 ⟨eo5, ey⟩ => ⟨acc, _, eo5, by omega, hlen, rfl, ?_⟩
    rw [et, List.map_append, ← ha, ey]
    rfl
  · rintro F2 O2 acc e2 ⟨rfl, ha⟩ hlen p
    rw [List.take_length] at ha
    subst ha
    exact ⟨p, _, _, rfl, rfl, fun F3 e3 => hd F3 (e2.trans e3)⟩
/-- [elt for tg in iter], elt changing what is our own: by an invariant -/
theorem lcp_I (td : TgD X.K g vs up)
    (h : SrP X Z tg iter F O ρ fun F1 O1 xs => xs.length < sizeLine ∧ ∃ I : Nat → OW → List D → Prop, I 0 O1 [] ∧
      (∀ (k : Nat) (d : D) F2 O2 acc Dl, Same F1 F2 → xs[k]? = some d → I k O2 acc → acc.length = k → ∃ ρ3, up d (wipeR ρ vs) = some ρ3 ∧
        ∀ (s : Shared) (H : Hp) (C : Addr) (cl : List (Str × Addr)) (fp : List Addr), EvP (blkX X s H scope cl C fp) Z0 elt F2 ((Dl, .lst acc) :: O2) ρ3 fun F5 O5 y => ∃ O6, O5 = (Dl, .lst acc) :: O6 ∧ I (k + 1) O6 (acc ++ [y])) ∧
      ∀ F2 O2 acc, Same F1 F2 → I xs.length O2 acc → acc.length = xs.length → P F2 O2 (.lst acc)) : LcP X Z elt tg iter [] scope vs g F O ρ P := by
  refine LcP.frz (lcp_all td ?_)
  refine h.imp fun F1 O1 xs e1 ⟨hl, I, h0, hb, hd⟩ => ⟨fun k F2 O2 acc => I k O2 acc ∧ acc.length = k, ⟨h0, rfl⟩, ?_, ?_⟩
  · rintro k d F2 O2 acc Dl e2 hk ⟨hI, ha⟩ hlen F3 e3
    have hkl : k < xs.length := by
      rcases Nat.lt_or_ge k xs.length with q | q
      · exact q
      · rw [List.getElem?_eq_none q] at hk; cases hk
    obtain ⟨ρ3, eu, hx⟩ := hb k d F3 O2 acc Dl (e2.trans e3) hk hI ha
    refine ⟨ρ3, eu, fun s H C cl fp => ttp_nil ⟨fun bt s H C cl fp => ?_, fun bf => by cases bf⟩⟩
    refine (hx s H C cl fp).imp fun F5 O5 y e5 ⟨O6, eo5, hI2⟩ => ⟨acc, _, eo5, by omega, hlen, hI2, by rw [List.length_append, ha]; rfl⟩
  · rintro F2 O2 acc e2 ⟨hI, ha⟩ hlen p
    exact ⟨p, _, _, rfl, rfl, fun F3 e3 => hd F3 O2 acc (e2.trans e3) hI ha⟩
end
/-! clauses of a try, one by one -/
theorem zcl_hit {N : Post} {y c : Value} {x : Str} {i : Option Nat} {b : List Stmt} {r : List ClD} {fs : List (Str × D)} {a : Addr} (m : PySem.W.exmOne X.K (.ref a) y = some true) (g : X.mg x = some (.ref a)) (hm : X.mg x = some c)
    (h : ∀ (ad : Addr) (oe : Obj) (d : Option Addr) (pn : List (Addr × Obj)), Zc (.ref a) d oe → (∃ vs, oe.data = .fields vs) → FldOk X.K F d fs → WpS (X.suite ad ((ad, oe) :: pn)) Z0 b F O (clRho i ad ρ) (clPost i N)) : zCl X Z N (⟨y, i, b⟩ :: r) F O ρ c fs := by
  rw [g] at hm
  cases hm
  exact ⟨true, m, fun _ => h, fun q => by cases q⟩
theorem zcl_miss {N : Post} {y c : Value} {x : Str} {i : Option Nat} {b : List Stmt} {r : List ClD} {fs : List (Str × D)} {a : Addr} (m : PySem.W.exmOne X.K (.ref a) y = some false) (g : X.mg x = some (.ref a)) (hm : X.mg x = some c)
    (h : zCl X Z N r F O ρ c fs) : zCl X Z N (⟨y, i, b⟩ :: r) F O ρ c fs := by
  rw [g] at hm
  cases hm
  exact ⟨false, m, (fun q => by cases q), fun _ => h⟩
/-! == and != with oneself -/
theorem opd_neR {x : D} {P : Hp → D → Prop} {k : Nat} (hr : Room k X.A) (hx : okD 9 x = true) (h : P F (.bl false)) : OpD X (compareOp .NotEq) x x F P := opd_ne hr hx hx (by rw [deq_refl 9 x hx]; exact h)
theorem opd_eqR {x : D} {P : Hp → D → Prop} {k : Nat} (hr : Room k X.A) (hx : okD 9 x = true) (h : P F (.bl true)) : OpD X (compareOp .Eq) x x F P := opd_eq hr hx hx (by rw [deq_refl 9 x hx]; exact h)
theorem ixd_all {xs : List D} {x : Int} {P : D → Prop} (G : D → Prop) (h0 : 0 ≤ x) (h1 : x < xs.length) (hG : ∀ d ∈ xs, G d) (h : ∀ d, G d → P d) : IxD X (.lst xs) (.int x) F O P := ixd_any h0 h1 fun d hd => h d (hG d hd)
end
theorem dint_at {xs : List Int} {k : Nat} {d : D} (h : (xs.map D.int)[k]? = some d) : ∃ i, xs[k]? = some i ∧ d = .int i := by
  rw [List.getElem?_map] at h
  cases q : xs[k]? with
  | none => rw [q] at h; cases h
  | some i => rw [q] at h; cases h; exact ⟨i, rfl, rfl⟩
theorem two_pos (k : Nat) : (0 : Int) < 2 ^ k := Int.pow_pos (by decide)
theorem two_bd {k b : Nat} (h : k < b) : ((2 : Int) ^ k).natAbs < 2 ^ b := by
  rw [Int.natAbs_pow]
  exact Nat.pow_lt_pow_right (by decide) h
theorem FrOk.mono {m m' a b : Int} (h : FrOk m a b) (q : m ≤ m') : FrOk m' a b := ⟨h.b1, Int.le_trans h.b2 q, h.b3, h.g, h.a1, h.a2⟩
end CR
/-! enumerate of a tuple; what else is walked. -/
namespace CR
open PySem PySem.Spec PyProof.Rows L2
theorem meets_enum1 {v : Value} {o : Obj} {H : Heap → Prop} (B : Begins v o H) :
    Meets (Builtin.«enumerate.__new__» ⟨[.type "enumerate", v], []⟩) (fun _ R s => H s.heap ∧
      R (.ok (.ret (.ref (s.heap.push o).objs.size))) { s with heap := (s.heap.push o).push { cls := .type "enumerate", data := .fields #[.none, .bool false, .ref s.heap.objs.size, rawInt 0, .none, .none] } }) :=
  .of_wp fun prog w A R s h => by
    obtain ⟨hp, g, d, tk, os⟩ := s; obtain ⟨h1, h⟩ := h
    have hsub := sub_enumerate
    have q1 : ∀ {A' : Around} {E : Value → Shared → Prop} {Q : Value → Shared → Prop}, Q (.ref hp.objs.size) ⟨hp.push o, g, d, tk, os⟩ → wpAny (model prog w) A' (pyIter v) Q E ⟨hp, g, d, tk, os⟩ :=
      fun q => B.iter prog w _ _ ⟨hp, g, d, tk, os⟩ _ h1 q
    wp_walk using q1
    refine wpAny_stack_any fun st => wpAny_pure ?_
    split
    · rename_i c _ _ _ _ _
      cases (c == Value.type "enumerate")
      · wp_walk using q1
        exact ⟨_, rfl, h⟩
      · wp_walk using q1
        exact ⟨_, rfl, h⟩
    · wp_walk using q1
      exact ⟨_, rfl, h⟩
section
variable {prog : Program} {w : World} {A : Around} {E : Value → Shared → Prop} {s : Shared}
theorem enum1 {v : Value} {o : Obj} {H : Heap → Prop} {Q : Value → Shared → Prop} (B : Begins v o H) (h1 : H s.heap)
    (h : ∀ h', IsEnum h' (s.heap.objs.size + 1) s.heap.objs.size 0 .none → h'.get? s.heap.objs.size = some o → h'.objs.size = s.heap.objs.size + 2 →
      (∀ b o, s.heap.get? b = some o → h'.get? b = some o) → Q (.ref (s.heap.objs.size + 1)) { s with heap := h' }) :
    wpAny (model prog w) A (call (.type "enumerate") [v]) Q E s := by
  refine callType_new PySem.F.called_enumerate (by decide) (PySem.F.typeCall_enumerate_1 _) (PySem.F.newCall_enumerate_1 _) (fun obj => PySem.F.args_object_init_2 obj _) PySem.F.entry_enumerate_new
    (meets_enum1 B) ⟨h1, ?_⟩
  have hz : (s.heap.push o).objs.size = s.heap.objs.size + 1 := Heap.size_push ..
  show _ ∧ _
  rw [hz]
  have he : IsEnum ((s.heap.push o).push { cls := .type "enumerate", data := .fields #[.none, .bool false, .ref s.heap.objs.size, rawInt 0, .none, .none] }) (s.heap.objs.size + 1) s.heap.objs.size 0 .none := by
    have := Heap.get?_push_size (s.heap.push o) (o := { cls := .type "enumerate", data := .fields #[.none, .bool false, .ref s.heap.objs.size, rawInt 0, .none, .none] }) rfl
    rw [hz] at this; exact this
  refine ⟨⟨_, he, rfl⟩, h _ he (Heap.get?_push_of_some _ (Heap.get?_push_size _ B.free)) (by rw [Heap.size_push, hz]) fun b o x => Heap.get?_push_of_some _ (Heap.get?_push_of_some _ x)⟩
end
/-- the tuple at a as it stands at each turn, each item in a new pair -/
def ItEt (K : PySem.W.Frag) (a : Addr) : It :=
  ⟨fun i H => ∃ (xs : List V) (x : V), SqT K H a xs ∧ xs[i]? = some x, fun i H v H' => ∃ T x, v = .ref T ∧ H T = none ∧ H' = upd H T (.tup [.int (i : Nat), x]) ∧ ∀ xs, SqT K H a xs → xs[i]? = some x, fun i H => ∃ xs : List V, SqT K H a xs ∧ xs.length ≤ i⟩
theorem turn_enumT {P : Program} {w : World} {K : PySem.W.Frag} {elts : List Expr} {kk : Nat} {tpos : Pos} (a e it : Addr) :
    Turn P w K (.Tuple elts kk tpos) (ItEt K a) [e, it] e (fun i h => (∃ old, IsEnum h e it ((i : Nat) : Int) old) ∧ h.IsTupleIter it a i ∧ e ≠ it ∧ e ≠ a ∧ a ≠ it) where
  mem := by simp
  obj := fun i h st b hb => by
    obtain ⟨⟨old, he⟩, ⟨o, ho, hc, hd⟩, _⟩ := st
    have e' : b = e ∨ b = it := by simpa using hb
    rcases e' with z | z
    · rw [z]; exact ⟨_, he, fun v q => nomatch q⟩
    · rw [z]; exact ⟨o, ho, fun v q => by rw [hd] at q; cases q⟩
  keep := fun i h h' st k => let ⟨⟨old, he⟩, hi, hne⟩ := st; ⟨⟨old, k e (by simp) _ he⟩, hi.at fun o q => k it (by simp) o q, hne⟩
  item := by
    intro X hP hw hK hc i pins s σ H E I hf st hg
    subst hP hw hK
    obtain ⟨⟨old, he⟩, hit, hne, hea, hai⟩ := st
    obtain ⟨xs, x, hq, hx⟩ := hg
    obtain ⟨its, rv, p, hz⟩ := I.tuple hq
    obtain ⟨u, hu, ru⟩ := rv.get hx
    have hel : e < s.heap.objs.size := Heap.lt_size he
    have hil : it < s.heap.objs.size := by obtain ⟨_, q, _⟩ := hit; exact Heap.lt_size q
    have hh : X.A.in1.handled = none := I.ok.hd hc
    have hlt : i < its.toArray.size := by
      rcases Nat.lt_or_ge i its.toArray.size with q | q
      · exact q
      · rw [List.getElem?_eq_none (by simpa using q)] at hu; cases hu
    refine wpAny_pyNext_enum_itemD (Draws.tuple hh it a hai its.toArray) he ⟨hit, p⟩ hlt hne (by simp [hne, hea]) fun y h' tk hy ho st' hT hsz hk => ?_
    have ey : y = u := by
      have : its.toArray[i]? = some u := by simpa using hu
      rw [this] at hy; exact (Option.some.inj hy).symm
    subst ey
    refine ⟨_, rfl, wpAny_letOwnedTupleGo_enum (s := { s with heap := h', toks := tk + 1 }) ho fun h'' he' sb => ?_⟩
    have hT2 : h''.get? s.heap.objs.size = some { cls := .type "tuple", data := .seq #[.int i tk, y] } := (sb.2 _ (Nat.ne_of_gt hel)).trans hT
    have new : ObjOk X.prog X.w (upd H s.heap.objs.size (.tup [.int (i : Nat), x])) h'' s.heap.objs.size (.tup [.int (i : Nat), x]) :=
      ⟨by show 2 ≤ sizeLine; decide, [.int i tk, y], .cons ⟨_, rfl⟩ (.cons ru .nil), ⟨_, hT2, rfl, _, rfl⟩⟩
    have I1 : Inv X pins σ (upd H s.heap.objs.size (.tup [.int (i : Nat), x])) { s with heap := h'', toks := tk + 1 } :=
      I.turnedNew (t' := tk + 1) (ch := [e, it]) (fun b ob hb q => (sb.2 b (fun z => hb (by simp [z]))).trans (hk b ob (fun z => hb (by simp [z])) (fun z => hb (by simp [z])) q)) hf (Nat.le_refl _) new
    refine ⟨.ref s.heap.objs.size, _, I1, rfl, ⟨_, x, rfl, I.hok.fresh (Nat.le_refl _), rfl, fun ys hy => by rw [I.tuple_inj hy hq]; exact hx⟩, ⟨⟨y, ?_⟩, st'.1.at fun o q => (sb.2 it (Ne.symm hne)).trans q, hne, hea, hai⟩, fun b hb => ?_⟩
    · have e1 : ((i + 1 : Nat) : Int) = (i : Int) + 1 := by omega
      rw [e1]; exact he'
    · have hb' : b < s.heap.objs.size := by
        have e' : b = e ∨ b = it := by simpa using hb
        rcases e' with z | z
        · rw [z]; exact hel
        · rw [z]; exact hil
      rw [upd_ne (Nat.ne_of_lt hb')]
      exact (hf b hb).1
  done := by
    intro X hP hw hK hc i pins s σ H E I hf st hg
    subst hP hw hK
    obtain ⟨⟨old, he⟩, hit, hne, hea, hai⟩ := st
    obtain ⟨xs, hq, hx⟩ := hg
    obtain ⟨its, rv, p, hz⟩ := I.tuple hq
    obtain ⟨f0, f1, f2, f3, f4, f5⟩ := hf it (by simp)
    have hl := rv.length
    have hh : X.A.in1.handled = none := I.ok.hd hc
    have hT : s.TypeIs (.ref e) "enumerate" := ⟨_, he, rfl⟩
    unfold pyNext
    refine wpAny_bind (wpAny_attempt (wpAny_callSpecial?_slot (name := Str.ofString "__next__") hT PySem.F.slot_enumerate_next
      (wpAny_call_entry PySem.F.slot_enumerate_next hT PySem.F.entry_enumerate_next ?_ (PySem.F.args_enumerate_next_1 _))))
    show wpAny _ _ (field (.ref e) 2 >>= _) _ _ _
    refine wpAny_bind (wpAny_field he rfl (x := .ref it) rfl ?_)
    refine wpAny_bind (wpAny_nextOf_tuple_end hh hit p (by simp; omega) fun h' x he' hx' => ?_)
    obtain ⟨o, ho, hc⟩ := hx'
    refine wpAny_bind (wpAny_isInstance (T := "StopIteration") (b := true) ⟨o, ho, hc⟩ isSubtype_stop ?_)
    exact wpAny_pure ⟨rfl, I.turned (t' := s.toks) (fun b o hb q => he' b o hb q) f0 f1 f3 f4 f5⟩
  self := fun A i s Q E st h => let ⟨⟨_, he⟩, _⟩ := st; wpAny_pyIter_enum he h
def iEnumT (K : PySem.W.Frag) (ta : TA) : TI := fun σ H R => ta σ H fun vs H1 => ∃ a xs, vs = [.ref a] ∧ SqT K H1 a xs ∧ R (ItEt K a) H1
theorem pi_enumT {X : Cx} {e : Expr} {ta : TA} {p pos tpos : Pos} {elts : List Expr} {kk : Nat} (hg : Gl X "enumerate") (hm : X.mg "enumerate" = none) (ha : PA X [e] ta) (hs : starEach [e] X.env = [(false, eval e X.env)] := by rfl) :
    PI X (.Tuple elts kk tpos) (.Call (.Name "enumerate" p) [e] [] pos) (iEnumT X.K ta) := by
  refine ⟨fun pins s σ H R I h => ?_⟩
  refine Call_ (ld_blt I hg hm boot_enumerate (PyProof.Rows.callWith_type1 (thn (ha.run pos pins s σ H _ I h) fun us s1 ⟨vs, H1, I1, r1, q1⟩ => ?_) hs rfl))
  obtain ⟨a, xs, ex, hq, q⟩ := q1
  subst ex
  cases r1 with
  | cons r rr =>
    cases rr
    cases r
    obtain ⟨its, rv, p', hz⟩ := I1.tuple hq
    have hal : a < s1.heap.objs.size := by obtain ⟨_, q, _⟩ := p'; exact Heap.lt_size q
    refine enum1 (begins_tuple a its.toArray) p' fun h' he hit hsz hk => wpAny_pyIter_enum he ?_
    have I2 : Inv X pins σ H1 { s1 with heap := h' } := I1.kept (t' := s1.toks) hk
    refine ⟨s1.heap.objs.size + 1, [s1.heap.objs.size + 1, s1.heap.objs.size], _, _, H1, rfl, I2, turn_enumT a (s1.heap.objs.size + 1) s1.heap.objs.size, ⟨⟨.none, he⟩, ⟨_, hit, rfl, rfl⟩, Nat.succ_ne_self _, fun z => Nat.lt_irrefl _ (Nat.lt_of_lt_of_le hal (z ▸ Nat.le_succ _)), fun z => Nat.lt_irrefl _ (z ▸ hal)⟩, fun b hb => ?_, q⟩
    have e' : b = s1.heap.objs.size + 1 ∨ b = s1.heap.objs.size := by simpa using hb
    have hle : s1.heap.objs.size ≤ b := by
      rcases e' with z | z
      · rw [z]; exact Nat.le_add_right _ _
      · rw [z]; exact Nat.le_refl _
    exact I1.fpOk hle (I1.hok.fresh hle)
/-! ### as data -/
def enumD : Nat → List D → List D
  | _, [] => []
  | k, x :: xs => .tup [.int k, x] :: enumD (k + 1) xs
theorem enumD_length : ∀ (xs : List D) (k : Nat), (enumD k xs).length = xs.length
  | [], _ => rfl
  | _ :: xs, k => by rw [enumD, List.length_cons, List.length_cons, enumD_length xs]
theorem enumD_get : ∀ (xs : List D) (k i : Nat), (enumD k xs)[i]? = (xs[i]?).map fun x => .tup [.int ((k + i : Nat) : Int), x]
  | [], _, _ => rfl
  | x :: xs, k, 0 => rfl
  | x :: xs, k, i + 1 => by
    rw [enumD, List.getElem?_cons_succ, List.getElem?_cons_succ, enumD_get xs (k + 1) i]
    congr 2
    funext y
    have e : k + 1 + i = k + (i + 1) := by omega
    rw [e]
theorem enumD_at {xs : List D} {i : Nat} {d : D} (h : (enumD 0 xs)[i]? = some d) : ∃ x, xs[i]? = some x ∧ d = .tup [.int i, x] := by
  rw [enumD_get] at h
  cases q : xs[i]? with
  | none => rw [q] at h; cases h
  | some x =>
    rw [q] at h
    cases h
    exact ⟨x, rfl, by rw [Nat.zero_add]⟩
def zipD : List D → List D → List D
  | x :: xs, y :: ys => .tup [x, y] :: zipD xs ys
  | _, _ => []
theorem zipD_get : ∀ (xs ys : List D) (i : Nat) (d : D), (zipD xs ys)[i]? = some d → ∃ x y, xs[i]? = some x ∧ ys[i]? = some y ∧ d = .tup [x, y]
  | x :: xs, y :: ys, 0, d, h => ⟨x, y, rfl, rfl, by cases h; rfl⟩
  | x :: xs, y :: ys, i + 1, d, h => by
    obtain ⟨a, b, c⟩ := zipD_get xs ys i d h
    exact ⟨a, b, c⟩
  | [], _, i, d, h => by cases h
  | _ :: _, [], i, d, h => by cases h
theorem zipD_length : ∀ (xs ys : List D), (zipD xs ys).length = min xs.length ys.length
  | x :: xs, y :: ys => by rw [zipD, List.length_cons, List.length_cons, List.length_cons, zipD_length xs ys]; omega
  | [], _ => by simp [zipD]
  | _ :: _, [] => by simp [zipD]
section
variable {K : PySem.W.Frag} {F : Hp}
theorem dit_enumT {a : Addr} {vs : List V} {xs : List D} (h : SqT K F a vs) (r : IsAll K F vs xs) : DIt K F (ItEt K a) (enumD 0 xs) := fun i H F2 O2 e S => by
  have hH : SqT K H a vs := sqT_mono (e.trans S.ex) h
  rw [enumD_length]
  refine ⟨fun hi => ⟨vs, hH, by rw [r.length]; exact hi⟩, fun hi => ?_, fun x H' d hd y => ?_⟩
  · obtain ⟨v, hv, _⟩ := r.get (List.getElem?_eq_getElem hi)
    exact ⟨vs, v, hH, hv⟩
  · obtain ⟨T, z, rfl, hT, rfl, y⟩ := y
    obtain ⟨d', hd', rfl⟩ := enumD_at hd
    obtain ⟨v, hv, rv⟩ := r.get hd'
    have ex : z = v := by
      have := y vs hH
      rw [hv] at this
      exact (Option.some.inj this).symm
    subst ex
    obtain ⟨a1, a2, a3⟩ := S.newT hT (.cons (.int (i : Nat)) (.cons (rv.mono e) .nil))
    exact ⟨_, a1, a2, a3⟩
theorem dit_zipL {a b : Addr} {vs us : List V} {xs ys : List D} (h : SqL K F a vs) (h2 : SqL K F b us) (r : IsAll K F vs xs) (r2 : IsAll K F us ys) : DIt K F (Itz K a b) (zipD xs ys) := fun i H F2 O2 e S => by
  have hH : SqL K H a vs := Same.seq (e.trans S.ex) h
  have hH2 : SqL K H b us := Same.seq (e.trans S.ex) h2
  rw [zipD_length]
  refine ⟨fun hi => ⟨vs, us, hH, hH2, by rw [r.length, r2.length]; omega⟩, fun hi => ?_, fun x H' d hd y => ?_⟩
  · obtain ⟨v, hv, _⟩ := r.get (List.getElem?_eq_getElem (show i < xs.length by omega))
    obtain ⟨u, hu, _⟩ := r2.get (List.getElem?_eq_getElem (show i < ys.length by omega))
    exact ⟨vs, us, v, u, hH, hH2, hv, hu⟩
  · obtain ⟨T, z, z2, rfl, hT, rfl, y, y2⟩ := y
    obtain ⟨d1, d2, hd1, hd2, rfl⟩ := zipD_get _ _ _ _ hd
    obtain ⟨v, hv, rv⟩ := r.get hd1
    obtain ⟨u, hu, ru⟩ := r2.get hd2
    have ex : z = v := by
      have := y vs hH
      rw [hv] at this
      exact (Option.some.inj this).symm
    have ex2 : z2 = u := by
      have := y2 us hH2
      rw [hu] at this
      exact (Option.some.inj this).symm
    subst ex ex2
    obtain ⟨a1, a2, a3⟩ := S.newT hT (.cons (rv.mono e) (.cons (ru.mono e) .nil))
    exact ⟨_, a1, a2, a3⟩
theorem dit_zipT {a b : Addr} {vs us : List V} {xs ys : List D} (h : SqT K F a vs) (h2 : SqT K F b us) (r : IsAll K F vs xs) (r2 : IsAll K F us ys) : DIt K F (RZ.ItzT K a b) (zipD xs ys) := fun i H F2 O2 e S => by
  have hH : SqT K H a vs := sqT_mono (e.trans S.ex) h
  have hH2 : SqT K H b us := sqT_mono (e.trans S.ex) h2
  rw [zipD_length]
  refine ⟨fun hi => ⟨vs, us, hH, hH2, by rw [r.length, r2.length]; omega⟩, fun hi => ?_, fun x H' d hd y => ?_⟩
  · obtain ⟨v, hv, _⟩ := r.get (List.getElem?_eq_getElem (show i < xs.length by omega))
    obtain ⟨u, hu, _⟩ := r2.get (List.getElem?_eq_getElem (show i < ys.length by omega))
    exact ⟨vs, us, v, u, hH, hH2, hv, hu⟩
  · obtain ⟨T, z, z2, rfl, hT, rfl, y, y2⟩ := y
    obtain ⟨d1, d2, hd1, hd2, rfl⟩ := zipD_get _ _ _ _ hd
    obtain ⟨v, hv, rv⟩ := r.get hd1
    obtain ⟨u, hu, ru⟩ := r2.get hd2
    have ex : z = v := by
      have := y vs hH
      rw [hv] at this
      exact (Option.some.inj this).symm
    have ex2 : z2 = u := by
      have := y2 us hH2
      rw [hu] at this
      exact (Option.some.inj this).symm
    subst ex ex2
    obtain ⟨a1, a2, a3⟩ := S.newT hT (.cons (rv.mono e) (.cons (ru.mono e) .nil))
    exact ⟨_, a1, a2, a3⟩
theorem dit_revT {a : Addr} {vs : List V} {xs : List D} (h : SqT K F a vs) (r : IsAll K F vs xs) : DIt K F (RT.ItvT K a vs.length) xs.reverse := fun i H F2 O2 e S => by
  have hH : SqT K H a vs := sqT_mono (e.trans S.ex) h
  have hl := r.length
  rw [List.length_reverse]
  refine ⟨fun hi => by show vs.length ≤ i; omega, fun hi => ?_, fun x H' d hd y => ?_⟩
  · obtain ⟨v, hv, _⟩ := r.get (List.getElem?_eq_getElem (show vs.length - 1 - i < xs.length by omega))
    exact ⟨by omega, vs, v, hH, hv⟩
  · obtain ⟨rfl, y⟩ := y
    have hi : i < xs.length := by
      rcases Nat.lt_or_ge i xs.length with q | q
      · exact q
      · rw [List.getElem?_eq_none (by simpa using q)] at hd; cases hd
    rw [List.getElem?_reverse hi, ← hl] at hd
    obtain ⟨v, hv, rv⟩ := r.get hd
    have ex : x = v := by
      have := y vs hH
      rw [hv] at this
      exact (Option.some.inj this).symm
    subst ex
    exact ⟨F2, Same.refl _, S, rv.mono e⟩
def rngC (lo c : Int) (n : Nat) : List D := (List.range n).map fun (k : Nat) => .int (lo + k * c)
theorem rngC_length (lo c : Int) (n : Nat) : (rngC lo c n).length = n := by unfold rngC; rw [List.length_map, List.length_range]
theorem rngC_of {lo c : Int} {n k : Nat} {d : D} (h : (rngC lo c n)[k]? = some d) : k < n ∧ d = .int (lo + k * c) := by
  have hk : k < n := by
    rcases Nat.lt_or_ge k n with q | q
    · exact q
    · rw [List.getElem?_eq_none (by rw [rngC_length]; exact q)] at h; cases h
  unfold rngC at h
  rw [List.getElem?_map, List.getElem?_range hk] at h
  exact ⟨hk, (Option.some.inj h).symm⟩
theorem dit_rngC {lo c : Int} {n : Nat} : DIt K F (Itc lo c n) (rngC lo c n) := fun i H F2 O2 e S => by
  rw [rngC_length]
  refine ⟨fun hi => hi, fun hi => hi, fun x H' d hd y => ?_⟩
  obtain ⟨rfl, rfl⟩ := y
  obtain ⟨_, rfl⟩ := rngC_of hd
  exact ⟨F2, Same.refl _, S, .int _⟩
/-- the signs of a text -/
def signsD (x : Str) : List D := x.cps.toList.map fun c => .str ⟨#[c]⟩
theorem dit_str {x : Str} : DIt K F (Its x) (signsD x) := fun i H F2 O2 e S => by
  have hl : (signsD x).length = x.cps.size := by unfold signsD; rw [List.length_map, Array.length_toList]
  rw [hl]
  refine ⟨fun hi => hi, fun hi => hi, fun v H' d hd y => ?_⟩
  obtain ⟨rfl, c, hc, rfl⟩ := y
  unfold signsD at hd
  rw [List.getElem?_map, Array.getElem?_toList, hc] at hd
  cases hd
  exact ⟨F2, Same.refl _, S, .str _⟩
end
section
variable {X : Cx} {Z : ZP} {F : Hp} {O : OW} {ρ : Rho} {tg : Expr}
theorem srp_enumT {e : Expr} {p pos tpos : Pos} {elts : List Expr} {kk : Nat} {P : Hp → OW → List D → Prop} (hm : X.mg "enumerate" = none) (h : EvP X Z e F O ρ fun F1 O1 d => ∃ xs, d = .tup xs ∧ P F1 O1 (enumD 0 xs)) (hg : Gl X "enumerate" := by rfl)
    (hs : starEach [e] X.env = [(false, eval e X.env)] := by rfl) : SrP X Z (.Tuple elts kk tpos) (.Call (.Name "enumerate" p) [e] [] pos) F O ρ P :=
  .mk fun T σ H S R q => canI_of (pi_enumT hg hm (pa_cons pe_can pa_nil (by rw [hs] <;> rfl)) hs) (h T σ H S _ fun F1 O1 H1 v d e1 S1 r1 ⟨xs, ed, p⟩ => by
    subst ed
    cases r1 with
    | tup ha hr => exact ⟨_, _, rfl, sqT_mono S1.a.ex ha, q F1 O1 H1 _ _ e1 S1 (dit_enumT ha hr) p⟩)
theorem srp_zip {e e2 : Expr} {p pos tpos : Pos} {elts : List Expr} {kk : Nat} {P : Hp → OW → List D → Prop} (hm : X.mg "zip" = none)
    (h : EvP X Z e F O ρ fun F1 O1 d1 => EvP X Z e2 F1 O1 ρ fun F2 O2 d2 => ∃ xs ys, ((d1 = .tup xs ∧ d2 = .tup ys) ∨ (d1 = .lst xs ∧ d2 = .lst ys)) ∧ P F2 O2 (zipD xs ys)) (hg : Gl X "zip" := by rfl)
    (hs : starEach [e, e2] X.env = (false, eval e X.env) :: starEach [e2] X.env := by rfl) (hpl : (backTo pos (starEach [e2] X.env)).any (·.1) = false := by rfl) (hs2 : starEach [e2] X.env = [(false, eval e2 X.env)] := by rfl) :
    SrP X Z (.Tuple elts kk tpos) (.Call (.Name "zip" p) [e, e2] [] pos) F O ρ P :=
  .mk fun T σ H S R q => canI_of (RZ.pi_zipA hg hm (pa_cons pe_can (pa_cons pe_can pa_nil (by rw [hs2] <;> rfl)) hs) hs hpl) (h T σ H S _ fun F1 O1 H1 v d1 e1 S1 r1 k => k (tkm T e1) σ H1 S1 _ fun F2 O2 H2 u d2 e2 S2 r2 ⟨xs, ys, ed, p⟩ => by
    rcases ed with ⟨rfl, rfl⟩ | ⟨rfl, rfl⟩
    · cases r1 with
      | tup ha hr =>
        cases r2 with
        | tup hb hr2 => exact ⟨_, _, _, _, rfl, .inr ⟨sqT_mono (e2.trans S2.a.ex) ha, sqT_mono S2.a.ex hb, q F2 O2 H2 _ _ (e1.trans e2) S2 (dit_zipT (sqT_mono e2 ha) hb (hr.mono e2) hr2) p⟩⟩
    · cases r1 with
      | lst ha hr =>
        cases r2 with
        | lst hb hr2 => exact ⟨_, _, _, _, rfl, .inl ⟨.inl (.inl ((e2.trans S2.a.ex) _ _ ha)), .inl (.inl (S2.a.ex _ _ hb)), q F2 O2 H2 _ _ (e1.trans e2) S2 (dit_zipL (.inl (.inl (e2 _ _ ha))) (.inl (.inl hb)) (hr.mono e2) hr2) p⟩⟩)
theorem srp_revT {e : Expr} {p pos : Pos} {P : Hp → OW → List D → Prop} (hm : X.mg "reversed" = none) (h : EvP X Z e F O ρ fun F1 O1 d => ∃ xs, d = .tup xs ∧ P F1 O1 xs.reverse) (hg : Gl X "reversed" := by rfl)
    (hs : starEach [e] X.env = (false, eval e X.env) :: starEach [] X.env := by rfl) : SrP X Z tg (.Call (.Name "reversed" p) [e] [] pos) F O ρ P :=
  .mk fun T σ H S R q => canI_of (RT.pi_revA hg hm pe_can hs) (h T σ H S _ fun F1 O1 H1 v d e1 S1 r1 ⟨xs, ed, p⟩ => by
    subst ed
    cases r1 with
    | tup ha hr => exact ⟨_, _, rfl, .inr ⟨sqT_mono S1.a.ex ha, q F1 O1 H1 _ _ e1 S1 (dit_revT ha hr) p⟩⟩)
theorem srp_rng3 {a b c : Expr} {p pos : Pos} {P : Hp → OW → List D → Prop} (hm : X.mg "range" = none)
    (h : EvP X Z a F O ρ fun F1 O1 d1 => EvP X Z b F1 O1 ρ fun F2 O2 d2 => EvP X Z c F2 O2 ρ fun F3 O3 d3 => ∃ (i j k : Int) (n : Nat), d1 = .int i ∧ d2 = .int j ∧ d3 = .int k ∧ RgC i j k n ∧ P F3 O3 (rngC i k n)) (hg : Gl X "range" := by rfl)
    (hs : starEach [a, b, c] X.env = (false, eval a X.env) :: starEach [b, c] X.env := by rfl) (hpl : (backTo pos (starEach [b, c] X.env)).any (·.1) = false := by rfl) (hs2 : starEach [b, c] X.env = (false, eval b X.env) :: starEach [c] X.env := by rfl) (hs3 : starEach [c] X.env = (false, eval c X.env) :: starEach [] X.env := by rfl) :
    SrP X Z tg (.Call (.Name "range" p) [a, b, c] [] pos) F O ρ P :=
  .mk fun T σ H S R q => canI_of (pi_range3 hg hm (pa_cons pe_can (pa_cons pe_can (pa_cons pe_can pa_nil hs3) hs2) hs) hs hpl) (h T σ H S _ fun F1 O1 H1 v d1 e1 S1 r1 k1 => k1 (tkm T e1) σ H1 S1 _ fun F2 O2 H2 u d2 e2 S2 r2 k2 => k2 (tkm T (e1.trans e2)) σ H2 S2 _ fun F3 O3 H3 t d3 e3 S3 r3 ⟨i, j, k, n, ed1, ed2, ed3, hn, p⟩ => by
    subst ed1 ed2 ed3
    cases r1
    cases r2
    cases r3
    exact ⟨i, j, k, n, rfl, hn, q F3 O3 H3 _ _ ((e1.trans e2).trans e3) S3 dit_rngC p⟩)
end
end CR
/-! More rules: {}, a, b = a list. -/
namespace CR
open PySem PySem.Spec PyProof.Rows L2
section
variable {X : Cx} {Z : ZP} {F : Hp} {O : OW} {ρ : Rho}
theorem evp_emp {pos : Pos} {P : Hp → OW → D → Prop} (h : ∀ F2, Same F F2 → P F2 O .emp) : EvP X Z (.Dict [] [] pos) F O ρ P :=
  .mk fun T σ H S Q q => canE_of pe_dnewK fun p hp => q _ O _ _ _ (same_new (S.a.neF hp)) ⟨S.a.new hp, S.sig.mono (same_new (S.a.neF hp))⟩ (.emp upd_same) (h _ (same_new (S.a.neF hp)))
theorem pg_or {X : Cx} {tg : Expr} {t t' : TG} (h : PG X tg t) (h' : PG X tg t') : PG X tg (fun v σ H Q => t v σ H Q ∨ t' v σ H Q) :=
  ⟨fun pins s σ H v u Q I r q => by
    rcases q with q | q
    · exact h.run pins s σ H v u Q I r q
    · exact h'.run pins s σ H v u Q I r q⟩
/-- x, y = a tuple or a list of two -/
theorem wp_unp2 {i j : Nat} {x y : Str} {e : Expr} {px py pt pos : Pos} {kt : Nat} {N : Post} (h : EvP X Z e F O ρ fun F1 O1 d => ∃ a b, (d = .tup [a, b] ∨ d = .lst [a, b]) ∧ N.nx F1 O1 ((ρ.set i (some a)).set j (some b))) (hc : X.calm = true) (hN : X.N.Nodup)
    (hi : X.N[i]? = some x := by rfl) (hj : X.N[j]? = some y := by rfl) (hx : Loc X.env.scope x := by first | exact Or.inl rfl | exact Or.inr rfl) (hy : Loc X.env.scope y := by first | exact Or.inl rfl | exact Or.inr rfl)
    (hf : X.fn x = true ∨ X.env.scope.names.lookup x = some .local := by first | exact .inl rfl | exact .inr rfl | assumption) (hf2 : X.fn y = true ∨ X.env.scope.names.lookup y = some .local := by first | exact .inl rfl | exact .inr rfl | assumption)
    (hn : (assignEach [.Name x px, .Name y py] X.env).length = 2 := by rfl) (hst : (assignEach [.Name x px, .Name y py] X.env).findIdx? (·.1) = none := by rfl)
    (ht1 : (assignEach [.Name x px, .Name y py] X.env).map (·.2) = assign (.Name x px) X.env :: (assignEach [.Name y py] X.env).map (·.2) := by rfl) (ht2 : (assignEach [.Name y py] X.env).map (·.2) = assign (.Name y py) X.env :: (assignEach [] X.env).map (·.2) := by rfl)
    (hs : swapsWithSole [.Tuple [.Name x px, .Name y py] kt pt] e pos.line X.env = pure false := by rfl) (hw : swappedStores [.Tuple [.Name x px, .Name y py] kt pt] e X.env = pure none := by rfl)
    (h1 : (assignEach [.Tuple [.Name x px, .Name y py] kt pt] X.env).map (·.2) = [assign (.Tuple [.Name x px, .Name y py] kt pt) X.env] := by rfl) :
    Wp1 X Z (.Assign [.Tuple [.Name x px, .Name y py] kt pt] e pos) F O ρ N :=
  .mk fun T σ H S D E => canS_of (ps_asg pe_can (pg_or (pg_tup hc (pgs_cons (pg_name hN hi hx hf) (pgs_cons (pg_name hN hj hy hf2) pgs_nil ht2) ht1) hn hst) (pg_lst hc (pgs_cons (pg_name hN hi hx hf) (pgs_cons (pg_name hN hj hy hf2) pgs_nil ht2) ht1) hn hst)) hs hw h1)
    (h T σ H S _ fun F1 O1 H1 v d e1 S1 r1 ⟨a, b, ed, nx⟩ => by
      rcases ed with rfl | rfl
      · cases r1 with
        | tup ha hr =>
          obtain ⟨va, vb, rfl, ra, rb⟩ := isAll2 hr
          exact .inl ⟨_, _, rfl, sqT_mono S1.a.ex ha, rfl, va, [vb], rfl, vb, [], rfl, rfl, E.nx F1 O1 _ _ H1 e1 ⟨S1.a, (S1.sig.set ra i).set rb j⟩ nx⟩
      · cases r1 with
        | lst ha hr =>
          obtain ⟨va, vb, rfl, ra, rb⟩ := isAll2 hr
          exact .inr ⟨_, _, rfl, .inl (.inl (S1.a.ex _ _ ha)), rfl, va, [vb], rfl, vb, [], rfl, rfl, E.nx F1 O1 _ _ H1 e1 ⟨S1.a, (S1.sig.set ra i).set rb j⟩ nx⟩)
end
/-! ### slices of lists, tuples, texts alike -/
abbrev slCan (X : Cx) : V → Option Int → Option Int → Hp → VK → Prop := fun x lo hi H Q => ∀ (pins : List (Addr × Obj)) (s : Shared) (σ : L2.St) (v vl vu : Value) (sl : Addr), Inv X pins σ H s → RelV x v → s.heap.IsSliceOf sl vl vu .none → IsPart vl lo → IsPart vu hi →
    ∃ T id, typeLookup (.type T) "__getitem__" = pure (some (.builtin id)) ∧ s.TypeIs v T ∧ wpAny (model X.prog X.w) X.A (getItem v (.ref sl)) (EP X pins σ Q) X.xe s
theorem sl_can {X : Cx} : L2.SlR X (slCan X) := fun pins s σ _ _ v vl vu _ _ sl _ I rx hs pl pu h => h pins s σ v vl vu sl I rx hs pl pu
def SlD (X : Cx) (x : D) (lo hi : Option Int) (F : Hp) (O : OW) (P : Hp → D → Prop) : Prop :=
  ∀ (H : Hp) (v : V), StA X.K F O H → Is X.K F v x → ∀ Q : VK, (∀ F2 H2 w d, Same F F2 → StA X.K F2 O H2 → Is X.K F2 w d → P F2 d → Q w H2) → slCan X v lo hi H Q
theorem SlD.of {X : Cx} {F : Hp} {O : OW} {r : V → Option Int → Option Int → Hp → VK → Prop} {x : D} {lo hi : Option Int} {P : Hp → D → Prop} (ho : L2.SlR X r)
    (h : ∀ (H : Hp) (v : V), StA X.K F O H → Is X.K F v x → ∀ Q : VK, (∀ F2 H2 w d, Same F F2 → StA X.K F2 O H2 → Is X.K F2 w d → P F2 d → Q w H2) → r v lo hi H Q) : SlD X x lo hi F O P :=
  fun H v S hv Q q pins s σ v' vl vu sl I rv hs pl pu => ho pins s σ H v v' vl vu lo hi sl Q I rv hs pl pu (h H v S hv Q q)
section
variable {X : Cx} {Z : ZP} {F : Hp} {O : OW} {ρ : Rho}
/-- d is a number -/
def AsInt (d : D) (P : Int → Prop) : Prop := ∃ i, d = .int i ∧ P i
theorem prp_int {e : Expr} {P : Hp → OW → Option Int → Prop} (h : EvP X Z e F O ρ fun F1 O1 d => AsInt d fun i => P F1 O1 (some i)) : PrP X Z (some e) F O ρ P := h
theorem evp_slice {e : Expr} {lo hi : Option Expr} {p2 pos : Pos} {P : Hp → OW → D → Prop} (h : EvP X Z e F O ρ fun F1 O1 d => PrP X Z lo F1 O1 ρ fun F2 O2 a => PrP X Z hi F2 O2 ρ fun F3 O3 b => SlD X d a b F3 O3 fun F4 x => P F4 O3 x) :
    EvP X Z (.Subscript e (.Slice lo hi none p2) pos) F O ρ P :=
  .mk fun T σ H S Q q => canE_of (L2.pe_slice sl_can pe_can po_can po_can) (h T σ H S _ fun F1 O1 H1 v d e1 S1 r1 k1 =>
    prp_run k1 (tkm T e1) S1 fun F2 O2 H2 a e2 S2 k2 => prp_run k2 (tkm T (e1.trans e2)) S2 fun F3 O3 H3 b e3 S3 k3 =>
      k3 H3 v S3.a (r1.mono (e2.trans e3)) Q fun F4 H4 w d4 e4 S4 r4 p => q F4 O3 H4 w d4 ((e1.trans (e2.trans e3)).trans e4) ⟨S4, S3.sig.mono e4⟩ r4 p)
theorem sld_tup {xs : List D} {lo hi : Option Int} {P : Hp → D → Prop} (h : ∀ F2, Same F F2 → P F2 (.tup (cutX xs lo hi))) : SlD X (.tup xs) lo hi F O P := SlD.of sl_tupA fun H v S hv Q q => by
  cases hv with
  | tup ha hr =>
    refine ⟨_, _, rfl, sqT_mono S.ex ha, fun hw => ?_, fun _ p hp => ?_⟩
    · have hw' := hw
      rw [hr.length] at hw'
      have k4 := h F (Same.refl _)
      rw [cutX_whole xs lo hi hw'] at k4
      exact q F H _ _ (Same.refl _) S (.tup ha hr) k4
    · obtain ⟨a1, a2, a3⟩ := S.newT hp (hr.cut lo hi)
      exact q _ _ _ _ a1 a2 a3 (h _ a1)
theorem sld_lst {xs : List D} {lo hi : Option Int} {P : Hp → D → Prop} (h : ∀ F2, Same F F2 → P F2 (.lst (cutX xs lo hi))) : SlD X (.lst xs) lo hi F O P := SlD.of sl_list fun H v S hv Q q => by
  cases hv with
  | lst ha hr =>
    refine ⟨_, _, rfl, .inl (.inl (S.ex _ _ ha)), fun p hp => ?_⟩
    obtain ⟨a1, a2, a3⟩ := S.newL hp (hr.cut lo hi)
    exact q _ _ _ _ a1 a2 a3 (h _ a1)
theorem sld_own {j : Nat} {p : Addr} {xs : List D} {lo hi : Option Int} {P : Hp → D → Prop} (hj : O[j]? = some (p, .lst xs)) (h : ∀ F2, Same F F2 → P F2 (.lst (cutX xs lo hi))) : SlD X (.raw (.ref p)) lo hi F O P := SlD.of sl_list fun H v S hv Q q => by
  cases hv
  obtain ⟨_, vs, hH, hr⟩ := S.own _ (List.mem_of_getElem? hj)
  refine ⟨_, _, rfl, .inl (.inl hH), fun p hp => ?_⟩
  obtain ⟨a1, a2, a3⟩ := S.newL hp (hr.cut lo hi)
  exact q _ _ _ _ a1 a2 a3 (h _ a1)
theorem sld_str {z : Str} {lo hi : Option Int} {P : Hp → D → Prop} (hz : z.length ≤ sizeLine) (h : P F (.str (cutS z lo hi))) : SlD X (.str z) lo hi F O P := SlD.of sl_str fun H v S hv Q q => by
  cases hv
  exact ⟨z, rfl, hz, q F H _ _ (Same.refl _) S (.str _) h⟩
end
/-! ### what can be walked -/
inductive WalkOf : D → List D → Prop
  | lst (xs : List D) : WalkOf (.lst xs) xs
  | frl (xs : List D) : WalkOf (.frl xs) xs
  | tup (xs : List D) : WalkOf (.tup xs) xs
  | str (x : Str) : WalkOf (.str x) (signsD x)
section
variable {X : Cx} {Z : ZP} {F : Hp} {O : OW} {ρ : Rho} {tg : Expr}
theorem srp_any {e : Expr} {P : Hp → OW → List D → Prop} (h : EvP X Z e F O ρ fun F1 O1 d => ∃ xs, WalkOf d xs ∧ P F1 O1 xs) : SrP X Z tg e F O ρ P :=
  .mk fun T σ H S R q pins s I => by
    refine L2.thn (h T σ H S (fun v H1 => ∃ F1 O1 d xs, Same F F1 ∧ Sta X.K F1 O1 ρ σ H1 ∧ Is X.K F1 v d ∧ WalkOf d xs ∧ P F1 O1 xs) (fun F1 O1 H1 v d e1 S1 r1 ⟨xs, w, p⟩ => ⟨F1, O1, d, xs, e1, S1, r1, w, p⟩) pins s I) fun u s1 ⟨v, H1, I1, r1, F1, O1, d, xs, e1, S1, rd, w, p⟩ => ?_
    cases w with
    | lst xs =>
      cases rd with
      | lst ha hr =>
        cases r1
        obtain ⟨its, rv, pl, hz⟩ := I1.list (.inl (.inl (S1.a.ex _ _ ha)))
        refine wpAny_pyIter_list pl.isList ?_
        refine ⟨s1.heap.objs.size, [s1.heap.objs.size], _, _, H1, rfl, I1.kept (t' := s1.toks) fun b o e => Heap.get?_push_of_some _ e, turn_list _ _, ⟨_, Heap.get?_push_size _ rfl, rfl, rfl⟩, fun b hb => ?_, q F1 O1 H1 _ _ e1 S1 (dit_lst (.inl (.inl ha)) hr) p⟩
        have e : b = s1.heap.objs.size := by simpa using hb
        subst e
        exact I1.fpOk (Nat.le_refl _) (I1.hok.fresh (Nat.le_refl _))
    | frl xs =>
      cases rd with
      | frl ha hr =>
        cases r1
        obtain ⟨its, rv, pl, hz⟩ := I1.list (Same.seq S1.a.ex ha)
        refine wpAny_pyIter_list pl.isList ?_
        refine ⟨s1.heap.objs.size, [s1.heap.objs.size], _, _, H1, rfl, I1.kept (t' := s1.toks) fun b o e => Heap.get?_push_of_some _ e, turn_list _ _, ⟨_, Heap.get?_push_size _ rfl, rfl, rfl⟩, fun b hb => ?_, q F1 O1 H1 _ _ e1 S1 (dit_lst ha hr) p⟩
        have e : b = s1.heap.objs.size := by simpa using hb
        subst e
        exact I1.fpOk (Nat.le_refl _) (I1.hok.fresh (Nat.le_refl _))
    | tup xs =>
      cases rd with
      | tup ha hr =>
        cases r1
        obtain ⟨its, rv, pl, hz⟩ := I1.tuple (sqT_mono S1.a.ex ha)
        refine wpAny_pyIter_tuple (show s1.heap.IsTuple _ its.toArray from pl) ?_
        refine ⟨s1.heap.objs.size, [s1.heap.objs.size], _, _, H1, rfl, I1.kept (t' := s1.toks) fun b o e => Heap.get?_push_of_some _ e, turn_tuple _ _, ⟨_, Heap.get?_push_size _ rfl, rfl, rfl⟩, fun b hb => ?_, q F1 O1 H1 _ _ e1 S1 (dit_tup ha hr) p⟩
        have e : b = s1.heap.objs.size := by simpa using hb
        subst e
        exact I1.fpOk (Nat.le_refl _) (I1.hok.fresh (Nat.le_refl _))
    | str x =>
      cases rd
      obtain ⟨t, rfl⟩ := r1
      cases ha : x.cps.all (· < 128)
      · exact wpAny_pyIter_wide ha (pi_one (tk := s1.toks) I1 _ (turn_str _ x t "str_iterator" (.inr rfl)) ⟨_, Heap.get?_push_size _ rfl, rfl, rfl⟩ (q F1 O1 H1 _ _ e1 S1 dit_str p))
      · exact wpAny_pyIter_ascii ha (pi_one (tk := s1.toks) I1 _ (turn_str _ x t "str_ascii_iterator" (.inl rfl)) ⟨_, Heap.get?_push_size _ rfl, rfl, rfl⟩ (q F1 O1 H1 _ _ e1 S1 dit_str p))
end
/-! ### comparing with [], () -/
theorem deqs_nilR : ∀ xs : List D, deqs xs [] = xs.isEmpty
  | [] => deqs_nil
  | x :: xs => deqs_cn x xs
section
variable {X : Cx} {Z : ZP} {F : Hp} {O : OW} {ρ : Rho}
theorem tsp_cmpN {a : Expr} {op : CmpOp} {lp pos : Pos} {P : Hp → OW → Bool → Prop} (h : EvP X Z a F O ρ fun F1 O1 d1 => ∀ F2, Same F1 F2 → OpD X (compareOp op) d1 (.lst []) F2 fun F3 d => ∃ k, d = .bl k ∧ P F3 O1 k)
    (hm : behindInMarks op (.List [] lp) = false := by first | exact nomark _ | with_unfolding_all rfl) : TsP X Z (.Compare a [op] [.List [] lp] pos) F O ρ P :=
  tsp_cmp (h.imp fun F1 O1 d1 _ k => evp_lst (arp_nil ⟨Nat.zero_le _, fun F2 e2 => k F2 e2⟩)) hm
theorem evp_cmpN {a : Expr} {op : CmpOp} {lp pos : Pos} {P : Hp → OW → D → Prop} (h : EvP X Z a F O ρ fun F1 O1 d1 => ∀ F2, Same F1 F2 → OpD X (compareOp op) d1 (.lst []) F2 fun F3 d => P F3 O1 d)
    (hm : behindInMarks op (.List [] lp) = false := by first | exact nomark _ | with_unfolding_all rfl) : EvP X Z (.Compare a [op] [.List [] lp] pos) F O ρ P :=
  evp_cmp (h.imp fun F1 O1 d1 _ k => evp_lst (arp_nil ⟨Nat.zero_le _, fun F2 e2 => k F2 e2⟩)) hm
theorem opd_neN {xs : List D} {k : Nat} {P : Hp → D → Prop} (hr : Room k X.A) (hx : xs.all (okD 8) = true) (h : P F (.bl (!xs.isEmpty))) : OpD X (compareOp .NotEq) (.lst xs) (.lst []) F P := opd_ne hr hx rfl (by rw [deq_lst, deqs_nilR]; exact h)
theorem opd_eqN {xs : List D} {k : Nat} {P : Hp → D → Prop} (hr : Room k X.A) (hx : xs.all (okD 8) = true) (h : P F (.bl xs.isEmpty)) : OpD X (compareOp .Eq) (.lst xs) (.lst []) F P := opd_eq hr hx rfl (by rw [deq_lst, deqs_nilR]; exact h)
theorem opd_neNT {xs : List D} {k : Nat} {P : Hp → D → Prop} (hr : Room k X.A) (hx : xs.all (okD 8) = true) (h : P F (.bl (!xs.isEmpty))) : OpD X (compareOp .NotEq) (.tup xs) (.tup []) F P := opd_ne hr hx rfl (by rw [deq_tup, deqs_nilR]; exact h)
theorem opd_eqNT {xs : List D} {k : Nat} {P : Hp → D → Prop} (hr : Room k X.A) (hx : xs.all (okD 8) = true) (h : P F (.bl xs.isEmpty)) : OpD X (compareOp .Eq) (.tup xs) (.tup []) F P := opd_eq hr hx rfl (by rw [deq_tup, deqs_nilR]; exact h)
end
/-! ### bits -/
def isBit (d : D) : Bool := isFrom d 0 1
def isBits (d : D) : Bool := match d with
  | .tup xs => decide (xs.length ≤ 64) && xs.all isBit
  | _ => false
def badIx (d : D) : D := match d with
  | .tup xs => if 64 < xs.length then .non else .int (xs.findIdx fun x => !isBit x : Nat)
  | _ => .non
theorem isBit_int {d : D} (h : isBit d = true) : ∃ i, d = .int i ∧ (i = 0 ∨ i = 1) := by
  obtain ⟨i, rfl, h0, h1⟩ := isFrom_int h
  exact ⟨i, rfl, by omega⟩
theorem allBits_ints : ∀ {xs : List D}, xs.all isBit = true → ∃ bs : List Int, xs = bs.map .int ∧ ∀ b ∈ bs, b = 0 ∨ b = 1
  | [], _ => ⟨[], rfl, by simp⟩
  | x :: xs, h => by
    rw [List.all_cons, Bool.and_eq_true] at h
    obtain ⟨i, rfl, hi⟩ := isBit_int h.1
    obtain ⟨bs, rfl, hb⟩ := allBits_ints h.2
    refine ⟨i :: bs, rfl, ?_⟩
    intro b hm
    rcases List.mem_cons.mp hm with rfl | hm
    · exact hi
    · exact hb b hm
/-- told bits -/
structure Bits (bs : List Int) : Prop where
  b : ∀ b ∈ bs, b = 0 ∨ b = 1
  l : bs.length ≤ 64
theorem isBits_mk {bs : List Int} (h : Bits bs) : isBits (.tup (bs.map .int)) = true := by
  show (decide ((bs.map D.int).length ≤ 64) && (bs.map D.int).all isBit) = true
  rw [List.length_map, Bool.and_eq_true]
  refine ⟨decide_eq_true h.l, ?_⟩
  rw [List.all_eq_true]
  intro d hd
  obtain ⟨i, hi, rfl⟩ := List.mem_map.mp hd
  rcases h.b i hi with rfl | rfl <;> rfl
theorem isBits_of {d : D} (h : isBits d = true) : ∃ bs : List Int, d = .tup (bs.map .int) ∧ Bits bs := by
  unfold isBits at h
  split at h
  · rename_i xs
    rw [Bool.and_eq_true] at h
    obtain ⟨bs, rfl, hb⟩ := allBits_ints h.2
    exact ⟨bs, rfl, hb, by simpa using h.1⟩
  · cases h
theorem bits_bitsM (n : Nat) (t l : Int) (h : n ≤ 64) : Bits (bitsM n t l) := ⟨bitsM_bit n t l, by rw [bitsM_length]; exact h⟩
theorem pl1_ints (xs : List Int) : pl1 (.tup (xs.map .int)) = true := by
  simp only [pl1, pl0, kindD, Option.isSome_some, Bool.true_and]
  rw [List.all_eq_true]
  intro d hd
  obtain ⟨i, _, rfl⟩ := List.mem_map.mp hd
  rfl
theorem pl1_at {xs : List D} {i : Nat} {d : D} (h : pl1 (.tup xs) = true) (hd : xs[i]? = some d) : kindD d ≠ none := by
  simp only [pl1, Bool.and_eq_true, List.all_eq_true] at h
  exact pl0_ne (h.2 d (List.mem_of_getElem? hd))
theorem findIdx_at {xs : List D} {k : Nat} {d : D} (h0 : ∀ j x, j < k → xs[j]? = some x → isBit x = true) (h1 : xs[k]? = some d) (h2 : isBit d = false) : xs.findIdx (fun x => !isBit x) = k := by
  have hk : k < xs.length := by
    rcases Nat.lt_or_ge k xs.length with q | q
    · exact q
    · rw [List.getElem?_eq_none q] at h1; cases h1
  have e1 : xs[k] = d := by
    rw [List.getElem?_eq_getElem hk] at h1
    exact Option.some.inj h1
  refine (List.findIdx_eq hk).mpr ⟨by rw [e1, h2]; rfl, fun j hj => ?_⟩
  have hjl : j < xs.length := by omega
  rw [h0 j xs[j] hj (List.getElem?_eq_getElem hjl)]
  rfl
/-! the first place at which two rows are not alike -/
def optD : Option Nat → D
  | none => .non
  | some n => .int (n : Int)
def onInt (q : Nat → Bool) (d : D) : Bool := match d with
  | .int i => q i.toNat
  | _ => false
theorem rng_filter (n : Nat) (q : Nat → Bool) : ((rngD 0 n).filter (onInt q)).map id = (((List.range n).filter q).map fun (i : Nat) => (i : Int)).map .int := by
  unfold rngD
  rw [List.map_id, List.filter_map, List.map_map]
  have e1 : ((onInt q) ∘ fun (k : Nat) => D.int (0 + (k : Int))) = q := by
    funext k
    show q (0 + (k : Int)).toNat = q k
    congr 1
    omega
  have e2 : (fun (k : Nat) => D.int (0 + (k : Int))) = (D.int ∘ fun (i : Nat) => (i : Int)) := by
    funext k
    show D.int (0 + (k : Int)) = D.int (k : Int)
    rw [Int.zero_add]
  rw [e1, e2]
theorem atI_int {ts : List Int} {j : Nat} {b : Int} (h : ts[j]? = some b) : L2.atI (ts.map D.int) (j : Int) = some (.int b) := atI_nat (by rw [List.getElem?_map, h]; rfl)
theorem cutX_len {α : Type} (xs : List α) (lo hi : Option Int) : (cutX xs lo hi).length = min (HT.sIx xs.length xs.length hi - HT.sIx xs.length 0 lo) (xs.length - HT.sIx xs.length 0 lo) := by
  unfold cutX
  rw [List.length_take, List.length_drop]
section
variable {X : Cx} {F : Hp} {O : OW} {ts : List Int} {x : Int} {P : D → Prop}
theorem getD_at (h0 : 0 ≤ x) (h1 : x < (ts.length : Int)) : L2.atI (ts.map D.int) x = some (.int (ts.getD x.toNat 0)) := by
  obtain ⟨j, rfl⟩ := Int.eq_ofNat_of_zero_le h0
  refine atI_int ?_
  rw [List.getD_eq_getElem?_getD, Int.toNat_natCast, List.getElem?_eq_getElem (by omega)]
  rfl
theorem ixd_intsT (h0 : 0 ≤ x) (h1 : x < (ts.length : Int)) (h : P (.int (ts.getD x.toNat 0))) : IxD X (.tup (ts.map .int)) (.int x) F O P := ixd_tup (getD_at h0 h1) h
theorem ixd_intsL (h0 : 0 ≤ x) (h1 : x < (ts.length : Int)) (h : P (.int (ts.getD x.toNat 0))) : IxD X (.lst (ts.map .int)) (.int x) F O P := ixd_lst (getD_at h0 h1) h
end
end CR
/-! Own dicts; in. -/
namespace CR
open PySem PySem.Spec PyProof.Rows L2
def dgetK (kvs : List (Key × D)) (k : Key) : Option D := (kvs.find? fun kv => decide (kv.1 = k)).map (·.2)
def dputK (kvs : List (Key × D)) (k : Key) (d : D) : List (Key × D) :=
  if (kvs.any fun kv => decide (kv.1 = k)) = true then kvs.map (fun kv => if kv.1 = k then (kv.1, d) else kv) else kvs ++ [(k, d)]
section
variable {K : PySem.W.Frag} {F H : Hp}
abbrev PairK (K : PySem.W.Frag) (F : Hp) : List (Key × V) → List (Key × D) → Prop := Paired (fun (a : Key × V) (b : Key × D) => a.1 = b.1 ∧ Is K F a.2 b.2)
theorem pairK_get : ∀ {ws : List (Key × V)} {kvs : List (Key × D)} (k : Key), PairK K F ws kvs → (valV ws k = none ∧ dgetK kvs k = none) ∨ ∃ v d, valV ws k = some v ∧ dgetK kvs k = some d ∧ Is K F v d
  | _, _, k, .nil => .inl ⟨rfl, rfl⟩
  | (k1, v) :: ws, (k2, d) :: kvs, k, .cons ⟨e, r⟩ t => by
    have e : k1 = k2 := e
    subst e
    by_cases h : k1 = k
    · refine .inr ⟨v, d, ?_, ?_, r⟩
      · unfold valV; rw [List.find?_cons]; simp [h]
      · unfold dgetK; rw [List.find?_cons]; simp [h]
    · have e1 : valV ((k1, v) :: ws) k = valV ws k := by unfold valV; rw [List.find?_cons]; simp [h]
      have e2 : dgetK ((k1, d) :: kvs) k = dgetK kvs k := by unfold dgetK; rw [List.find?_cons]; simp [h]
      rw [e1, e2]
      exact pairK_get k t
theorem pairK_any : ∀ {ws : List (Key × V)} {kvs : List (Key × D)} (k : Key), PairK K F ws kvs → (ws.any fun kv => decide (kv.1 = k)) = (kvs.any fun kv => decide (kv.1 = k))
  | _, _, k, .nil => rfl
  | (k1, v) :: ws, (k2, d) :: kvs, k, .cons ⟨e, r⟩ t => by
    have e : k1 = k2 := e
    subst e
    rw [List.any_cons, List.any_cons, pairK_any k t]
theorem pairK_map : ∀ {ws : List (Key × V)} {kvs : List (Key × D)} (k : Key) {v : V} {d : D}, Is K F v d → PairK K F ws kvs → PairK K F (ws.map fun kv => if kv.1 = k then (kv.1, v) else kv) (kvs.map fun kv => if kv.1 = k then (kv.1, d) else kv)
  | _, _, k, _, _, _, .nil => .nil
  | (k1, v1) :: ws, (k2, d1) :: kvs, k, v, d, rv, .cons ⟨e, r⟩ t => by
    have e : k1 = k2 := e
    subst e
    refine .cons ?_ (pairK_map k rv t)
    by_cases h : k1 = k
    · simp only [h, if_true]
      exact ⟨trivial, rv⟩
    · simp only [if_neg h]
      exact ⟨trivial, r⟩
theorem pairK_snoc : ∀ {ws : List (Key × V)} {kvs : List (Key × D)} {k : Key} {v : V} {d : D}, Is K F v d → PairK K F ws kvs → PairK K F (ws ++ [(k, v)]) (kvs ++ [(k, d)])
  | _, _, _, _, _, r, .nil => .cons ⟨rfl, r⟩ .nil
  | _, _, _, _, _, r, .cons q t => .cons q (pairK_snoc r t)
theorem pairK_put {ws : List (Key × V)} {kvs : List (Key × D)} {k : Key} {v : V} {d : D} (r : Is K F v d) (t : PairK K F ws kvs) : PairK K F (putK ws k v) (dputK kvs k d) := by
  unfold putK dputK
  rw [pairK_any k t]
  split
  · exact pairK_map k r t
  · exact pairK_snoc r t
theorem pairK_length {ws : List (Key × V)} {kvs : List (Key × D)} (t : PairK K F ws kvs) : ws.length = kvs.length := Paired.length t
end
section
variable {X : Cx}
theorem ix_dicK (hu : X.A.units + 1 < cLine) : IxR X (fun x y H Q => ∃ a v, x = .ref a ∧ DGet H a y (some v) ∧ Q v H) := by
  intro value slice pins s σ H x y o i Q I rx ry h hs
  obtain ⟨a, v, rfl, g, q⟩ := h
  cases rx
  have hT := dict_typeIs I g
  unfold subscriptTail
  refine wpAny_bind ?_
  rw [getitemInPython_of_ne hT.not_modules]
  refine wpAny_bind (wpAny_specialOf hT PySem.F.slot_dict_getitem.lookup ?_)
  have fin : wpAny (model X.prog X.w) X.A (subscripted slice false (.ref a) i) (fun r s₃ => wpAny (model X.prog X.w) X.A (letTemporaryGo value (.ref a) r >>= fun _ => pure r) (EP X pins σ Q) X.xe s₃) X.xe s := by
    rw [hs]
    exact wpAny_operating (wpAny_mono (d_getItem hu I g ry fun w' s3 I3 rw' => (⟨v, H, I3, rw', q⟩ : EP X pins σ Q w' s3)) (fun r s₃ h₃ => wpAny_bind (wpAny_letTemporaryGo (wpAny_pure h₃))) fun _ _ x => x)
  first
    | exact wpAny_pure (wpAny_bind fin)
    | exact wpAny_bind (wpAny_pure (wpAny_bind fin))
    | exact wpAny_bind fin
def opIn (neg : Bool) : CmpOp := if neg then .NotIn else .In
theorem op_dinK (hu : X.A.units + 1 < cLine) (neg : Bool) : OpR X (compareOp (opIn neg)) (fun y x H Q => ∃ a o, x = .ref a ∧ DGet H a y o ∧ Q (.bl (if neg then !o.isSome else o.isSome)) H) := by
  intro pins s σ H y x iv u Q I ry rx h
  obtain ⟨a, o, rfl, g, q⟩ := h
  cases rx
  cases neg
  · exact d_in hu I g ry fun s3 I3 => ⟨.bl o.isSome, H, I3, rfl, q⟩
  · exact d_notIn hu I g ry fun s3 I3 => ⟨.bl (!o.isSome), H, I3, rfl, q⟩
end
/-! ### in -/
def InD (X : Cx) (neg : Bool) (x y : D) (F : Hp) (O : OW) (P : Bool → Prop) : Prop :=
  ∀ (H : Hp) (v u : V), StA X.K F O H → Is X.K F v x → Is X.K F u y → ∀ Q : VK, (∀ b, P b → Q (.bl b) H) → rCan X (compareOp (opIn neg)) v u H Q
theorem InD.of {X : Cx} {neg : Bool} {x y : D} {F : Hp} {O : OW} {P : Bool → Prop} {r : R2} (ho : OpR X (compareOp (opIn neg)) r)
    (h : ∀ (H : Hp) (v u : V), StA X.K F O H → Is X.K F v x → Is X.K F u y → ∀ Q : VK, (∀ b, P b → Q (.bl b) H) → r v u H Q) : InD X neg x y F O P :=
  fun H v u S hv hu Q q pins s σ v' u' I rv ru => ho pins s σ H v u v' u' Q I rv ru (h H v u S hv hu Q q)
section
variable {X : Cx} {Z : ZP} {F : Hp} {O : OW} {ρ : Rho}
theorem tsp_inG {neg : Bool} {a b : Expr} {pos : Pos} {P : Hp → OW → Bool → Prop} (h : EvP X Z a F O ρ fun F1 O1 d1 => EvP X Z b F1 O1 ρ fun F2 O2 d2 => InD X neg d1 d2 F2 O2 fun k => P F2 O2 k)
    (hm : behindInMarks (opIn neg) b = false) : TsP X Z (.Compare a [opIn neg] [b] pos) F O ρ P :=
  .mk fun T σ H S Q q => canT_of (pt_cmpR op_can pe_can pe_can hm) (h T σ H S _ fun F1 O1 H1 v d1 e1 S1 r1 k => k (tkm T e1) σ H1 S1 _ fun F2 O2 H2 u d2 e2 S2 r2 k2 =>
    k2 H2 v u S2.a (r1.mono e2) r2 _ fun b p => ⟨b, rfl, q F2 O2 H2 b (e1.trans e2) S2 p⟩)
theorem tsp_in {a b : Expr} {pos : Pos} {P : Hp → OW → Bool → Prop} (h : EvP X Z a F O ρ fun F1 O1 d1 => EvP X Z b F1 O1 ρ fun F2 O2 d2 => InD X false d1 d2 F2 O2 fun k => P F2 O2 k)
    (hm : behindInMarks .In b = false := by first | exact nomark _ | with_unfolding_all rfl) : TsP X Z (.Compare a [.In] [b] pos) F O ρ P := tsp_inG (neg := false) h hm
theorem tsp_notin {a b : Expr} {pos : Pos} {P : Hp → OW → Bool → Prop} (h : EvP X Z a F O ρ fun F1 O1 d1 => EvP X Z b F1 O1 ρ fun F2 O2 d2 => InD X true d1 d2 F2 O2 fun k => P F2 O2 k)
    (hm : behindInMarks .NotIn b = false := by first | exact nomark _ | with_unfolding_all rfl) : TsP X Z (.Compare a [.NotIn] [b] pos) F O ρ P := tsp_inG (neg := true) h hm
theorem evp_inG {neg : Bool} {a b : Expr} {pos : Pos} {P : Hp → OW → D → Prop} (h : EvP X Z a F O ρ fun F1 O1 d1 => EvP X Z b F1 O1 ρ fun F2 O2 d2 => InD X neg d1 d2 F2 O2 fun k => P F2 O2 (.bl k))
    (hm : behindInMarks (opIn neg) b = false) : EvP X Z (.Compare a [opIn neg] [b] pos) F O ρ P :=
  .mk fun T σ H S Q q => canE_of (pe_cmpR op_can pe_can pe_can hm) (h T σ H S _ fun F1 O1 H1 v d1 e1 S1 r1 k => k (tkm T e1) σ H1 S1 _ fun F2 O2 H2 u d2 e2 S2 r2 k2 =>
    k2 H2 v u S2.a (r1.mono e2) r2 _ fun b p => q F2 O2 H2 (.bl b) _ (e1.trans e2) S2 (.bl b) p)
theorem evp_in {a b : Expr} {pos : Pos} {P : Hp → OW → D → Prop} (h : EvP X Z a F O ρ fun F1 O1 d1 => EvP X Z b F1 O1 ρ fun F2 O2 d2 => InD X false d1 d2 F2 O2 fun k => P F2 O2 (.bl k))
    (hm : behindInMarks .In b = false := by first | exact nomark _ | with_unfolding_all rfl) : EvP X Z (.Compare a [.In] [b] pos) F O ρ P := evp_inG (neg := false) h hm
theorem evp_notin {a b : Expr} {pos : Pos} {P : Hp → OW → D → Prop} (h : EvP X Z a F O ρ fun F1 O1 d1 => EvP X Z b F1 O1 ρ fun F2 O2 d2 => InD X true d1 d2 F2 O2 fun k => P F2 O2 (.bl k))
    (hm : behindInMarks .NotIn b = false := by first | exact nomark _ | with_unfolding_all rfl) : EvP X Z (.Compare a [.NotIn] [b] pos) F O ρ P := evp_inG (neg := true) h hm
theorem ind_dic {neg : Bool} {j : Nat} {p : Addr} {kvs : List (Key × D)} {i : Int} {k : Nat} {P : Bool → Prop} (hr : Room k X.A) (hj : O[j]? = some (p, .dic kvs)) (h : P (if neg then !(dgetK kvs (.inl i)).isSome else (dgetK kvs (.inl i)).isSome)) : InD X neg (.int i) (.raw (.ref p)) F O P :=
  InD.of (op_dinK (Nat.lt_of_le_of_lt (by omega) hr.units) neg) fun H v u S hv hu Q q => by
    cases hv
    cases hu
    obtain ⟨_, ws, hH, hp⟩ := S.own _ (List.mem_of_getElem? hj)
    refine ⟨p, valV ws (.inl i), rfl, DGet.k (k := .inl i) hH, ?_⟩
    rcases pairK_get (.inl i) hp with ⟨e1, e2⟩ | ⟨v, d, e1, e2, _⟩
    · rw [e1]
      rw [e2] at h
      exact q _ h
    · rw [e1]
      rw [e2] at h
      exact q _ h
theorem ixd_dic {j : Nat} {p : Addr} {kvs : List (Key × D)} {i : Int} {d : D} {k : Nat} {P : D → Prop} (hr : Room k X.A) (hj : O[j]? = some (p, .dic kvs)) (hd : dgetK kvs (.inl i) = some d) (h : P d) : IxD X (.raw (.ref p)) (.int i) F O P :=
  IxD.of (ix_dicK (Nat.lt_of_le_of_lt (by omega) hr.units)) fun H v u S hv hu Q q => by
    cases hv
    cases hu
    obtain ⟨_, ws, hH, hp⟩ := S.own _ (List.mem_of_getElem? hj)
    rcases pairK_get (.inl i) hp with ⟨e1, e2⟩ | ⟨v, d', e1, e2, r⟩
    · rw [e2] at hd; cases hd
    · rw [e2] at hd
      cases hd
      refine ⟨p, v, rfl, ?_, q v d r h⟩
      rw [← e1]
      exact DGet.k (k := .inl i) hH
theorem evp_dicO {pos : Pos} {P : Hp → OW → D → Prop} (h : ∀ p : Addr, P F ((p, .dic []) :: O) (.raw (.ref p))) : EvP X Z (.Dict [] [] pos) F O ρ P :=
  .mk fun T σ H S Q q => canE_of pe_dnewK fun p hp => q F _ _ _ _ (Same.refl _) ⟨S.a.push (e := .dic []) hp ⟨[], upd_same, .nil⟩, S.sig⟩ (.raw _) (h p)
end
section
variable {X : Cx} {Z : ZP} {F : Hp} {O : OW} {ρ : Rho}
theorem ind_none {neg : Bool} {j : Nat} {p : Addr} {kvs : List (Key × D)} {i : Int} {k : Nat} {P : Bool → Prop} (hr : Room k X.A) (hj : O[j]? = some (p, .dic kvs)) (hd : dgetK kvs (.inl i) = none) (h : P neg) : InD X neg (.int i) (.raw (.ref p)) F O P :=
  ind_dic hr hj (by rw [hd]; cases neg <;> exact h)
theorem ind_some {neg : Bool} {j : Nat} {p : Addr} {kvs : List (Key × D)} {i : Int} {d : D} {k : Nat} {P : Bool → Prop} (hr : Room k X.A) (hj : O[j]? = some (p, .dic kvs)) (hd : dgetK kvs (.inl i) = some d) (h : P (!neg)) : InD X neg (.int i) (.raw (.ref p)) F O P :=
  ind_dic hr hj (by rw [hd]; cases neg <;> exact h)
theorem pset_or {t t' : TSet} (h : PSet X t) (h' : PSet X t') : PSet X (fun o i v H Q => t o i v H Q ∨ t' o i v H Q) := by
  intro pins s σ H o i v ov iv u Q I ro ri rv q
  rcases q with q | q
  · exact h pins s σ H o i v ov iv u Q I ro ri rv q
  · exact h' pins s σ H o i v ov iv u Q I ro ri rv q
/-- o[i] = e, o a list or a dict of our own (the j-th) -/
theorem wp_setS {o i e : Expr} {p' pos : Pos} {N : Post} {kk : Nat} (hr : Room kk X.A)
    (h : EvP X Z e F O ρ fun F1 O1 d => EvP X Z o F1 O1 ρ fun F2 O2 x => EvP X Z i F2 O2 ρ fun F3 O3 y => (∃ (j : Nat) (p : Addr) (xs : List D) (k : Int) (n : Nat), x = .raw (.ref p) ∧ y = .int k ∧ O3[j]? = some (p, .lst xs) ∧ ixN xs.length k = some n ∧ N.nx F3 (O3.set j (p, .lst (xs.set n d))) ρ) ∨
      (∃ (j : Nat) (p : Addr) (kvs : List (Key × D)) (k : Int), x = .raw (.ref p) ∧ y = .int k ∧ O3[j]? = some (p, .dic kvs) ∧ kvs.length < sizeLine ∧ N.nx F3 (O3.set j (p, .dic (dputK kvs (.inl k) d))) ρ))
    (ha : ∀ v, assign (.Subscript o i p') X.env v = (do let ov ← holding [v] (eval o X.env); let iv ← holding [v, ov] (eval i X.env); standAt p'; holding [v, ov, iv] (setItem ov iv v); release [v, ov, iv] []) := by intro _; rfl)
    (hs : swapsWithSole [.Subscript o i p'] e pos.line X.env = pure false := by rfl) (hw : swappedStores [.Subscript o i p'] e X.env = pure none := by rfl) (h1 : (assignEach [.Subscript o i p'] X.env).map (·.2) = [assign (.Subscript o i p') X.env] := by rfl) :
    Wp1 X Z (.Assign [.Subscript o i p'] e pos) F O ρ N :=
  .mk fun T σ H S D E => canS_of (ps_asg pe_can (pg_sub pe_can pe_can (pset_or set_list (set_dict (Nat.lt_of_le_of_lt (by omega) hr.units))) ha) hs hw h1)
    (h T σ H S _ fun F1 O1 H1 v d e1 S1 r1 k1 => k1 (tkm T e1) σ H1 S1 _ fun F2 O2 H2 u x e2 S2 r2 k2 => k2 (tkm T (e1.trans e2)) σ H2 S2 _ fun F3 O3 H3 t y e3 S3 r3 k3 => by
      have r1' := r1.mono (e2.trans e3)
      rcases k3 with ⟨j, p, xs, k, n, ex, ey, hj, hn, nx⟩ | ⟨j, p, kvs, k, ex, ey, hj, hn, nx⟩
      · subst ex ey
        cases r3
        cases r2
        obtain ⟨hF, vs, hH, hr⟩ := S3.a.own _ (List.mem_of_getElem? hj)
        refine .inl ⟨p, vs, k, n, rfl, rfl, hH, by rw [hr.length]; exact hn, ?_⟩
        exact E.nx F3 _ ρ σ _ ((e1.trans e2).trans e3) ⟨S3.a.set (e' := .lst (xs.set n d)) hj ⟨_, upd_same, hr.set r1' n⟩, S3.sig⟩ nx
      · subst ex ey
        cases r3
        cases r2
        obtain ⟨hF, ws, hH, hp⟩ := S3.a.own _ (List.mem_of_getElem? hj)
        refine .inr ⟨p, _, rfl, DPut.k (k := .inl k) hH (by rw [pairK_length hp]; exact hn), ?_⟩
        exact E.nx F3 _ ρ σ _ ((e1.trans e2).trans e3) ⟨S3.a.set (e' := .dic (dputK kvs (.inl k) d)) hj ⟨_, upd_same, pairK_put r1' hp⟩, S3.sig⟩ nx)
end
/-! ### in, of plain data -/
section
variable {X : Cx} {F : Hp} {O : OW} {k : Nat} {P : Bool → Prop}
theorem ind_lst {neg : Bool} {x : D} {xs : List D} (hr : Room k X.A) (hx : okD 9 x = true) (hxs : okD 9 (.lst xs) = true) (h : P (if neg then !(xs.any fun z => deq z x) else xs.any fun z => deq z x)) : InD X neg x (.lst xs) F O P := by
  have ey : ∀ ys : List D, (toPys ys).any (fun z => PyData.eqv z (toPy x)) = ys.any fun z => deq z x := by
    intro ys
    induction ys with
    | nil => rfl
    | cons y ys ih => simp only [toPys, List.any_cons, ih]; rfl
  cases neg
  · refine InD.of (op_inD (by have := hr.un; omega)) fun H v u S hv hu Q q => ?_
    refine ⟨_, _, dp_of S.ex 9 hx hv, dp_of S.ex 9 hxs hu, shaped_of hx, shaped_of hxs, ?_⟩
    rw [ey]
    exact q _ h
  · refine InD.of (op_notInD (by have := hr.un; omega)) fun H v u S hv hu Q q => ?_
    refine ⟨_, _, dp_of S.ex 9 hx hv, dp_of S.ex 9 hxs hu, shaped_of hx, shaped_of hxs, ?_⟩
    rw [ey]
    exact q _ h
end
section
variable {X : Cx} {F : Hp} {O : OW} {ts : List Int} {x : Int} {P : D → Prop} {j : Nat} {p : Addr}
theorem ixd_ownI (hj : O[j]? = some (p, .lst (ts.map .int))) (h0 : 0 ≤ x) (h1 : x < (ts.length : Int)) (h : P (.int (ts.getD x.toNat 0))) : IxD X (.raw (.ref p)) (.int x) F O P := ixd_own hj (getD_at h0 h1) h
end
end CR
/-! Rounds, plainly. -/
namespace CR
open PySem PySem.Spec PyProof.Rows L2
theorem pigeon : ∀ (n : Nat) (f : Nat → Nat), (∀ i, i ≤ n → f i < n) → ∃ i j, i < j ∧ j ≤ n ∧ f i = f j
  | 0, f, h => absurd (h 0 (Nat.le_refl 0)) (Nat.not_lt_zero _)
  | n + 1, f, h => by
    by_cases hx : ∃ i, i ≤ n ∧ f i = f (n + 1)
    · obtain ⟨i, h1, h2⟩ := hx
      exact ⟨i, n + 1, by omega, Nat.le_refl _, h2⟩
    · have hx : ∀ i, i ≤ n → f i ≠ f (n + 1) := fun i hi e => hx ⟨i, hi, e⟩
      obtain ⟨i, j, hij, hj, e⟩ := pigeon n (fun i => if f i = n then f (n + 1) else f i) fun i hi => by
        have h1 := h i (by omega)
        have h2 := h (n + 1) (Nat.le_refl _)
        have h3 := hx i hi
        show (if f i = n then f (n + 1) else f i) < n
        split <;> omega
      refine ⟨i, j, hij, by omega, ?_⟩
      have e : (if f i = n then f (n + 1) else f i) = (if f j = n then f (n + 1) else f j) := e
      have h1 := hx i (by omega)
      have h2 := hx j hj
      split at e <;> split at e <;> omega
theorem two_odd {l y : Int} (h : l % 2 = 1) (d : l ∣ 2 * y) : l ∣ y := by
  obtain ⟨c, hc⟩ := d
  have h2 : c % 2 = 0 := by
    have e : l * c % 2 = 0 := by rw [← hc]; omega
    rw [Int.mul_emod, h] at e
    omega
  obtain ⟨k, hk⟩ : ∃ k, c = 2 * k := ⟨c / 2, by omega⟩
  refine ⟨k, ?_⟩
  rw [hk, ← Int.mul_assoc, Int.mul_comm l 2, Int.mul_assoc] at hc
  omega
theorem pow_odd {l : Int} (h : l % 2 = 1) : ∀ (i : Nat) {y : Int}, l ∣ 2 ^ i * y → l ∣ y
  | 0, y, d => by rwa [Int.pow_zero, Int.one_mul] at d
  | i + 1, y, d => by
    rw [Int.pow_succ, Int.mul_comm (2 ^ i) 2, Int.mul_assoc] at d
    exact pow_odd h i (two_odd h d)
theorem mod_eq_dvd {a b l : Int} (h : a % l = b % l) : l ∣ a - b := Int.dvd_of_emod_eq_zero (by rw [Int.sub_emod, h, Int.sub_self]; rfl)
theorem dvd_mod_eq {a b l : Int} (h : l ∣ a - b) : a % l = b % l := by
  obtain ⟨c, hc⟩ := h
  have e : a = b + l * c := by omega
  rw [e, Int.add_mul_emod_self_left]
theorem ord_ex {l : Int} (h1 : 1 ≤ l) (h2 : l % 2 = 1) : ∃ k, k < l.toNat ∧ (2 : Int) ^ (k + 1) % l = 1 % l := by
  have hl : 0 < l := by omega
  obtain ⟨i, j, hij, hj, e⟩ := pigeon l.toNat (fun i => ((2 : Int) ^ i % l).toNat) fun i _ => by
    have a := Int.emod_nonneg ((2 : Int) ^ i) (Int.ne_of_gt hl)
    have b := Int.emod_lt_of_pos ((2 : Int) ^ i) hl
    show ((2 : Int) ^ i % l).toNat < l.toNat
    omega
  have a := Int.emod_nonneg ((2 : Int) ^ i) (Int.ne_of_gt hl)
  have b := Int.emod_nonneg ((2 : Int) ^ j) (Int.ne_of_gt hl)
  have e : ((2 : Int) ^ i % l).toNat = ((2 : Int) ^ j % l).toNat := e
  have e2 : (2 : Int) ^ j % l = 2 ^ i % l := by omega
  obtain ⟨k, rfl⟩ : ∃ k, j = i + (k + 1) := ⟨j - i - 1, by omega⟩
  refine ⟨k, by omega, ?_⟩
  have d := mod_eq_dvd e2
  rw [Int.pow_add] at d
  have d2 : l ∣ 2 ^ i * (2 ^ (k + 1) - 1) := by
    rw [Int.mul_sub, Int.mul_one]
    exact d
  exact dvd_mod_eq (pow_odd h2 i d2)
/-- the length of the rounds -/
def ordM (l : Int) : Nat := ((List.range l.toNat).find? fun k => decide ((2 : Int) ^ (k + 1) % l = 1 % l)).getD 0 + 1
structure OrdOk (l : Int) (n : Nat) : Prop where
  pos : 1 ≤ n
  le : (n : Int) ≤ l
  one : (2 : Int) ^ n % l = 1 % l
  min : ∀ j, 0 < j → j < n → (2 : Int) ^ j % l ≠ 1 % l
theorem ord_ok {l : Int} (h1 : 1 ≤ l) (h2 : l % 2 = 1) : OrdOk l (ordM l) := by
  unfold ordM
  cases q : (List.range l.toNat).find? fun k => decide ((2 : Int) ^ (k + 1) % l = 1 % l) with
  | none =>
    rw [List.find?_range_eq_none] at q
    obtain ⟨k, hk, e⟩ := ord_ex h1 h2
    have := q k hk
    simp [e] at this
  | some k =>
    rw [List.find?_range_eq_some] at q
    obtain ⟨q1, q2, q3⟩ := q
    have q2 : k < l.toNat := by simpa using q2
    show OrdOk l (k + 1)
    refine ⟨by omega, by omega, by simpa using q1, fun j h0 hj => ?_⟩
    have := q3 (j - 1) (by omega)
    have e : j - 1 + 1 = j := by omega
    rw [e] at this
    simpa using this
/-- how many bits are ahead of the rounds -/
def aheadM (t l : Int) : Nat := ((List.range 1002).find? fun n => decide (-l ≤ topM n t l ∧ topM n t l ≤ 0)).getD 0
theorem ahead_eq {t l : Int} {n : Nat} (h : n ≤ 1001) (h1 : -l ≤ topM n t l) (h2 : topM n t l ≤ 0) (h3 : ∀ j, j < n → ¬ (-l ≤ topM j t l ∧ topM j t l ≤ 0)) : aheadM t l = n := by
  unfold aheadM
  have q : (List.range 1002).find? (fun n => decide (-l ≤ topM n t l ∧ topM n t l ≤ 0)) = some n := by
    rw [List.find?_range_eq_some]
    refine ⟨by simpa using ⟨h1, h2⟩, by simpa using by omega, fun j hj => ?_⟩
    have := h3 j hj
    rw [decide_eq_false this]
    rfl
  rw [q]
  rfl
/-- the first round -/
def rndM (t l : Int) : List Int := bitsM (ordM l) (topM (aheadM t l) t l) l
theorem rndM_length (t l : Int) : (rndM t l).length = ordM l := bitsM_length _ _ _
def isShort (d : D) : Bool := match d with
  | .tup [_, .int b] => decide (b ≤ 10000)
  | _ => false
/-- an odd number in a range -/
def oddIn (lo hi : Int) (d : D) : Bool := isFrom d lo hi && match d with
  | .int i => decide (i % 2 = 1)
  | _ => false
theorem oddIn_mk {lo hi l : Int} (h1 : lo ≤ l) (h2 : l ≤ hi) (h3 : l % 2 = 1) : oddIn lo hi (.int l) = true := by simp [oddIn, isFrom, h1, h2, h3]
theorem oddIn_odd {lo hi l : Int} (h : oddIn lo hi (.int l) = true) : l % 2 = 1 := by simp [oddIn] at h; exact h.2
theorem oddIn_int {lo hi : Int} {d : D} (h : oddIn lo hi d = true) : ∃ i, d = .int i ∧ lo ≤ i ∧ i ≤ hi ∧ i % 2 = 1 := by
  unfold oddIn at h
  rw [Bool.and_eq_true] at h
  obtain ⟨i, rfl, a, b⟩ := isFrom_int h.1
  exact ⟨i, rfl, a, b, by simpa using h.2⟩
/-! into the low -/
theorem ahead_pos {t l B : Int} {k : Nat} (hl : 1 ≤ l) (h : 0 < t → t * 2 ^ k ≤ B) (hp : 0 < nxt t l) : 0 < t ∧ nxt t l * 2 ^ (k + 1) ≤ B := by
  have p : (0 : Int) < 2 ^ k := Int.pow_pos (by decide)
  have h2 : nxt t l * 2 ≤ t := by
    unfold nxt
    rcases Int.emod_two_eq t with q | q
    · rw [q]; omega
    · rw [q]; omega
  have h3 : 0 < t := by omega
  refine ⟨h3, Int.le_trans ?_ (h h3)⟩
  rw [Int.pow_succ, Int.mul_comm (2 ^ k) 2, ← Int.mul_assoc]
  exact Int.mul_le_mul_of_nonneg_right h2 (Int.le_of_lt p)
theorem ahead_neg {t l B : Int} {k : Nat} (hl : 1 ≤ l) (ho : l % 2 = 1) (h : t < -l → (-t - l) * 2 ^ k ≤ B) (hp : nxt t l < -l) : t < -l ∧ (-(nxt t l) - l) * 2 ^ (k + 1) ≤ B := by
  have p : (0 : Int) < 2 ^ k := Int.pow_pos (by decide)
  have h2 : (-(nxt t l) - l) * 2 ≤ -t - l := by
    unfold nxt
    rcases Int.emod_two_eq t with q | q
    · rw [q]; omega
    · rw [q]; omega
  have h3 : t < -l := by omega
  refine ⟨h3, Int.le_trans ?_ (h h3)⟩
  rw [Int.pow_succ, Int.mul_comm (2 ^ k) 2, ← Int.mul_assoc]
  exact Int.mul_le_mul_of_nonneg_right h2 (Int.le_of_lt p)
theorem ahead_k {x B : Int} {k : Nat} (h : x * 2 ^ k ≤ B) (hx : 1 ≤ x) (hB : B < 2 ^ 1000) : k < 1000 := by
  rcases Nat.lt_or_ge k 1000 with q | q
  · exact q
  · have h1 := pow_le2 q
    have p : (0 : Int) < 2 ^ k := Int.pow_pos (by decide)
    have h2 : 1 * 2 ^ k ≤ x * 2 ^ k := Int.mul_le_mul_of_nonneg_right hx (Int.le_of_lt p)
    omega
theorem ahead_m {t l : Int} (hl : 1 ≤ l) (ho : l % 2 = 1) (hn : ¬ (-l ≤ t ∧ t ≤ 0)) (hn2 : ¬ (-l ≤ nxt t l ∧ nxt t l ≤ 0)) : (nxt t l).natAbs < t.natAbs := by
  unfold nxt at *
  rcases Int.emod_two_eq t with q | q
  · rw [q] at hn2 ⊢; omega
  · rw [q] at hn2 ⊢; omega
def aheadMs (t l : Int) : Nat := if -l ≤ t ∧ t ≤ 0 then 0 else t.natAbs + 1
theorem ahead_ms {t l : Int} (hl : 1 ≤ l) (ho : l % 2 = 1) (hn : ¬ (-l ≤ t ∧ t ≤ 0)) : aheadMs (nxt t l) l < aheadMs t l := by
  unfold aheadMs
  rw [if_neg hn]
  split
  · omega
  · rename_i h2
    have := ahead_m hl ho hn h2
    omega
theorem nxt_low {l : Int} (h2 : l % 2 = 1) : nxt (-l) l = -l := by
  unfold nxt
  have q : (-l) % 2 = 1 := by omega
  rw [q]
  omega
theorem topM_low {l : Int} (h2 : l % 2 = 1) : ∀ k, topM k (-l) l = -l
  | 0 => rfl
  | k + 1 => by rw [topM, nxt_low h2, topM_low h2 k]
theorem nxt_in {s l : Int} (h1 : 1 ≤ l) (h2 : l % 2 = 1) (a : -l < s) (b : s ≤ 0) : nxt s l = -((-s) * ((l + 1) / 2) % l) ∧ -l < nxt s l ∧ nxt s l ≤ 0 := by
  have hh : (l + 1) / 2 * 2 = l + 1 := by omega
  rcases Int.emod_two_eq s with q | q
  · obtain ⟨r, hr⟩ : ∃ r, s = -(2 * r) := ⟨-s / 2, by omega⟩
    have e1 : nxt s l = -r := by unfold nxt; rw [q]; omega
    have e2 : (-s) * ((l + 1) / 2) = r + r * l := by
      rw [hr, Int.neg_neg, Int.mul_comm 2 r, Int.mul_assoc, Int.mul_comm 2, hh, Int.mul_add, Int.mul_one]
      omega
    have e3 : (-s) * ((l + 1) / 2) % l = r := by
      rw [e2, Int.add_mul_emod_self_right]
      exact Int.emod_eq_of_lt (by omega) (by omega)
    rw [e3, e1]
    omega
  · obtain ⟨r, hr⟩ : ∃ r, s = -(2 * r + 1) := ⟨(-s - 1) / 2, by omega⟩
    have e1 : nxt s l = -(r + (l + 1) / 2) := by unfold nxt; rw [q]; omega
    have e2 : (-s) * ((l + 1) / 2) = (r + (l + 1) / 2) + r * l := by
      rw [hr, Int.neg_neg, Int.add_mul, Int.mul_comm 2 r, Int.mul_assoc, Int.mul_comm 2, hh, Int.mul_add, Int.mul_one, Int.one_mul]
      omega
    have e3 : (-s) * ((l + 1) / 2) % l = r + (l + 1) / 2 := by
      rw [e2, Int.add_mul_emod_self_right]
      exact Int.emod_eq_of_lt (by omega) (by omega)
    rw [e3, e1]
    omega
structure AheadOk (t l : Int) (n : Nat) : Prop where
  le : n ≤ 1001
  lo : -l ≤ topM n t l
  hi : topM n t l ≤ 0
  min : ∀ j, j < n → ¬ (-l ≤ topM j t l ∧ topM j t l ≤ 0)
theorem ahead_hp {t l : Int} (h1 : 1 ≤ l) (h2 : l % 2 = 1) : ∀ n, (0 < topM n t l → topM n t l * 2 ^ n ≤ (t.natAbs : Int)) ∧ (topM n t l < -l → (-(topM n t l) - l) * 2 ^ n ≤ (t.natAbs : Int))
  | 0 => ⟨fun h => by simp only [topM] at *; omega, fun h => by simp only [topM] at *; omega⟩
  | n + 1 => by
    obtain ⟨a, b⟩ := ahead_hp h1 h2 n
    rw [topM_snoc]
    exact ⟨fun h => (ahead_pos h1 a h).2, fun h => (ahead_neg h1 h2 b h).2⟩
theorem ahead_ok {t l : Int} (h1 : 1 ≤ l) (h2 : l % 2 = 1) (ht : t.natAbs < 2 ^ 1000) : AheadOk t l (aheadM t l) := by
  have hB : (t.natAbs : Int) < 2 ^ 1000 := by
    have e : ((2 ^ 1000 : Nat) : Int) = (2 : Int) ^ 1000 := by simp
    rw [← e]
    omega
  obtain ⟨a, b⟩ := ahead_hp (t := t) h1 h2 1000
  have hin : -l ≤ topM 1000 t l ∧ topM 1000 t l ≤ 0 := by
    constructor
    · rcases Int.lt_or_le (topM 1000 t l) (-l) with q | q
      · exact absurd (ahead_k (b q) (by omega) hB) (Nat.lt_irrefl _)
      · exact q
    · rcases Int.lt_or_le 0 (topM 1000 t l) with q | q
      · exact absurd (ahead_k (a q) (by omega) hB) (Nat.lt_irrefl _)
      · exact q
  unfold aheadM
  cases q : (List.range 1002).find? fun n => decide (-l ≤ topM n t l ∧ topM n t l ≤ 0) with
  | none =>
    rw [List.find?_range_eq_none] at q
    have := q 1000 (by decide)
    rw [decide_eq_true hin] at this
    cases this
  | some n =>
    rw [List.find?_range_eq_some] at q
    obtain ⟨q1, q2, q3⟩ := q
    have q2 : n < 1002 := by simpa using q2
    have q1 := of_decide_eq_true q1
    refine ⟨by show n ≤ 1001; omega, q1.1, q1.2, fun j hj => ?_⟩
    have := q3 j hj
    intro hh
    rw [decide_eq_true hh] at this
    cases this
theorem nxt_stay {s l : Int} (h1 : 1 ≤ l) (h2 : l % 2 = 1) (a : -l ≤ s) (b : s ≤ 0) : -l ≤ nxt s l ∧ nxt s l ≤ 0 := by
  rcases Int.lt_or_le (-l) s with h | h
  · obtain ⟨_, x, y⟩ := nxt_in h1 h2 h b
    exact ⟨by omega, y⟩
  · have e : s = -l := by omega
    rw [e, nxt_low h2]
    omega
theorem topM_stay {l : Int} (h1 : 1 ≤ l) (h2 : l % 2 = 1) : ∀ (n : Nat) {s : Int}, -l ≤ s → s ≤ 0 → -l ≤ topM n s l ∧ topM n s l ≤ 0
  | 0, _, a, b => ⟨a, b⟩
  | n + 1, _, a, b => by
    obtain ⟨x, y⟩ := nxt_stay h1 h2 a b
    exact topM_stay h1 h2 n x y
theorem topM_stay' {l : Int} (h1 : 1 ≤ l) (h2 : l % 2 = 1) : ∀ (n : Nat) {s : Int}, -l < s → s ≤ 0 → -l < topM n s l ∧ topM n s l ≤ 0
  | 0, _, a, b => ⟨a, b⟩
  | n + 1, _, a, b => by
    obtain ⟨_, x, y⟩ := nxt_in h1 h2 a b
    exact topM_stay' h1 h2 n x y
/-- what is behind n bits, times 2 to the power of n, is what was ahead but for a multiple of l -/
theorem topM_cong {l : Int} (h2 : l % 2 = 1) (n : Nat) (t : Int) : l ∣ t - 2 ^ n * topM n t l := by
  have e := val_bits h2 n t
  refine ⟨valM (bitsM n t l), ?_⟩
  rw [Int.mul_comm l]
  omega
theorem cong_eq {l a b : Int} (a1 : -l < a) (a2 : a ≤ 0) (b1 : -l < b) (b2 : b ≤ 0) (h : l ∣ a - b) : a = b := by
  obtain ⟨c, hc⟩ := h
  have hc0 : c = 0 := by
    rcases Int.lt_trichotomy c 0 with q | q | q
    · have : l * c ≤ l * (-1) := Int.mul_le_mul_of_nonneg_left (by omega) (by omega)
      omega
    · exact q
    · have : l * 1 ≤ l * c := Int.mul_le_mul_of_nonneg_left (by omega) (by omega)
      omega
  rw [hc0, Int.mul_zero] at hc
  omega
theorem topM_per {l s : Int} (h1 : 1 ≤ l) (h2 : l % 2 = 1) (a : -l ≤ s) (b : s ≤ 0) {n : Nat} (hn : (2 : Int) ^ n % l = 1 % l) : topM n s l = s := by
  rcases Int.lt_or_le (-l) s with h | h
  · obtain ⟨x, y⟩ := topM_stay' h1 h2 n h b
    refine (cong_eq h b x y ?_).symm
    have c := topM_cong h2 n s
    have d : l ∣ (2 ^ n - 1) * topM n s l := Int.dvd_mul_of_dvd_left (mod_eq_dvd hn)
    have e : s - topM n s l = (s - 2 ^ n * topM n s l) + (2 ^ n - 1) * topM n s l := by
      rw [Int.sub_mul, Int.one_mul]
      omega
    rw [e]
    exact Int.dvd_add c d
  · have e : s = -l := by omega
    rw [e, topM_low h2]
theorem topM_round {l s : Int} (h1 : 1 ≤ l) (h2 : l % 2 = 1) (a : -l ≤ s) (b : s ≤ 0) : ∀ q n : Nat, topM (ordM l * q + n) s l = topM n s l
  | 0, n => by rw [Nat.mul_zero, Nat.zero_add]
  | q + 1, n => by
    rw [show ordM l * (q + 1) + n = ordM l + (ordM l * q + n) by rw [Nat.mul_succ]; omega, topM_add, topM_per h1 h2 a b (ord_ok h1 h2).one]
    exact topM_round h1 h2 a b q n
/-- a place far off is a place in the first round -/
theorem topM_far {t l : Int} (h1 : 1 ≤ l) (h2 : l % 2 = 1) {h : Nat} (ok : AheadOk t l h) {k : Nat} (hk : h ≤ k) : topM k t l = topM (h + (k - h) % ordM l) t l := by
  have e : k = h + (ordM l * ((k - h) / ordM l) + (k - h) % ordM l) := by
    have := Nat.div_add_mod (k - h) (ordM l)
    omega
  conv => lhs; rw [e]
  rw [topM_add, topM_round h1 h2 ok.lo ok.hi, ← topM_add]
theorem cop_dvd {l x s : Int} (d : l ∣ x * s) (g : Int.gcd s l = 1) : l ∣ x := by
  rw [← Int.natAbs_dvd_natAbs, Int.natAbs_mul] at d
  rw [← Int.natAbs_dvd_natAbs]
  refine Nat.Coprime.dvd_of_dvd_mul_right ?_ d
  rw [Nat.Coprime, Nat.gcd_comm]
  exact g
theorem gcd_pow {l s : Int} (h2 : l % 2 = 1) {n : Nat} {t : Int} (hg : Int.gcd t l = 1) (hc : l ∣ t - 2 ^ n * s) : Int.gcd s l = 1 := by
  have g1 : (Int.gcd s l : Int) ∣ s := Int.gcd_dvd_left s l
  have g2 : (Int.gcd s l : Int) ∣ l := Int.gcd_dvd_right s l
  have g3 : (Int.gcd s l : Int) ∣ t := by
    have e : t = (t - 2 ^ n * s) + 2 ^ n * s := by omega
    rw [e]
    exact Int.dvd_add (Int.dvd_trans g2 hc) (Int.dvd_mul_of_dvd_right g1)
  have g4 : (Int.gcd s l : Int) ∣ (Int.gcd t l : Int) := Int.dvd_coe_gcd g3 g2
  rw [hg] at g4
  have := Int.natAbs_dvd_natAbs.mpr g4
  simpa using this
theorem ord_min {l : Int} (h1 : 1 ≤ l) (h2 : l % 2 = 1) {n : Nat} (hn : 0 < n) (h : (2 : Int) ^ n % l = 1 % l) : ordM l ≤ n := by
  rcases Nat.lt_or_ge n (ordM l) with q | q
  · exact absurd h ((ord_ok h1 h2).min n hn q)
  · exact q
/-- outside nothing comes again -/
theorem out_far {l : Int} (h1 : 1 ≤ l) (h2 : l % 2 = 1) : ∀ (n : Nat) {s : Int}, ¬ (-l ≤ s ∧ s ≤ 0) → (-l ≤ topM (n + 1) s l ∧ topM (n + 1) s l ≤ 0) ∨ (topM (n + 1) s l).natAbs < s.natAbs
  | 0, s, h => by
    by_cases q : -l ≤ nxt s l ∧ nxt s l ≤ 0
    · exact .inl q
    · exact .inr (ahead_m h1 h2 h q)
  | n + 1, s, h => by
    rcases out_far h1 h2 n h with q | q
    · left
      rw [topM_snoc]
      exact nxt_stay h1 h2 q.1 q.2
    · rw [topM_snoc]
      by_cases q2 : -l ≤ topM (n + 1) s l ∧ topM (n + 1) s l ≤ 0
      · exact .inl (nxt_stay h1 h2 q2.1 q2.2)
      · by_cases q3 : -l ≤ nxt (topM (n + 1) s l) l ∧ nxt (topM (n + 1) s l) l ≤ 0
        · exact .inl q3
        · have := ahead_m h1 h2 q2 q3
          exact .inr (by omega)
/-- the same again: only in the round, and only a whole round further on -/
theorem again {t l : Int} (h1 : 1 ≤ l) (h2 : l % 2 = 1) (hg : Int.gcd t l = 1) {h : Nat} (ok : AheadOk t l h) {i j : Nat} (hij : i < j) (e : topM i t l = topM j t l) : h ≤ i ∧ i + ordM l ≤ j := by
  obtain ⟨m, rfl⟩ : ∃ m, j = i + (m + 1) := ⟨j - i - 1, by omega⟩
  have e2 : topM (m + 1) (topM i t l) l = topM i t l := by rw [← topM_add]; exact e.symm
  have hin : -l ≤ topM i t l ∧ topM i t l ≤ 0 := by
    by_cases q : -l ≤ topM i t l ∧ topM i t l ≤ 0
    · exact q
    · rcases out_far h1 h2 m q with x | x
      · rw [e2] at x
        exact x
      · rw [e2] at x
        exact absurd x (Nat.lt_irrefl _)
  have hh : h ≤ i := by
    rcases Nat.lt_or_ge i h with q | q
    · exact absurd hin (ok.min i q)
    · exact q
  refine ⟨hh, ?_⟩
  have gs := gcd_pow h2 hg (topM_cong h2 i t)
  have c := topM_cong h2 (m + 1) (topM i t l)
  rw [e2] at c
  have d : l ∣ (2 ^ (m + 1) - 1) * topM i t l := by
    have e3 : (2 ^ (m + 1) - 1) * topM i t l = -(topM i t l - 2 ^ (m + 1) * topM i t l) := by
      rw [Int.sub_mul, Int.one_mul]
      omega
    rw [e3]
    exact Int.dvd_neg.mpr c
  have d2 : l ∣ 2 ^ (m + 1) - 1 := by
    exact cop_dvd d gs
  have := ord_min h1 h2 (Nat.succ_pos m) (dvd_mod_eq d2)
  omega
/-! going round -/
def stM (t l : Int) (n : Nat) : List Int := (List.range n).map fun i => topM i t l
def dicM (t l : Int) (n : Nat) : List (Key × D) := (List.range n).map fun i => (Sum.inl (topM i t l), D.int (i : Int))
theorem stM_length (t l : Int) (n : Nat) : (stM t l n).length = n := by simp [stM]
theorem dicM_length (t l : Int) (n : Nat) : (dicM t l n).length = n := by simp [dicM]
theorem stM_snoc (t l : Int) (n : Nat) : stM t l (n + 1) = stM t l n ++ [topM n t l] := by simp [stM, List.range_succ]
theorem stM_get {t l : Int} {n i : Nat} (h : i < n) : (stM t l n)[i]? = some (topM i t l) := by
  unfold stM
  rw [List.getElem?_map, List.getElem?_range h]
  rfl
theorem dic_get_none {t l : Int} {n : Nat} {x : Int} (h : ∀ i, i < n → topM i t l ≠ x) : dgetK (dicM t l n) (.inl x) = none := by
  unfold dgetK dicM
  rw [Option.map_eq_none_iff, List.find?_eq_none]
  intro kv hm
  obtain ⟨i, hi, rfl⟩ := List.mem_map.mp hm
  have hi : i < n := by simpa using hi
  simp only [decide_eq_true_eq]
  intro e
  exact h i hi (Sum.inl.inj e)
theorem dic_get_some {t l : Int} : ∀ {n : Nat} {x : Int} {i : Nat}, i < n → topM i t l = x → (∀ j, j < i → topM j t l ≠ x) → dgetK (dicM t l n) (.inl x) = some (.int (i : Int)) := by
  intro n x i hi e hn
  unfold dgetK dicM
  rw [List.find?_map]
  have q : (List.range n).find? ((fun kv : Key × D => decide (kv.1 = Sum.inl x)) ∘ fun i => (Sum.inl (topM i t l), D.int (i : Int))) = some i := by
    rw [List.find?_range_eq_some]
    refine ⟨by simp [e], by simpa using hi, fun j hj => ?_⟩
    have := hn j hj
    simp only [Function.comp, Bool.not_eq_true', decide_eq_false_iff_not]
    intro e2
    exact this (Sum.inl.inj e2)
  rw [q]
  rfl
theorem dic_put {t l : Int} {n : Nat} (h : ∀ i, i < n → topM i t l ≠ topM n t l) : dputK (dicM t l n) (.inl (topM n t l)) (.int (n : Int)) = dicM t l (n + 1) := by
  have q : ((dicM t l n).any fun kv => decide (kv.1 = Sum.inl (topM n t l))) = false := by
    rw [List.any_eq_false]
    intro kv hm
    unfold dicM at hm
    obtain ⟨i, hi, rfl⟩ := List.mem_map.mp hm
    have hi : i < n := by simpa using hi
    simp only [decide_eq_true_eq]
    intro e
    exact h i hi (Sum.inl.inj e)
  unfold dputK
  rw [if_neg (by rw [q]; decide)]
  unfold dicM
  rw [List.range_succ, List.map_append]
  rfl
/-- a row in lowest terms -/
structure RowFr (t l : Int) : Prop where
  h1 : 1 ≤ l
  h2 : l % 2 = 1
  hg : Int.gcd t l = 1
  ht : t.natAbs < 2 ^ 1000
def lenM (t l : Int) : Nat := aheadM t l + ordM l
section
variable {t l : Int} (R : RowFr t l)
include R
theorem RowFr.ahead : AheadOk t l (aheadM t l) := ahead_ok R.h1 R.h2 R.ht
theorem RowFr.ord : OrdOk l (ordM l) := ord_ok R.h1 R.h2
theorem RowFr.new {n : Nat} (hn : n < lenM t l) {i : Nat} (hi : i < n) : topM i t l ≠ topM n t l := fun e => by
  have := again R.h1 R.h2 R.hg R.ahead hi e
  unfold lenM at hn
  omega
theorem RowFr.back : topM (lenM t l) t l = topM (aheadM t l) t l := by
  unfold lenM
  rw [topM_add, topM_per R.h1 R.h2 R.ahead.lo R.ahead.hi R.ord.one]
theorem RowFr.get {n : Nat} (hn : n ≤ lenM t l) : dgetK (dicM t l n) (.inl (topM n t l)) = if n = lenM t l then some (.int (aheadM t l : Int)) else none := by
  by_cases e : n = lenM t l
  · rw [if_pos e, e]
    have hp := R.ord.pos
    refine dic_get_some (by unfold lenM; omega) R.back.symm fun j hj q => ?_
    rw [R.back] at q
    have := again R.h1 R.h2 R.hg R.ahead hj q
    omega
  · rw [if_neg e]
    exact dic_get_none fun i hi => R.new (by omega) hi
theorem RowFr.put {n : Nat} (hn : n < lenM t l) : dputK (dicM t l n) (.inl (topM n t l)) (.int (n : Int)) = dicM t l (n + 1) := dic_put fun i hi => R.new hn hi
theorem RowFr.len : lenM t l ≤ 1001 + l.toNat := by
  have := R.ahead.le
  have := R.ord.le
  unfold lenM
  omega
end
theorem FrOk.row {m a b : Int} (h : FrOk m a b) : RowFr a b := ⟨h.b1, h.b3, h.g, Nat.lt_trans (m := 2 ^ 101) (by have := h.a1; have := h.a2; omega) (Nat.pow_lt_pow_right (by decide) (by decide))⟩
/-- pairs of numbers as data -/
def prD (p : Int × Int) : D := .tup [.int p.1, .int p.2]
theorem okD_prs (n : Nat) (ps : List (Int × Int)) : (ps.map prD).all (okD (n + 1)) = true := by
  rw [List.all_eq_true]
  intro d hd
  obtain ⟨p, _, rfl⟩ := List.mem_map.mp hd
  simp only [prD, okD, List.all_cons, List.all_nil]
  cases n <;> rfl
/-- an element by its number -/
def onIntD (g : Nat → D) (d : D) : D := match d with
  | .int i => g i.toNat
  | _ => .non
theorem rng_mapD (n : Nat) (g : Nat → D) : (rngD 0 n).map (onIntD g) = (List.range n).map g := by
  unfold rngD
  rw [List.map_map]
  congr 1
  funext k
  show g (0 + (k : Int)).toNat = g k
  congr 1
  omega
theorem nxt_fold (n : Nat) (t l : Int) : (topM n t l - topM n t l % 2 * l) / 2 = topM (n + 1) t l := by
  rw [topM_snoc]
  rfl
theorem stM_fold (n : Nat) (t l : Int) : (stM t l n).map D.int ++ [.int (topM n t l)] = (stM t l (n + 1)).map .int := by
  rw [stM_snoc, List.map_append]
  rfl
end CR
/-! sum of a tuple, max and min of lists, o[i] += e. -/
namespace CR
open PySem PySem.Spec PyProof.Rows L2
section
variable {X : Cx}
theorem cr_sumT (hc : X.calm = true) : CallR X (.builtin "sum") (fun vs H Q => ∃ (a : Addr) (ns : List Int), vs = [V.ref a] ∧ SqT X.K H a (ns.map V.int) ∧ Q (.int ns.sum) H) := by
  intro pins s σ H vs us Q I r h
  obtain ⟨a, ns, rfl, hs, q⟩ := h
  obtain ⟨its, rv, hl, _⟩ := I.tuple hs
  rw [Vals.ref1 r]
  have hi := rv.ints
  obtain ⟨xs, e⟩ := hi.allInts.items
  have hn : numsOf (intItems xs).toList = ns := by rw [← e]; exact hi.numsOf
  rw [nums_intItems] at hn
  rw [e] at hl
  have hal : a < s.heap.objs.size := by obtain ⟨_, e, _⟩ := hl; exact Heap.lt_size e
  refine call_sum_walkG (wpAny_pyIter_tuple hl ⟨s.heap.objs.size, _, _, _, _, _, numAt xs, rfl, Walks.tuple (A := X.A.in1) (I.ok.hd hc) s.heap.objs.size a (Nat.ne_of_lt hal) (intItems xs), ⟨⟨_, Heap.get?_push_size _ rfl, rfl, rfl⟩, ?_⟩, fun b hb => ?_, (fun _ _ => intItems_at), fun h' tk t' hk => ?_⟩)
  · exact (show s.heap.IsTuple a (intItems xs) from hl).at fun o e => Heap.get?_push_of_some _ e
  · show b < (s.heap.push _).objs.size
    rw [Heap.size_push]
    rcases List.mem_cons.mp hb with rfl | hb
    · exact Nat.lt_succ_self _
    · rcases List.mem_cons.mp hb with rfl | hb
      · exact Nat.lt_succ_of_lt hal
      · cases hb
  · have ez : (intItems xs).size = xs.size := by simp [intItems]
    have es : preSum (numAt xs) (intItems xs).size = ns.sum := by rw [ez, preSum_eq, List.take_of_length_le (by simp), hn]
    refine ⟨.int ns.sum, H, I.kept (t' := tk) fun b o e => ?_, ⟨t', by rw [es]⟩, q⟩
    refine hk b o (fun hm => ?_) (Heap.get?_push_of_some _ e)
    have eb : b = s.heap.objs.size := by simpa using hm
    rw [eb] at e
    exact absurd (Heap.lt_size e) (Nat.lt_irrefl _)
end
section
variable {X : Cx} {Z : ZP} {F : Hp} {O : OW} {ρ : Rho}
theorem calld_sumT {ns : List Int} {P : Hp → D → Prop} (hc : X.calm = true) (h : P F (.int ns.sum)) : CallD X (.builtin "sum") [.tup (ns.map .int)] F O P := CallD.of (cr_sumT hc) fun H vs S hv Q q => by
  obtain ⟨v, rfl, r⟩ := isAll1 hv
  cases r with
  | tup ha hr => exact ⟨_, ns, rfl, by rw [← hr.ints]; exact sqT_mono S.ex ha, q F H _ _ (Same.refl _) S (.int _) h⟩
theorem calld_maxL {ns : List Int} {P : Hp → D → Prop} (hc : X.calm = true) (hn : 0 < ns.length) (h : ∀ m, m ∈ ns → (∀ y ∈ ns, y ≤ m) → P F (.int m)) : CallD X (.builtin "max") [.lst (ns.map .int)] F O P := CallD.of (cr_max hc) fun H vs S hv Q q => by
  obtain ⟨v, rfl, r⟩ := isAll1 hv
  cases r with
  | lst ha hr => exact ⟨_, ns, rfl, by rw [← hr.ints]; exact .inl (.inl (S.ex _ _ ha)), hn, fun m h1 h2 => q F H _ _ (Same.refl _) S (.int _) (h m h1 h2)⟩
theorem calld_minL {ns : List Int} {P : Hp → D → Prop} (hc : X.calm = true) (hn : 0 < ns.length) (h : ∀ m, m ∈ ns → (∀ y ∈ ns, m ≤ y) → P F (.int m)) : CallD X (.builtin "min") [.lst (ns.map .int)] F O P := CallD.of (cr_min hc) fun H vs S hv Q q => by
  obtain ⟨v, rfl, r⟩ := isAll1 hv
  cases r with
  | lst ha hr => exact ⟨_, ns, rfl, by rw [← hr.ints]; exact .inl (.inl (S.ex _ _ ha)), hn, fun m h1 h2 => q F H _ _ (Same.refl _) S (.int _) (h m h1 h2)⟩
end
end CR
/-! Methods of built-in things. -/
namespace CR
open PySem PySem.Spec PyProof.Rows L2
theorem mt_countD {X : Cx} (hu : X.A.units + 65 < cLine) : MtR X "list.count" (fun x xs H Q => ∃ (a : Addr) (y : V) (d : PyData) (ds : List PyData), x = V.ref a ∧ xs = [y] ∧ Dp X.K H (V.ref a) (.list ds) ∧ Dp X.K H y d ∧
    SeqAt.shaped (.list ds) = true ∧ SeqAt.shaped d = true ∧ Q (.int (ds.countP fun z => PyData.eqv z d : Nat)) H) := by
  intro pins s σ H x xs v us Q I rx rxs h
  obtain ⟨a, y, d, ds, rfl, rfl, hl, hy, sl, sd, q⟩ := h
  cases rx
  cases rxs with
  | cons ry rt =>
    rename_i uy ut
    cases rt
    obtain ⟨bs, r1⟩ := Dp.reads I d y uy hy ry
    have hxs : PyData.canLayAll0 ds = true := SeqAt.canLay_of_shaped sl
    have hroom : X.A.units + 1 + min (PyData.depthAll ds) d.depth < cLine := room_in_shaped sd hu
    cases hl with
    | lst hs ha =>
      obtain ⟨its, rv, ⟨⟨cls, dd, data, sls⟩, n, ho, hc, hdn, hdt⟩, hlen⟩ := I.list hs
      simp only at hc hdt
      subst hc hdt
      obtain ⟨as, h4⟩ := Dp.readsAll I ds _ its ha rv
      have hmap : its.map (SeqAt.readOf s.heap) = ds := SeqAt.readsAll_map ds its as hxs h4
      refine call_meets PySem.F.slot_list_count ⟨_, ho, rfl⟩ PySem.F.entry_list_count (PySem.F.args_list_count_2 _ _)
        (SeqAt.list_countAt a its.toArray n dd sls uy (fun u => PyData.eqv (SeqAt.readOf s.heap u) d)) ⟨ho, SeqAt.items_eqAt (vs := its.toArray) (show ReadsAll s.heap its.toArray.toList ds as from h4) r1 hxs (SeqAt.canLay_of_shaped sd) hroom, ?_⟩
      have e : its.toArray.toList.countP (fun u => PyData.eqv (SeqAt.readOf s.heap u) d) = ds.countP fun z => PyData.eqv z d := by
        rw [← hmap, List.countP_map]
        rfl
      rw [e]
      exact ⟨.int _, H, I.tok _, ⟨_, rfl⟩, q⟩
/-! ### at the level of data -/
abbrev mtCan (X : Cx) (id : String) : V → List V → Hp → VK → Prop := fun x xs H Q => ∀ (pins : List (Addr × Obj)) (s : Shared) (σ : L2.St) (v : Value) (us : List Value), Inv X pins σ H s → RelV x v → Vals xs us →
  wpAny (model X.prog X.w) X.A (call (.builtin id) (v :: us)) (EP X pins σ Q) X.xe s
theorem mt_can {X : Cx} {id : String} : MtR X id (mtCan X id) := fun pins s σ _ _ _ v us _ I rx r h => h pins s σ v us I rx r
/-- a value of a built-in type: ready for a method -/
inductive TyD : OW → String → D → Prop
  | str {O : OW} (s : Str) : TyD O "str" (.str s)
  | lst {O : OW} (xs : List D) : TyD O "list" (.lst xs)
  | own {O : OW} {j : Nat} {p : Addr} {xs : List D} : O[j]? = some (p, .lst xs) → TyD O "list" (.raw (.ref p))
theorem TyD.is {K : PySem.W.Frag} {F H : Hp} {O : OW} {T : String} {v : V} {d : D} (t : TyD O T d) (S : StA K F O H) (r : Is K F v d) : tyV K T v H := by
  cases t with
  | str s => cases r; rfl
  | lst xs =>
    cases r with
    | lst ha hr => exact .inl ⟨rfl, _, .inl (.inl (S.ex _ _ ha))⟩
  | own hj =>
    cases r
    obtain ⟨_, ws, hH, _⟩ := S.own _ (List.mem_of_getElem? hj)
    exact .inl ⟨rfl, ws, .inl (.inl hH)⟩
def MtD (X : Cx) (id : String) (x : D) (ds : List D) (F : Hp) (O : OW) (P : Hp → OW → D → Prop) : Prop :=
  ∀ (H : Hp) (v : V) (vs : List V), StA X.K F O H → Is X.K F v x → IsAll X.K F vs ds → ∀ Q : VK, (∀ F2 O2 H2 w d, Same F F2 → StA X.K F2 O2 H2 → Is X.K F2 w d → P F2 O2 d → Q w H2) → mtCan X id v vs H Q
theorem MtD.of {X : Cx} {id : String} {x : D} {ds : List D} {F : Hp} {O : OW} {P : Hp → OW → D → Prop} {r : V → List V → Hp → VK → Prop} (ho : MtR X id r)
    (h : ∀ (H : Hp) (v : V) (vs : List V), StA X.K F O H → Is X.K F v x → IsAll X.K F vs ds → ∀ Q : VK, (∀ F2 O2 H2 w d, Same F F2 → StA X.K F2 O2 H2 → Is X.K F2 w d → P F2 O2 d → Q w H2) → r v vs H Q) : MtD X id x ds F O P :=
  fun H v vs S hv hvs Q q pins s σ v' us I rv rvs => ho pins s σ H v vs v' us Q I rv rvs (h H v vs S hv hvs Q q)
section
variable {X : Cx} {Z : ZP} {F : Hp} {O : OW} {ρ : Rho}
theorem evp_meth {T name : Str} {TT id : String} {o e : Expr} {es : List Expr} {ap cp : Pos} {P : Hp → OW → D → Prop} (pa : PlainAttrs TT) (slot : Slot TT name id) (hty : typeOf (.builtin id) = pure (.type "method_descriptor"))
    (h : EvP X Z o F O ρ fun F1 O1 x => TyD O1 TT x ∧ ArP X Z (e :: es) F1 O1 ρ fun F2 O2 ds => MtD X id x ds F2 O2 P)
    (hbase : attributeBase o name X.env (eval o X.env) = eval o X.env := by rfl)
    (hfew : ((backTo cp (starEach (e :: es) X.env)).all (fun x => !x.1) && (backToKw cp (keywordEach [] X.env)).all (fun x => x.1.isSome) && decide ((e :: es).length + ([] : List Keyword).length + (if ([] : List Keyword).isEmpty then 0 else 1) < 30)) = true := by rfl)
    (hline : (ap.endLine == cp.line) = true := by rfl) (hs : starEach (e :: es) X.env = (false, eval e X.env) :: starEach es X.env := by rfl) (hplain : (backTo cp (starEach es X.env)).any (·.1) = false := by rfl) :
    EvP X Z (.Call (.Attribute o name ap) (e :: es) [] cp) F O ρ P :=
  .mk fun Tk σ H S Q q => canE_of (pe_bm pa slot hty mt_can pe_can pa_can hbase hfew hline hs hplain) (h Tk σ H S _ fun F1 O1 H1 v x e1 S1 r1 ⟨t, k⟩ => ⟨t.is S1.a r1,
    k (tkm Tk e1) σ H1 S1 _ fun F2 O2 H2 vs ds e2 S2 r2 m => m H2 v vs S2.a (r1.mono e2) r2 Q fun F3 O3 H3 w d e3 S3 r3 p => q F3 O3 H3 w d ((e1.trans e2).trans e3) ⟨S3, S2.sig.mono e3⟩ r3 p⟩)
theorem evp_meth0 {name : Str} {TT id : String} {o : Expr} {ap cp : Pos} {P : Hp → OW → D → Prop} (pa : PlainAttrs TT) (slot : Slot TT name id) (hty : typeOf (.builtin id) = pure (.type "method_descriptor"))
    (h : EvP X Z o F O ρ fun F1 O1 x => TyD O1 TT x ∧ MtD X id x [] F1 O1 P)
    (hbase : attributeBase o name X.env (eval o X.env) = eval o X.env := by rfl) (hline : (ap.endLine == cp.line) = true := by rfl) : EvP X Z (.Call (.Attribute o name ap) [] [] cp) F O ρ P :=
  .mk fun Tk σ H S Q q => canE_of (pe_bm0 pa slot hty mt_can pe_can hbase hline) (h Tk σ H S _ fun F1 O1 H1 v x e1 S1 r1 ⟨t, m⟩ => ⟨t.is S1.a r1,
    m H1 v [] S1.a r1 .nil Q fun F3 O3 H3 w d e3 S3 r3 p => q F3 O3 H3 w d (e1.trans e3) ⟨S3, S1.sig.mono e3⟩ r3 p⟩)
theorem toPys_count (x : D) : ∀ xs : List D, (toPys xs).countP (fun z => PyData.eqv z (toPy x)) = xs.countP fun z => deq z x
  | [] => rfl
  | y :: ys => by
    rw [toPys, List.countP_cons, List.countP_cons, toPys_count x ys]
    rfl
theorem toPys_get : ∀ (xs : List D) (i : Nat), (toPys xs)[i]? = (xs[i]?).map toPy
  | [], _ => rfl
  | x :: xs, 0 => rfl
  | x :: xs, i + 1 => by rw [toPys, List.getElem?_cons_succ, List.getElem?_cons_succ, toPys_get xs i]
/-- xs.count(x) -/
theorem mtd_count {xs : List D} {x : D} {k : Nat} {P : Hp → OW → D → Prop} (hr : Room k X.A) (hxs : okD 9 (.lst xs) = true) (hx : okD 9 x = true) (h : P F O (.int (xs.countP fun z => deq z x : Nat))) : MtD X "list.count" (.lst xs) [x] F O P :=
  MtD.of (mt_countD (by have := hr.un; omega)) fun H v vs S hv hvs Q q => by
    obtain ⟨u, rfl, r⟩ := isAll1 hvs
    have hD := dp_of S.ex 9 hxs hv
    cases hv with
    | lst ha hr2 =>
      refine ⟨_, u, toPy x, toPys xs, rfl, rfl, hD, dp_of S.ex 9 hx r, shaped_of hxs, shaped_of hx, ?_⟩
      rw [toPys_count]
      exact q F O H _ _ (Same.refl _) S (.int _) h
/-- xs.index(x): there -/
theorem mtd_index {xs : List D} {x z : D} {j : Nat} {k : Nat} {P : Hp → OW → D → Prop} (hr : Room k X.A) (hxs : okD 9 (.lst xs) = true) (hx : okD 9 x = true) (hz : xs[j]? = some z) (he : deq z x = true) (hno : ∀ m z', m < j → xs[m]? = some z' → deq z' x = false) (h : P F O (.int (j : Int))) :
    MtD X "list.index" (.lst xs) [x] F O P :=
  MtD.of (mt_indexD (by have := hr.un; omega)) fun H v vs S hv hvs Q q => by
    obtain ⟨u, rfl, r⟩ := isAll1 hvs
    have hD := dp_of S.ex 9 hxs hv
    cases hv with
    | lst ha hr2 =>
      refine ⟨_, u, toPy x, toPys xs, j, toPy z, rfl, rfl, hD, dp_of S.ex 9 hx r, shaped_of hxs, shaped_of hx, by rw [toPys_get, hz]; rfl, he, fun m z' hm hz' => ?_, q F O H _ _ (Same.refl _) S (.int _) h⟩
      rw [toPys_get] at hz'
      cases q2 : xs[m]? with
      | none => rw [q2] at hz'; cases hz'
      | some y =>
        rw [q2] at hz'
        cases hz'
        exact hno m y hm q2
theorem evp_count {o e : Expr} {ap cp : Pos} {P : Hp → OW → D → Prop} (h : EvP X Z o F O ρ fun F1 O1 x => TyD O1 "list" x ∧ ArP X Z [e] F1 O1 ρ fun F2 O2 ds => MtD X "list.count" x ds F2 O2 P)
    (hbase : attributeBase o "count" X.env (eval o X.env) = eval o X.env := by rfl)
    (hfew : ((backTo cp (starEach [e] X.env)).all (fun x => !x.1) && (backToKw cp (keywordEach [] X.env)).all (fun x => x.1.isSome) && decide ([e].length + ([] : List Keyword).length + (if ([] : List Keyword).isEmpty then 0 else 1) < 30)) = true := by rfl)
    (hline : (ap.endLine == cp.line) = true := by rfl) (hs : starEach [e] X.env = (false, eval e X.env) :: starEach [] X.env := by rfl) (hplain : (backTo cp (starEach [] X.env)).any (·.1) = false := by rfl) :
    EvP X Z (.Call (.Attribute o "count" ap) [e] [] cp) F O ρ P := evp_meth (T := "count") PySem.F.plainAttrs_list PySem.F.slot_list_count PySem.F.type_list_count h hbase hfew hline hs hplain
theorem evp_index {o e : Expr} {ap cp : Pos} {P : Hp → OW → D → Prop} (h : EvP X Z o F O ρ fun F1 O1 x => TyD O1 "list" x ∧ ArP X Z [e] F1 O1 ρ fun F2 O2 ds => MtD X "list.index" x ds F2 O2 P)
    (hbase : attributeBase o "index" X.env (eval o X.env) = eval o X.env := by rfl)
    (hfew : ((backTo cp (starEach [e] X.env)).all (fun x => !x.1) && (backToKw cp (keywordEach [] X.env)).all (fun x => x.1.isSome) && decide ([e].length + ([] : List Keyword).length + (if ([] : List Keyword).isEmpty then 0 else 1) < 30)) = true := by rfl)
    (hline : (ap.endLine == cp.line) = true := by rfl) (hs : starEach [e] X.env = (false, eval e X.env) :: starEach [] X.env := by rfl) (hplain : (backTo cp (starEach [] X.env)).any (·.1) = false := by rfl) :
    EvP X Z (.Call (.Attribute o "index" ap) [e] [] cp) F O ρ P := evp_meth (T := "index") PySem.F.plainAttrs_list PySem.F.slot_list_index PySem.F.type_list_index h hbase hfew hline hs hplain
end
/-- a statement, then what is known behind it -/
theorem wp_cut {X : Cx} {Z : ZP} {F : Hp} {O : OW} {ρ : Rho} {st : Stmt} {N : Post} (M : Hp → OW → Rho → Prop) (h1 : Wp1 X Z st F O ρ { N with nx := M }) (h2 : ∀ F2 O2 ρ2, Same F F2 → M F2 O2 ρ2 → N.nx F2 O2 ρ2) : Wp1 X Z st F O ρ N :=
  .mk fun T σ H S D E => h1 T σ H S D ⟨fun F2 O2 ρ2 σ2 H2 a b m => E.nx F2 O2 ρ2 σ2 H2 a b (h2 F2 O2 ρ2 a m), E.rt, E.bk, E.ct⟩
end CR
/-! Statements one after another, each looked at by itself. -/
namespace CR
open PySem PySem.Spec PyProof.Rows L2
section
variable {X : Cx} {Z : ZP} {F : Hp} {O : OW} {ρ : Rho} {N : Post}
theorem wps_start {b : List Stmt} (M : Hp → OW → Rho → Prop) (h0 : M F O ρ) (h : ∀ F1 O1 ρ1, Same F F1 → M F1 O1 ρ1 → WpS X Z b F1 O1 ρ1 N) : WpS X Z b F O ρ N := h F O ρ (Same.refl _) h0
theorem wps_seqC {F0 : Hp} {st : Stmt} {rest : List Stmt} {M0 : Hp → OW → Rho → Prop} (M1 : Hp → OW → Rho → Prop)
    (h1 : ∀ F1 O1 ρ1, Same F0 F1 → M0 F1 O1 ρ1 → Wp1 X Z st F1 O1 ρ1 { N with nx := M1 }) (h2 : ∀ F1 O1 ρ1, Same F0 F1 → M1 F1 O1 ρ1 → WpS X Z rest F1 O1 ρ1 N) :
    ∀ F1 O1 ρ1, Same F0 F1 → M0 F1 O1 ρ1 → WpS X Z (st :: rest) F1 O1 ρ1 N := fun F1 O1 ρ1 e1 m =>
  wps_seq M1 (h1 F1 O1 ρ1 e1 m) fun F2 O2 ρ2 e2 m2 => h2 F2 O2 ρ2 (e1.trans e2) m2
/-- the last statement -/
theorem wps_lastC {F0 : Hp} {st : Stmt} {M0 : Hp → OW → Rho → Prop}
    (h1 : ∀ F1 O1 ρ1, Same F0 F1 → M0 F1 O1 ρ1 → Wp1 X Z st F1 O1 ρ1 N) :
    ∀ F1 O1 ρ1, Same F0 F1 → M0 F1 O1 ρ1 → WpS X Z [st] F1 O1 ρ1 N := fun F1 O1 ρ1 e1 m => wps_one (h1 F1 O1 ρ1 e1 m)
end
end CR
/-! Parts of data, and counts of rounds that are laid on one another. -/
namespace CR
open PySem PySem.Spec PyProof.Rows L2
def frA (d : D) : Int := match d with
  | .tup [.int a, _] => a
  | _ => 0
def frB (d : D) : Int := match d with
  | .tup [_, .int b] => b
  | _ => 0
def intD (d : D) : Int := match d with
  | .int i => i
  | _ => 0
def intsD (d : D) : List Int := match d with
  | .tup xs => xs.filterMap fun | .int i => some i | _ => none
  | _ => []
theorem intsD_mk (bs : List Int) : intsD (.tup (bs.map .int)) = bs := by
  show ((bs.map D.int).filterMap fun | .int i => some i | _ => none) = bs
  induction bs with
  | nil => rfl
  | cons b bs ih => rw [List.map_cons, List.filterMap_cons]; simp [ih]
def maxL (ns : List Int) : Int := ns.foldl max (ns.headD 0)
def minL (ns : List Int) : Int := ns.foldl min (ns.headD 0)
theorem foldl_max : ∀ (ns : List Int) (a : Int), (a ≤ ns.foldl max a ∧ ∀ y ∈ ns, y ≤ ns.foldl max a) ∧ (ns.foldl max a = a ∨ ns.foldl max a ∈ ns)
  | [], a => ⟨⟨Int.le_refl _, (by simp)⟩, .inl rfl⟩
  | b :: r, a => by
    obtain ⟨⟨h1, h2⟩, h3⟩ := foldl_max r (max a b)
    refine ⟨⟨by simp only [List.foldl_cons]; omega, fun y hy => ?_⟩, ?_⟩
    · rcases List.mem_cons.mp hy with rfl | hy
      · simp only [List.foldl_cons]; omega
      · exact h2 y hy
    · rcases h3 with h3 | h3
      · simp only [List.foldl_cons]
        rcases Int.le_total a b with q | q
        · right; rw [h3, Int.max_eq_right q]; exact List.mem_cons_self
        · left; rw [h3, Int.max_eq_left q]
      · exact .inr (List.mem_cons_of_mem _ h3)
theorem foldl_min : ∀ (ns : List Int) (a : Int), (ns.foldl min a ≤ a ∧ ∀ y ∈ ns, ns.foldl min a ≤ y) ∧ (ns.foldl min a = a ∨ ns.foldl min a ∈ ns)
  | [], a => ⟨⟨Int.le_refl _, (by simp)⟩, .inl rfl⟩
  | b :: r, a => by
    obtain ⟨⟨h1, h2⟩, h3⟩ := foldl_min r (min a b)
    refine ⟨⟨by simp only [List.foldl_cons]; omega, fun y hy => ?_⟩, ?_⟩
    · rcases List.mem_cons.mp hy with rfl | hy
      · simp only [List.foldl_cons]; omega
      · exact h2 y hy
    · rcases h3 with h3 | h3
      · simp only [List.foldl_cons]
        rcases Int.le_total a b with q | q
        · left; rw [h3, Int.min_eq_left q]
        · right; rw [h3, Int.min_eq_right q]; exact List.mem_cons_self
      · exact .inr (List.mem_cons_of_mem _ h3)
theorem maxL_mem {ns : List Int} (h : 0 < ns.length) : maxL ns ∈ ns := by
  match ns, h with
  | a :: r, _ =>
    rcases (foldl_max (a :: r) a).2 with e | e
    · show List.foldl max a (a :: r) ∈ _
      rw [e]; exact List.mem_cons_self
    · exact e
theorem minL_mem {ns : List Int} (h : 0 < ns.length) : minL ns ∈ ns := by
  match ns, h with
  | a :: r, _ =>
    rcases (foldl_min (a :: r) a).2 with e | e
    · show List.foldl min a (a :: r) ∈ _
      rw [e]; exact List.mem_cons_self
    · exact e
theorem maxL_ge {ns : List Int} {y : Int} (h : y ∈ ns) : y ≤ maxL ns := (foldl_max ns _).1.2 y h
theorem minL_le {ns : List Int} {y : Int} (h : y ∈ ns) : minL ns ≤ y := (foldl_min ns _).1.2 y h
theorem maxL_eq {ns : List Int} {m : Int} (h : m ∈ ns) (h2 : ∀ y ∈ ns, y ≤ m) : maxL ns = m := by
  have a := h2 _ (maxL_mem (List.length_pos_of_mem h))
  have b := maxL_ge h
  omega
theorem minL_eq {ns : List Int} {m : Int} (h : m ∈ ns) (h2 : ∀ y ∈ ns, m ≤ y) : minL ns = m := by
  have a := h2 _ (minL_mem (List.length_pos_of_mem h))
  have b := minL_le h
  omega
section
variable {X : Cx} {F : Hp} {O : OW} {ns : List Int} {P : Hp → D → Prop}
theorem calld_maxI (hc : X.calm = true) (hn : 0 < ns.length) (h : P F (.int (maxL ns))) : CallD X (.builtin "max") [.lst (ns.map .int)] F O P := calld_maxL hc hn fun m h1 h2 => by rw [← maxL_eq h1 h2]; exact h
theorem calld_minI (hc : X.calm = true) (hn : 0 < ns.length) (h : P F (.int (minL ns))) : CallD X (.builtin "min") [.lst (ns.map .int)] F O P := calld_minL hc hn fun m h1 h2 => by rw [← minL_eq h1 h2]; exact h
theorem mtd_indexI {k : Nat} {v : Int} {Q : Hp → OW → D → Prop} (hr : Room k X.A) (hv : v ∈ ns) (h : Q F O (.int (ns.idxOf v : Int))) : MtD X "list.index" (.lst (ns.map .int)) [.int v] F O Q := by
  have hl := List.idxOf_lt_length_of_mem hv
  refine mtd_index (z := .int v) (j := ns.idxOf v) hr (okD_lsts ns) rfl ?_ (by simp [deq_int]) ?_ h
  · rw [List.getElem?_map, List.getElem?_eq_getElem hl]
    simp
  · intro m z' hm hz
    obtain ⟨i, hi, rfl⟩ := dint_at hz
    rw [deq_int]
    refine decide_eq_false fun e => ?_
    subst e
    have hm2 : m < ns.length := by omega
    rw [List.getElem?_eq_getElem hm2] at hi
    have e2 : ns[m] = i := Option.some.inj hi
    have := List.not_of_lt_findIdx (p := fun x => x == i) (xs := ns) (i := m) (by unfold List.idxOf at hm; exact hm)
    simp [e2] at this
end
theorem opd_cat1 {X : Cx} {F : Hp} {xs : List Int} {b : Int} {P : Hp → D → Prop} (hl : xs.length < sizeLine) (h : ∀ F2, Same F F2 → P F2 (.tup ((xs ++ [b]).map .int))) : OpD X (binaryOp .Add) (.tup (xs.map .int)) (.tup [.int b]) F P :=
  opd_catT (by rw [List.length_map]; exact hl) fun F2 e => by
    have := h F2 e
    rw [List.map_append] at this
    exact this
end CR
/-! Upper numbers whose rows begin with told bits. -/
namespace CR
open PySem PySem.Spec PyProof.Rows L2
def restM (l : Int) (bs : List Int) : Int := -l * valM bs % 2 ^ bs.length
def topsM (l : Int) (bs : List Int) : Int := if restM l bs ≤ l then (l - restM l bs) / 2 ^ bs.length + 1 else 0
def kthM (l : Int) (bs : List Int) (k : Int) : Int := -(restM l bs + (topsM l bs - 1 - k) * 2 ^ bs.length)
theorem rest_bd (l : Int) (bs : List Int) : 0 ≤ restM l bs ∧ restM l bs < 2 ^ bs.length := ⟨Int.emod_nonneg _ (Int.ne_of_gt (two_pos _)), Int.emod_lt_of_pos _ (two_pos _)⟩
theorem div_bd {x N : Int} (hN : 0 < N) : x / N * N ≤ x ∧ x < x / N * N + N := by
  have h1 := Int.mul_ediv_add_emod x N
  have h2 := Int.emod_nonneg x (Int.ne_of_gt hN)
  have h3 := Int.emod_lt_of_pos x hN
  rw [Int.mul_comm] at h1
  omega
theorem tops_bd {l : Int} (h : 0 ≤ l) (bs : List Int) : 0 ≤ topsM l bs ∧ topsM l bs ≤ l + 1 := by
  obtain ⟨r0, r1⟩ := rest_bd l bs
  have p := two_pos bs.length
  unfold topsM
  split
  · have h1 : 0 ≤ (l - restM l bs) / 2 ^ bs.length := Int.ediv_nonneg (by omega) (by omega)
    have h2 := Int.ediv_le_self (2 ^ bs.length) (show 0 ≤ l - restM l bs by omega)
    omega
  · omega
/-- which upper numbers begin so -/
theorem top_iff {l t : Int} (hl : l % 2 = 1) {bs : List Int} (hb : ∀ b ∈ bs, b = 0 ∨ b = 1) : bitsM bs.length t l = bs ↔ (2 : Int) ^ bs.length ∣ t + restM l bs := by
  have d1 : (2 : Int) ^ bs.length ∣ restM l bs + valM bs * l := by
    refine ⟨-(-l * valM bs / 2 ^ bs.length), ?_⟩
    have e : restM l bs = -l * valM bs - 2 ^ bs.length * (-l * valM bs / 2 ^ bs.length) := Int.emod_def _ _
    rw [e, Int.mul_neg, Int.neg_mul, Int.mul_comm l]
    omega
  constructor
  · intro h
    have := val_dvd hl bs.length t
    rw [h] at this
    have e : t + restM l bs = (restM l bs + valM bs * l) - (valM bs * l - t) := by omega
    rw [e]
    exact Int.dvd_sub d1 this
  · intro h
    have v := valM_lt bs hb
    have e : valM bs * l - t = (restM l bs + valM bs * l) - (t + restM l bs) := by omega
    refine valM_inj _ _ (bitsM_bit _ _ _) hb (bitsM_length _ _ _) (val_of hl bs.length v.1 v.2 ?_)
    rw [e]
    exact Int.dvd_sub d1 h
theorem kth_ok {l k : Int} (h1 : 1 ≤ l) (hl : l % 2 = 1) {bs : List Int} (hb : ∀ b ∈ bs, b = 0 ∨ b = 1) (k0 : 0 ≤ k) (k1 : k < topsM l bs) : -l ≤ kthM l bs k ∧ kthM l bs k ≤ 0 ∧ bitsM bs.length (kthM l bs k) l = bs := by
  obtain ⟨r0, r1⟩ := rest_bd l bs
  have p := two_pos bs.length
  have hr : restM l bs ≤ l := by
    rcases Int.lt_or_le l (restM l bs) with q | q
    · unfold topsM at k1
      rw [if_neg (by omega)] at k1
      omega
    · exact q
  have e : topsM l bs - 1 = (l - restM l bs) / 2 ^ bs.length := by unfold topsM; rw [if_pos hr]; omega
  have d := div_bd (x := l - restM l bs) p
  rw [← e] at d
  have m := Int.mul_le_mul_of_nonneg_right (show topsM l bs - 1 - k ≤ topsM l bs - 1 by omega) (Int.le_of_lt p)
  have m0 := Int.mul_nonneg (show 0 ≤ topsM l bs - 1 - k by omega) (Int.le_of_lt p)
  refine ⟨?_, ?_, (top_iff hl hb).2 ?_⟩
  · unfold kthM; omega
  · unfold kthM; omega
  · refine ⟨-(topsM l bs - 1 - k), ?_⟩
    unfold kthM
    rw [Int.mul_neg, Int.mul_comm (2 ^ bs.length)]
    omega
abbrev tupI (s : List Int) : D := .tup (s.map .int)
end CR
namespace CR
open PySem PySem.Spec PyProof.Rows L2
/-! Pairs of numbers, their size, and how two of them are made short. -/
def szP (p : Int × Int) : Int := max (p.1.natAbs : Int) (p.2.natAbs : Int)
def lessP (p q : Int × Int) (k : Int) : Int × Int := (p.1 - k * q.1, p.2 - k * q.2)
def ratsP (p q : Int × Int) : List (Int × Int) := [(p.1, q.1), (p.2, q.2), (p.1 - p.2, q.1 - q.2), (p.1 + p.2, q.1 + q.2)]
def candP : List (Int × Int) → List Int
  | [] => []
  | (o, u) :: r => (if u = 0 then [] else [o.fdiv u, o.fdiv u + 1]) ++ candP r
def candsP (p q : Int × Int) : List Int := 0 :: candP (ratsP p q)
def bestP (p q : Int × Int) : Int := ((candsP p q).find? fun k => (candsP p q).all fun j => decide (szP (lessP p q k) ≤ szP (lessP p q j))).getD 0
theorem szP_nonneg (p : Int × Int) : 0 ≤ szP p := by unfold szP; omega
/-- the two short pairs -/
def redM (a b : Int × Int) : (Int × Int) × (Int × Int) :=
  if szP b < szP a then
    if h : szP (lessP a b (bestP a b)) < szP a then redM b (lessP a b (bestP a b)) else (b, a)
  else
    if h : szP (lessP b a (bestP b a)) < szP b then redM a (lessP b a (bestP b a)) else (a, b)
termination_by (szP a + szP b).toNat
decreasing_by
  · have := szP_nonneg b
    have := szP_nonneg (lessP a b (bestP a b))
    omega
  · have := szP_nonneg a
    have := szP_nonneg (lessP b a (bestP b a))
    omega
/-! what is least -/
def shortM (bs : List Int) : (Int × Int) × (Int × Int) := redM (valM bs, 1) (2 ^ bs.length, 0)
def oddF (bs : List Int) : Int × Int := if (shortM bs).1.2 % 2 = 1 then (shortM bs).1 else (shortM bs).2
def oddP (bs : List Int) : Int × Int := if 0 < (oddF bs).2 then oddF bs else (-(oddF bs).1, -(oddF bs).2)
def leastM (bs : List Int) : Int := szP (oddP bs)
end CR
/-! Great negative divisors; lists that are put behind others. -/
namespace CR
open PySem PySem.Spec PyProof.Rows L2
section
variable {X : Cx} {Z : ZP} {F : Hp} {O : OW} {ρ : Rho}
/-- o.extend(e), o a list of our own (the j-th), e plain data -/
theorem wp_extend {o e : Expr} {ap cp pos : Pos} {N : Post}
    (h : EvP X Z o F O ρ fun F1 O1 x => ∃ p, x = .raw (.ref p) ∧ (∃ xs, (p, OE.lst xs) ∈ O1) ∧ EvP X Z e F1 O1 ρ fun F2 O2 d => ∃ (zs : List D) (j : Nat) (xs : List D), d = .lst zs ∧ O2[j]? = some (p, .lst xs) ∧ xs.length + zs.length ≤ sizeLine ∧ N.nx F2 (O2.set j (p, .lst (xs ++ zs))) ρ)
    (hbase : attributeBase o "extend" X.env (eval o X.env) = eval o X.env := by rfl)
    (hfew : ((backTo cp (starEach [e] X.env)).all (fun x => !x.1) && (backToKw cp (keywordEach [] X.env)).all (fun x => x.1.isSome) && decide ([e].length + ([] : List Keyword).length + (if ([] : List Keyword).isEmpty then 0 else 1) < 30)) = true := by rfl)
    (hline : (ap.endLine == cp.line) = true := by rfl) (hs : starEach [e] X.env = (false, eval e X.env) :: starEach [] X.env := by rfl) (hplain : (backTo cp (starEach [] X.env)).any (·.1) = false := by rfl)
    (hsw : swapsWith (.Call (.Attribute o "extend" ap) [e] [] cp) none pos.line X.env = pure false := by rfl) :
    Wp1 X Z (.Expr (.Call (.Attribute o "extend" ap) [e] [] cp) pos) F O ρ N :=
  .mk fun T σ H S D E => canS_of (ps_expr (pe_bm PySem.F.plainAttrs_list PySem.F.slot_list_extend PySem.F.type_list_extend mt_extend pe_can (pa_cons pe_can pa_nil hs) hbase hfew hline hs hplain) hsw)
    (h T σ H S _ fun F1 O1 H1 v x e1 S1 r1 ⟨p, ex, ⟨ys, hm⟩, k1⟩ => by
      subst ex
      cases r1
      obtain ⟨_, ws, hH, _⟩ := S1.a.own _ hm
      refine ⟨.inl ⟨rfl, ws, .inl (.inl hH)⟩, ?_⟩
      refine k1 (tkm T e1) σ H1 S1 _ fun F2 O2 H2 u d e2 S2 r2 ⟨zs, j, xs, ed, hj, hl, nx⟩ => ?_
      subst ed
      obtain ⟨hF, vs, hH2, hr⟩ := S2.a.own _ (List.mem_of_getElem? hj)
      cases r2 with
      | lst ha hz =>
        refine ⟨p, _, vs, _, rfl, rfl, hH2, S2.a.ex _ _ ha, by rw [hr.length, hz.length]; exact hl, ?_⟩
        exact E.nx F2 _ ρ σ _ (e1.trans e2) ⟨S2.a.set (e' := .lst (xs ++ zs)) hj ⟨_, upd_same, hr.append hz⟩, S2.sig⟩ nx)
end
section
variable {X : Cx} {F : Hp} {x : D} {P : Hp → D → Prop}
theorem opd_is0 (h : P F (.bl true)) : OpD X (compareOp .Is) .non .non F P := opd_isN (x := .non) h fun _ q => by cases q
theorem opd_is1 (e : isNonD x = false) (q : ∀ v, x ≠ .raw v) (h : P F (.bl false)) : OpD X (compareOp .Is) x .non F P := opd_isN (by rw [e]; exact h) q
theorem opd_isnt0 (h : P F (.bl false)) : OpD X (compareOp .IsNot) .non .non F P := opd_notN (x := .non) h fun _ q => by cases q
theorem opd_isnt1 (e : isNonD x = false) (q : ∀ v, x ≠ .raw v) (h : P F (.bl true)) : OpD X (compareOp .IsNot) x .non F P := opd_notN (by rw [e]; exact h) q
end
theorem calld_str {X : Cx} {F : Hp} {O : OW} {i : Int} {P : Hp → D → Prop} (hi : i.natAbs.log2 < 1920) (h : P F (.str (toString i))) : CallD X (.type "str") [.int i] F O P := CallD.of call_str_int fun H vs S hv Q q => by
  obtain ⟨v, rfl, r⟩ := isAll1 hv
  cases r
  exact ⟨i, rfl, hi, q F H _ _ (Same.refl _) S (.str _) h⟩
end CR
/-! in, of a tuple's items; dict displays as own objects; dicts with text keys. -/
namespace CR
open PySem PySem.Spec PyProof.Rows L2
section
variable {X : Cx} {F : Hp} {O : OW} {k : Nat} {P : Bool → Prop}
theorem op_inT (neg : Bool) (hu : X.A.units + 65 < cLine) : OpR X (compareOp (opIn neg)) fun x y H Q => ∃ d ds, Dp X.K H x d ∧ Dp X.K H y (.tuple ds) ∧ SeqAt.shaped d = true ∧ SeqAt.shaped (.tuple ds) = true ∧ Q (.bl (if neg then !(ds.any fun z => PyData.eqv z d) else ds.any fun z => PyData.eqv z d)) H := by
  intro pins s σ H x y v u Q I rx ry h
  obtain ⟨d, ds, hd, he, sd, se, q⟩ := h
  obtain ⟨as, r1⟩ := Dp.reads I d x v hd rx
  obtain ⟨bs, r2⟩ := Dp.reads I (.tuple ds) y u he ry
  cases neg
  · exact SeqAt.in_tuple_reads r2 r1 (SeqAt.canLay_of_shaped se) (SeqAt.canLay_of_shaped sd) (room_in_shaped sd hu) ⟨.bl _, H, I, rfl, q⟩
  · exact SeqAt.notIn_tuple_reads r2 r1 (SeqAt.canLay_of_shaped se) (SeqAt.canLay_of_shaped sd) (room_in_shaped sd hu) ⟨.bl _, H, I, rfl, q⟩
theorem ind_tup {neg : Bool} {x : D} {xs : List D} (hr : Room k X.A) (hx : okD 9 x = true) (hxs : okD 9 (.tup xs) = true) (h : P (if neg then !(xs.any fun z => deq z x) else xs.any fun z => deq z x)) : InD X neg x (.tup xs) F O P := by
  have ey : ∀ ys : List D, (toPys ys).any (fun z => PyData.eqv z (toPy x)) = ys.any fun z => deq z x := by
    intro ys
    induction ys with
    | nil => rfl
    | cons y ys ih => simp only [toPys, List.any_cons, ih]; rfl
  refine InD.of (op_inT neg (by have := hr.un; omega)) fun H v u S hv hu Q q => ?_
  refine ⟨_, _, dp_of S.ex 9 hx hv, dp_of S.ex 9 hxs hu, shaped_of hx, shaped_of hxs, ?_⟩
  rw [ey]
  exact q _ h
end
/-! ### dict displays -/
def trsOf (X : Cx) : List Expr → List Expr → List (TE × TE)
  | k :: ks, v :: vs => (canE X k, canE X v) :: trsOf X ks vs
  | _, _ => []
theorem pps_can {X : Cx} {pos : Pos} : ∀ {ks vs : List Expr}, ks.length = vs.length → PPs X pos (ks.map some) vs (trsOf X ks vs)
  | [], [], _ => pps_nil
  | [], _ :: _, h => by cases h
  | _ :: _, [], h => by cases h
  | k :: ks, v :: vs, h => pps_cons pe_can pe_can (pps_can (by simpa using h))
structure DsP (X : Cx) (Z : ZP) (ks vs : List Expr) (F : Hp) (O : OW) (ρ : Rho) (P : Hp → OW → List (Key × D) → Prop) : Prop where
  run : Takes X (wz X.K F Z) → ∀ σ H, Sta X.K F O ρ σ H → ∀ Q : List (V × V) → Hp → Prop, (∀ F2 O2 H2 kvs kds, Same F F2 → Sta X.K F2 O2 ρ σ H2 → PairK X.K F2 kvs kds → P F2 O2 kds → Q (kvs.map fun kv => (kV kv.1, kv.2)) H2) → tPairs (trsOf X ks vs) σ H Q
section
variable {X : Cx} {Z : ZP} {F : Hp} {O : OW} {ρ : Rho}
theorem dsp_nil {P : Hp → OW → List (Key × D) → Prop} (h : P F O []) : DsP X Z [] [] F O ρ P := ⟨fun _ σ H S Q q => q F O H [] [] (Same.refl _) S .nil h⟩
theorem dsp_str {z : Str} {j : Nat} {pos : Pos} {v : Expr} {ks vs : List Expr} {P : Hp → OW → List (Key × D) → Prop} (h : EvP X Z v F O ρ fun F1 O1 d => DsP X Z ks vs F1 O1 ρ fun F2 O2 kds => P F2 O2 ((.inr z, d) :: kds)) : DsP X Z (.Constant (.str z) j pos :: ks) (v :: vs) F O ρ P :=
  ⟨fun T σ H S Q q => (show EvP X Z (.Constant (.str z) j pos) F O ρ (fun F1 O1 d => F1 = F1 ∧ d = .str z ∧ EvP X Z v F1 O1 ρ fun F1 O1 d => DsP X Z ks vs F1 O1 ρ fun F2 O2 kds => P F2 O2 ((.inr z, d) :: kds)) from evp_str ⟨rfl, rfl, h⟩) T σ H S _ fun F1 O1 H1 u d e1 S1 r1 ⟨_, ed, k⟩ => by
    subst ed
    cases r1
    exact k (tkm T e1) σ H1 S1 _ fun F2 O2 H2 t y e2 S2 r2 k2 => k2.run (tkm T (e1.trans e2)) σ H2 S2 _ fun F3 O3 H3 kvs kds e3 S3 r3 p => q F3 O3 H3 ((.inr z, t) :: kvs) ((.inr z, y) :: kds) ((e1.trans e2).trans e3) S3 (.cons ⟨rfl, r2.mono e3⟩ r3) p⟩
def mergeD (kvs more : List (Key × D)) : List (Key × D) := more.foldl (fun acc kv => dputK acc kv.1 kv.2) kvs
theorem pairK_merge {K : PySem.W.Frag} {F : Hp} : ∀ {more : List (Key × V)} {more' : List (Key × D)} {kvs : List (Key × V)} {kvs' : List (Key × D)}, PairK K F more more' → PairK K F kvs kvs' → PairK K F (mergeK kvs more) (mergeD kvs' more')
  | [], _, _, _, .nil, h => h
  | (k, v) :: r, (k', d) :: r', kvs, kvs', .cons ⟨e, i⟩ t, h => by
    have e' : k = k' := e
    subst e'
    exact pairK_merge (more := r) (more' := r') t (pairK_put i h)
/-- {k: v, ..}: a dict of our own -/
theorem evp_disp {ks vs : List Expr} {kk : List (Option Expr)} {pos : Pos} {P : Hp → OW → D → Prop} (hk : kk = ks.map some)
    (h : ∀ p : Addr, DsP X Z ks vs F ((p, .dic []) :: O) ρ fun F1 O1 kds => kds.length ≤ 15 ∧ ∃ O2, O1 = (p, .dic []) :: O2 ∧ P F1 ((p, .dic (mergeD [] kds)) :: O2) (.raw (.ref p)))
    (hl : ks.length = vs.length := by rfl) (h0 : ks ≠ [] := by intro q; cases q) (h15 : ks.length ≤ 15 := by decide) : EvP X Z (.Dict kk vs pos) F O ρ P := by
  subst hk
  refine .mk fun T σ H S Q q => canE_of (pe_disp (pps_can hl) (by simp) (by simpa using hl) (by simpa using h0) (by simpa using h15)) fun p hp => ?_
  have S0 : Sta X.K F ((p, .dic []) :: O) ρ σ (upd H p (.dK [])) := ⟨S.a.push (e := .dic []) hp ⟨[], upd_same, .nil⟩, S.sig⟩
  refine (h p).run T σ _ S0 _ fun F2 O2 H2 kvs kds e2 S2 r2 ⟨k1, O3, eO, k2⟩ => ?_
  subst eO
  obtain ⟨_, ws, hH, hr⟩ := S2.a.own _ List.mem_cons_self
  cases hr
  refine ⟨hH, kvs, rfl, by rw [pairK_length r2]; exact k1, ?_⟩
  exact q F2 _ _ _ _ e2 ⟨S2.a.set (j := 0) (e' := .dic (mergeD [] kds)) rfl ⟨_, upd_same, pairK_merge r2 .nil⟩, S2.sig⟩ (.raw _) k2
end
section
variable {X : Cx} {F : Hp} {O : OW}
/-- o[z] of a dict of our own, z a text -/
theorem ixd_dicS {j : Nat} {p : Addr} {kvs : List (Key × D)} {z : Str} {d : D} {k : Nat} {P : D → Prop} (hr : Room k X.A) (hj : O[j]? = some (p, .dic kvs)) (hd : dgetK kvs (.inr z) = some d) (h : P d) : IxD X (.raw (.ref p)) (.str z) F O P :=
  IxD.of (ix_dicK (Nat.lt_of_le_of_lt (by omega) hr.units)) fun H v u S hv hu Q q => by
    cases hv
    cases hu
    obtain ⟨_, ws, hH, hp⟩ := S.own _ (List.mem_of_getElem? hj)
    rcases pairK_get (.inr z) hp with ⟨e1, e2⟩ | ⟨v, d', e1, e2, r⟩
    · rw [e2] at hd; cases hd
    · rw [e2] at hd
      cases hd
      refine ⟨p, v, rfl, ?_, q v d r h⟩
      rw [← e1]
      exact DGet.k (k := .inr z) hH
end
/-! ### texts compared -/
theorem deq_str (a b : Str) : deq (.str a) (.str b) = decide (a = b) := by
  simp only [deq, toPy, PyData.eqv]
  by_cases h : a = b
  · subst h; simp
  · simp [h]
section
variable {X : Cx} {F : Hp} {k : Nat} {P : Hp → D → Prop}
theorem opd_eqS {a b : Str} (hr : Room k X.A) (ha : okD 9 (.str a) = true) (hb : okD 9 (.str b) = true) (h : P F (.bl (decide (a = b)))) : OpD X (compareOp .Eq) (.str a) (.str b) F P := opd_eq hr ha hb (by rw [deq_str]; exact h)
theorem opd_neS {a b : Str} (hr : Room k X.A) (ha : okD 9 (.str a) = true) (hb : okD 9 (.str b) = true) (h : P F (.bl (!decide (a = b)))) : OpD X (compareOp .NotEq) (.str a) (.str b) F P := opd_ne hr ha hb (by rw [deq_str]; exact h)
end
end CR
/-! Rows made of some bits and a round. -/
namespace CR
open PySem PySem.Spec PyProof.Rows L2
def segM (w : Nat → Int) (n k : Nat) : List Int := (List.range k).map fun i => w (n + i)
theorem segM_length (w : Nat → Int) (n k : Nat) : (segM w n k).length = k := by simp [segM]
theorem bits_seg {t l : Int} {w : Nat → Int} (h : ∀ n, topM n t l % 2 = w n) (N : Nat) : bitsM N t l = segM w 0 N := by
  refine List.ext_getElem? fun i => ?_
  by_cases q : i < N
  · rw [bitsM_get N i t l q, h]
    unfold segM
    rw [List.getElem?_map, List.getElem?_range q, Option.map_some, Nat.zero_add]
  · rw [List.getElem?_eq_none (by rw [bitsM_length]; omega), List.getElem?_eq_none (by rw [segM_length]; omega)]
end CR
/-! Later rules: three names at once where one of them is a cell. -/
namespace CR
open PySem PySem.Spec PyProof.Rows L2
theorem isAll3 {K : PySem.W.Frag} {F : Hp} {vs : List V} {x y z : D} (h : IsAll K F vs [x, y, z]) : ∃ v u t, vs = [v, u, t] ∧ Is K F v x ∧ Is K F u y ∧ Is K F t z := by
  cases h with
  | cons r q =>
    obtain ⟨u, t, rfl, r2, r3⟩ := isAll2 q
    exact ⟨_, u, t, rfl, r, r2, r3⟩
/-- int(a bool) -/
theorem calld_intB {X : Cx} {F : Hp} {O : OW} {P : Hp → D → Prop} {b : Bool} (h : P F (.int (if b then 1 else 0))) : CallD X (.type "int") [.bl b] F O P := CallD.of call_int1 fun H vs S hv Q q => by
  obtain ⟨v, rfl, r⟩ := isAll1 hv
  cases r
  exact .inr ⟨b, rfl, q F H _ _ (Same.refl _) S (.int _) h⟩
section
variable {X : Cx} {Z : ZP} {F : Hp} {O : OW} {ρ : Rho}
/-- x, y, z = a tuple of three -/
theorem wp_unp3 {i j l : Nat} {x y z : Str} {e : Expr} {px py pz pt pos : Pos} {kt : Nat} {N : Post} (h : EvP X Z e F O ρ fun F1 O1 d => ∃ a b c, d = .tup [a, b, c] ∧ N.nx F1 O1 (((ρ.set i (some a)).set j (some b)).set l (some c))) (hc : X.calm = true) (hN : X.N.Nodup)
    (hi : X.N[i]? = some x := by rfl) (hj : X.N[j]? = some y := by rfl) (hl : X.N[l]? = some z := by rfl) (hx : Loc X.env.scope x := by first | exact Or.inl rfl | exact Or.inr rfl) (hy : Loc X.env.scope y := by first | exact Or.inl rfl | exact Or.inr rfl) (hz : Loc X.env.scope z := by first | exact Or.inl rfl | exact Or.inr rfl)
    (hf : X.fn x = true ∨ X.env.scope.names.lookup x = some .local := by first | exact .inl rfl | exact .inr rfl | assumption) (hf2 : X.fn y = true ∨ X.env.scope.names.lookup y = some .local := by first | exact .inl rfl | exact .inr rfl | assumption) (hf3 : X.fn z = true ∨ X.env.scope.names.lookup z = some .local := by first | exact .inl rfl | exact .inr rfl | assumption)
    (hn : (assignEach [.Name x px, .Name y py, .Name z pz] X.env).length = 3 := by rfl) (hst : (assignEach [.Name x px, .Name y py, .Name z pz] X.env).findIdx? (·.1) = none := by rfl)
    (ht1 : (assignEach [.Name x px, .Name y py, .Name z pz] X.env).map (·.2) = assign (.Name x px) X.env :: (assignEach [.Name y py, .Name z pz] X.env).map (·.2) := by rfl) (ht2 : (assignEach [.Name y py, .Name z pz] X.env).map (·.2) = assign (.Name y py) X.env :: (assignEach [.Name z pz] X.env).map (·.2) := by rfl) (ht3 : (assignEach [.Name z pz] X.env).map (·.2) = assign (.Name z pz) X.env :: (assignEach [] X.env).map (·.2) := by rfl)
    (hs : swapsWithSole [.Tuple [.Name x px, .Name y py, .Name z pz] kt pt] e pos.line X.env = pure false := by rfl) (hw : swappedStores [.Tuple [.Name x px, .Name y py, .Name z pz] kt pt] e X.env = pure none := by rfl)
    (h1 : (assignEach [.Tuple [.Name x px, .Name y py, .Name z pz] kt pt] X.env).map (·.2) = [assign (.Tuple [.Name x px, .Name y py, .Name z pz] kt pt) X.env] := by rfl) :
    Wp1 X Z (.Assign [.Tuple [.Name x px, .Name y py, .Name z pz] kt pt] e pos) F O ρ N :=
  .mk fun T σ H S D E => canS_of (ps_asg pe_can (pg_tup hc (pgs_cons (pg_name hN hi hx hf) (pgs_cons (pg_name hN hj hy hf2) (pgs_cons (pg_name hN hl hz hf3) pgs_nil ht3) ht2) ht1) hn hst) hs hw h1)
    (h T σ H S _ fun F1 O1 H1 v d e1 S1 r1 ⟨a, b, c, ed, nx⟩ => by
      subst ed
      cases r1 with
      | tup ha hr =>
        obtain ⟨va, vb, vc, rfl, ra, rb, rc⟩ := isAll3 hr
        exact ⟨_, _, rfl, sqT_mono S1.a.ex ha, rfl, va, [vb, vc], rfl, vb, [vc], rfl, vc, [], rfl, rfl, E.nx F1 O1 _ _ H1 e1 ⟨S1.a, ((S1.sig.set ra i).set rb j).set rc l⟩ nx⟩)
end
end CR
/-! Two rows held against one another. -/
namespace CR
open PySem PySem.Spec PyProof.Rows L2
/-! ### how often 2 goes into a number -/
/-! ### bits alike -/
/-! ### where rows meet -/
theorem nxt_inj_in {s u l : Int} (h1 : 1 ≤ l) (hl : l % 2 = 1) (s0 : -l ≤ s) (s1 : s ≤ 0) (u0 : -l ≤ u) (u1 : u ≤ 0) (h : nxt s l = nxt u l) : s = u := by
  have e1 := @nxt_two s l hl
  have e2 := @nxt_two u l hl
  rw [h] at e1
  rcases Int.emod_two_eq s with p | p <;> rcases Int.emod_two_eq u with q | q <;> rw [p] at e1 <;> rw [q] at e2 <;> omega
/-- the ahead of a number with so many figures -/
theorem ahead_bd {t l : Int} {k : Nat} (h1 : 1 ≤ l) (h2 : l % 2 = 1) (hk : k ≤ 1000) (ht : t.natAbs < 2 ^ k) : aheadM t l ≤ k := by
  have ok := ahead_ok h1 h2 (Nat.lt_of_lt_of_le ht (Nat.pow_le_pow_right (by decide) hk))
  obtain ⟨a, b⟩ := ahead_hp (t := t) h1 h2 k
  have hB : (t.natAbs : Int) < 2 ^ k := by
    have e : ((2 ^ k : Nat) : Int) = (2 : Int) ^ k := by simp
    rw [← e]
    omega
  have big : ∀ z : Int, 1 ≤ z → ¬ z * 2 ^ k ≤ (t.natAbs : Int) := fun z hz q => by
    have := Int.mul_le_mul_of_nonneg_right hz (Int.le_of_lt (two_pos k))
    rw [Int.one_mul] at this
    omega
  have hin : -l ≤ topM k t l ∧ topM k t l ≤ 0 := by
    constructor
    · rcases Int.lt_or_le (topM k t l) (-l) with q | q
      · exact absurd (b q) (big _ (by omega))
      · exact q
    · rcases Int.lt_or_le 0 (topM k t l) with q | q
      · exact absurd (a q) (big _ (by omega))
      · exact q
  rcases Nat.lt_or_ge k (aheadM t l) with q | q
  · exact absurd hin (ok.min k q)
  · exact q
theorem seg_D (w : Nat → Int) (n : Nat) : (rngD 0 n).map (onIntD fun i => .int (w i)) = (segM w 0 n).map .int := by
  rw [rng_mapD]
  unfold segM
  rw [List.map_map]
  refine List.map_congr_left fun i _ => ?_
  simp
end CR
/-! Windows of rows. -/
namespace CR
open PySem PySem.Spec PyProof.Rows L2
def winM (a b : Int) (n i : Nat) : List Int := bitsM n (topM (aheadM a b + i) a b) b
theorem bits_rep {s l : Int} (h1 : 1 ≤ l) (h2 : l % 2 = 1) (a : -l ≤ s) (b : s ≤ 0) : ∀ k : Nat, (List.replicate k (bitsM (ordM l) s l)).flatten = bitsM (k * ordM l) s l
  | 0 => by rw [Nat.zero_mul]; rfl
  | k + 1 => by
    rw [List.replicate_succ, List.flatten_cons, bits_rep h1 h2 a b k, Nat.succ_mul, Nat.add_comm (k * ordM l), bitsM_add, topM_per h1 h2 a b (ord_ok h1 h2).one]
theorem flat_map {α β : Type} (f : α → β) (xs : List α) (k : Nat) : (List.replicate k (xs.map f)).flatten = ((List.replicate k xs).flatten).map f := by
  induction k with
  | zero => rfl
  | succ k ih => rw [List.replicate_succ, List.replicate_succ, List.flatten_cons, List.flatten_cons, List.map_append, ih]
theorem win_cut {a b : Int} (R : RowFr a b) {k n i : Nat} (h : i + n ≤ k * ordM b) : cutX ((List.replicate k ((rndM a b).map D.int)).flatten) (some (i : Int)) (some ((i + n : Nat) : Int)) = (winM a b n i).map .int := by
  have ok := R.ahead
  rw [flat_map, cutX_run, ← List.map_take, ← List.map_drop]
  unfold rndM
  rw [bits_rep R.h1 R.h2 ok.lo ok.hi, bitsM_take _ _ _ _ h, bitsM_drop _ _ _ _ (by omega), show i + n - i = n by omega, ← topM_add]
  rfl
/-- how many windows are some bits -/
def plcM (a b : Int) (bs : List Int) : Nat := (List.range (ordM b)).countP fun i => decide (winM a b bs.length i = bs)
theorem plc_count (a b : Int) (bs : List Int) : ((List.range (ordM b)).map fun i => tupI (winM a b bs.length i)).countP (fun z => deq z (tupI bs)) = plcM a b bs := by
  unfold plcM
  rw [List.countP_map]
  refine List.countP_congr fun i _ => ?_
  show deq _ _ = true ↔ _
  rw [deq_tup, deqs_ints]
/-! ### the turned row -/
end CR
/-! set(a list of numbers), sorted of it, its length. -/
namespace CR
open PySem PySem.Spec PyProof.Rows L2
abbrev newS (w : World) : Obj := { cls := .type "set", dict := none, data := .set #[] 0 (.fresh 0 0 (!w.params.followText "set-order")) }
section
variable {P : Program} {w : World} {A : Around} {E : Value → Shared → Prop} {s : Shared}
theorem call_setL {q : Addr} {its : Array Value} (ns : List Int) {Q : Value → Shared → Prop} (hh : A.handled = none) (isL : s.heap.IsList q its) (isI : IntsAre its.toList ns) (few : ns.length + 1 < scanBound)
    (fin : ∀ (g : Heap) (tk c : Nat), SetR w g s.heap.objs.size (fun j => decide (j ∈ ns)) c → (∀ b u, s.heap.get? b = some u → g.get? b = some u) → Q (.ref s.heap.objs.size) { s with heap := g, toks := tk }) :
    wpAny (model P w) A (call (.type "set") [.ref q]) Q E s := by
  have len : its.size = ns.length := (Array.length_toList (xs := its)).symm.trans (IntsAre.length isI)
  obtain ⟨_, _, f0⟩ := F.called_set.mro
  have f1 := F.called_set.made
  have f2 := F.called_set.sub
  have f3 := F.called_set.notType
  have f4 := F.called_set.canCreate
  have f5 := F.typeCall_set_1 (.ref q)
  refine wpAny_call (codeAny_of_tree (show wpAny _ _ (callAny (.type "set") _) _ _ _ from ?_))
  refine wpAny_pure ⟨Code.quiet_builtin _ (by decide +kernel), codeAny_builtin F.entry_type_call ?_⟩
  rw [Around.under_plain (weight_type_call_type "set" [.ref q] []) rfl]
  repeat' (first | assumption | wp_step)
  refine codeAny_mono (code_set_led1 (.ref q) (E := E) (Q₁ := fun v t => v = .ref s.heap.objs.size ∧ t = { s with heap := s.heap.push (newS w) }) ⟨rfl, rfl⟩) fun r s1 hr => ?_
  match r, hr with
  | .error _, hr => exact hr
  | .ok (.ret _), ⟨e1, e2⟩ =>
    subst e1 e2
    have at0 : (s.heap.push (newS w)).get? s.heap.objs.size = some (newS w) := Heap.get?_push_size _ rfl
    have ty0 : Shared.TypeIs { s with heap := s.heap.push (newS w) } (.ref s.heap.objs.size) "set" := ⟨_, at0, rfl⟩
    have f6 := F.called_set.init.lookup
    have f7 := F.called_set.init.bind (.ref s.heap.objs.size)
    repeat' (first | assumption | wp_step)
    refine codeAny_mono (codeAny_call_builtin (R := wants (fun v t => v = .none ∧ ∃ g tk c, t = { s with heap := g, toks := tk } ∧ SetR w g s.heap.objs.size (fun j => decide (j ∈ ns)) c ∧ ∀ b u, s.heap.get? b = some u → g.get? b = some u) E)
      F.called_set.init.plain F.entry_set_init (check_set_init_1 ty0 ?_)) fun r2 s2 hr2 => ?_
    rotate_left 1
    · match r2, hr2 with
      | .error _, hr2 => exact hr2
      | .ok (.ret _), ⟨e1, g, tk, c, e2, k1, k2⟩ =>
        subst e1 e2
        repeat' (first | assumption | wp_step)
        exact fin _ _ _ k1 k2
    obtain ⟨⟨oc, od, oD, oS⟩, atq, c1, n1, c2⟩ := isL
    simp only at c1 c2
    subst c1 c2
    have atq2 := Heap.get?_push_of_some (newS w) atq
    have isL2 : (s.heap.push (newS w)).IsList q its := ⟨_, atq2, rfl, n1, rfl⟩
    have f8 := F.sub_list_set
    have f9 := F.sub_list_frozenset
    have f10 : (Value.type "list" == Value.type "dict") = false := by decide
    unfold Builtin.«set.__init__» noKeywords Builtin.Frozenset.updateFrom
    generalize gen : pyIter = itr
    wp_walk
    subst gen
    refine wpAny_pyIter_list isL2 (wpAny_bind (wpAny_runValue ?_))
    have lq : q < s.heap.objs.size := Heap.lt_size atq
    have sz1 : (s.heap.push (newS w)).objs.size = s.heap.objs.size + 1 := Heap.size_push ..
    have up : ∀ {b : Nat}, b < s.heap.objs.size → b ≠ (s.heap.push (newS w)).objs.size := fun k => Nat.ne_of_lt (by rw [sz1]; exact Nat.lt_succ_of_lt k)
    have ne1 : q ≠ (s.heap.push (newS w)).objs.size := up lq
    have no1 : s.heap.objs.size ∉ [(s.heap.push (newS w)).objs.size, q] := by
      intro z
      rcases List.mem_cons.1 z with z | z
      · exact Nat.ne_of_lt (by rw [sz1]; exact Nat.lt_succ_self _) z
      · exact Nat.ne_of_gt lq (List.mem_singleton.1 z)
    have vals : ∀ (i : Nat) (v : Value), its[i]? = some v → ∃ k t, ns[i]? = some k ∧ v = .int k t := fun i v hv => by
      obtain ⟨t, e⟩ := IntsAre.int_at isI i v (by rw [Array.getElem?_toList, hv])
      have li : i < ns.length := len ▸ (Array.getElem?_eq_some_iff.1 hv).1
      exact ⟨ns[i], t, List.getElem?_eq_getElem li, by rw [e, List.getD_eq_getElem?_getD, List.getElem?_eq_getElem li]; rfl⟩
    have hA : A.in1.in1.in1.handled = none := by simpa using hh
    have at1 := fun o => Heap.get?_push_of_some o at0
    refine set_update_ints (Walks.list hA _ q ne1 its).toS _ no1 ns len few vals its.size 0 _ rfl (Nat.zero_le _) ⟨⟨_, Heap.get?_push_size _ rfl, rfl, rfl⟩, isL2.push _⟩ ⟨0, Nat.le_refl 0, setR_new_at (at1 _)⟩ fun t2 c2 mv _ k1 => ?_
    obtain ⟨g, g1, g2, g3, g4⟩ := t2
    obtain rfl : g1 = s.gens := mv.gens
    obtain rfl : g2 = s.drawn := mv.drawn
    obtain rfl : g4 = s.os := mv.os
    refine wpAny_pure (show wpAny _ _ (ret Value.none) _ _ _ from wpAny_pure ⟨rfl, g, g3, c2, rfl, k1, fun b u e => ?_⟩)
    have lb := Heap.lt_size e
    refine mv.heap b u (fun z => ?_) (Heap.get?_push_of_some _ (Heap.get?_push_of_some _ e))
    rcases List.mem_cons.1 z with z | z
    · exact Nat.ne_of_lt lb z
    · exact up lb (List.mem_singleton.1 z)
end
/-- unlike numbers of a list, so many -/
def Unlike (ns : List Int) (c : Nat) : Prop := ∃ ks : List Int, ks.Nodup ∧ (∀ k, k ∈ ks ↔ k ∈ ns) ∧ ks.length = c
theorem cr_setL {X : Cx} (hc : X.calm = true) : CallR X (.type "set") (fun xs H Q => ∃ (q : Addr) (ns : List Int), xs = [.ref q] ∧ SqL X.K H q (ns.map V.int) ∧ ns.length + 1 < scanBound ∧
    ∀ p c, H p = none → Unlike ns c → Q (.ref p) (upd H p (SetO X.w p (fun j => decide (j ∈ ns)) c))) := by
  rintro pins s σ H xs us Q I r ⟨q, ns, rfl, hq, few, k⟩
  rw [Vals.ref1 r]
  obtain ⟨its, rv, pl, hz⟩ := I.list hq
  refine call_setL ns (I.ok.hd hc) pl.isList (by simpa using rv.ints) few fun g tk c R keep => ?_
  have un : Unlike ns c := by
    obtain ⟨o, es, ep, t, ho, hex, hd, _, nd, hm, _, _, hn, _⟩ := R
    exact ⟨es.toList.map keyOf, nd, fun k => by rw [← hm k]; simp, by rw [List.length_map, Array.length_toList]; exact hn⟩
  exact ⟨.ref _, upd H s.heap.objs.size (SetO X.w s.heap.objs.size (fun j => decide (j ∈ ns)) c), I.laid (t' := tk) keep (Nat.le_refl _) (setO_new R), rfl, k _ c (I.hok.fresh (Nat.le_refl _)) un⟩
section
variable {X : Cx} {F : Hp} {O : OW} {P : Hp → D → Prop}
theorem calld_setL {ns : List Int} (hc : X.calm = true) (few : ns.length ≤ 4000) (h : ∀ F2 p c, Same F F2 → F2 p = some (SetO X.w p (fun j => decide (j ∈ ns)) c) → Unlike ns c → P F2 (.raw (.ref p))) : CallD X (.type "set") [.lst (ns.map .int)] F O P := CallD.of (cr_setL hc) fun H vs S hv Q q => by
  obtain ⟨v, rfl, r⟩ := isAll1 hv
  cases r with
  | lst ha hr =>
    refine ⟨_, ns, rfl, by rw [← hr.ints]; exact .inl (.inl (S.ex _ _ ha)), by unfold scanBound; omega, fun p c hp un => ?_⟩
    have e := same_new (o := SetO X.w p (fun j => decide (j ∈ ns)) c) (S.neF hp)
    exact q _ _ _ (.raw (.ref p)) e (S.new hp) (.raw _) (h _ p c e upd_same un)
end
theorem bt_set : bootBuiltins "set" = some (.type "set") := by kernel_rfl
end CR
/-! All rounds of a lower number. -/
namespace CR
open PySem PySem.Spec PyProof.Rows L2
def cycM (l t : Int) : Nat := ((List.range (ordM l)).find? fun k => decide (topM (k + 1) t l = t)).getD 0 + 1
structure CycOk (l t : Int) (n : Nat) : Prop where
  pos : 1 ≤ n
  le : n ≤ ordM l
  back : topM n t l = t
  min : ∀ j, 0 < j → j < n → topM j t l ≠ t
/-- an odd lower number, and an upper one within it -/
structure InL (l t : Int) : Prop where
  h1 : 1 ≤ l
  h2 : l % 2 = 1
  a : -l ≤ t
  b : t ≤ 0
section
variable {l t : Int} (I : InL l t)
include I
theorem InL.cyc : CycOk l t (cycM l t) := by
  have ok := ord_ok I.h1 I.h2
  have op := ok.pos
  have hp := topM_per I.h1 I.h2 I.a I.b ok.one
  unfold cycM
  cases q : (List.range (ordM l)).find? fun k => decide (topM (k + 1) t l = t) with
  | none =>
    rw [List.find?_range_eq_none] at q
    have := q (ordM l - 1) (by omega)
    rw [show ordM l - 1 + 1 = ordM l by omega, decide_eq_true hp] at this
    cases this
  | some k =>
    rw [List.find?_range_eq_some] at q
    obtain ⟨q1, q2, q3⟩ := q
    have q2 : k < ordM l := by simpa using q2
    refine ⟨by omega, by show k + 1 ≤ _; omega, of_decide_eq_true q1, fun j j0 j1 e => ?_⟩
    have j1 : j < k + 1 := j1
    have := q3 (j - 1) (by omega)
    rw [show j - 1 + 1 = j by omega, decide_eq_true e] at this
    cases this
theorem InL.top (n : Nat) : InL l (topM n t l) := by
  obtain ⟨a, b⟩ := topM_stay I.h1 I.h2 n I.a I.b
  exact ⟨I.h1, I.h2, a, b⟩
theorem InL.cancel {d : Nat} : ∀ i, topM (i + d) t l = topM i t l → topM d t l = t
  | 0, h => by rw [Nat.zero_add] at h; exact h
  | i + 1, h => by
    rw [show i + 1 + d = i + d + 1 by omega, topM_snoc, topM_snoc] at h
    have u := I.top (i + d)
    have v := I.top i
    exact InL.cancel i (nxt_inj_in I.h1 I.h2 u.a u.b v.a v.b h)
theorem InL.mul : ∀ q : Nat, topM (cycM l t * q) t l = t
  | 0 => rfl
  | q + 1 => by rw [Nat.mul_succ, topM_add, InL.mul q, I.cyc.back]
theorem InL.mod (n : Nat) : topM n t l = topM (n % cycM l t) t l := by
  have e := Nat.div_add_mod n (cycM l t)
  have h : topM (cycM l t * (n / cycM l t) + n % cycM l t) t l = topM (n % cycM l t) t l := by rw [topM_add, I.mul]
  rw [e] at h
  exact h
theorem InL.new {i j : Nat} (hij : i < j) (hj : j < cycM l t) : topM i t l ≠ topM j t l := fun e => by
  have := I.cancel (d := j - i) i (by rw [show i + (j - i) = j by omega]; exact e.symm)
  exact I.cyc.min (j - i) (by omega) (by omega) this
end
end CR
/-! Defs that give a list of our own; such lists changed and compared. -/
namespace CR
open PySem PySem.Spec PyProof.Rows L2
/-- an answer that is a list, and ours to change -/
def outO (mg : Str → Option Value) (r : Res) (F : Hp) (O : OW) (RT : Hp → OW → D → Prop) (XC : Hp → OW → Value → List (Str × D) → Prop) : Prop := match r with
  | .ret d => ∀ xs, d = .lst xs → ∀ F2 p, Same F F2 → RT F2 ((p, .lst xs) :: O) (.raw (.ref p))
  | .exc x fs => ∀ F2 c, Same F F2 → mg x = some c → XC F2 O c fs
theorem outO.mono {mg : Str → Option Value} {r : Res} {F : Hp} {O : OW} {RT RT' : Hp → OW → D → Prop} {XC XC' : Hp → OW → Value → List (Str × D) → Prop} (h1 : ∀ F2 O2 d, Same F F2 → RT F2 O2 d → RT' F2 O2 d)
    (h2 : ∀ F2 O2 c fs, Same F F2 → XC F2 O2 c fs → XC' F2 O2 c fs) (h : outO mg r F O RT XC) : outO mg r F O RT' XC' := by
  cases r with
  | ret d => exact fun xs q F2 p e => h1 _ _ _ e (h xs q F2 p e)
  | exc x fs => exact fun F2 c e m => h2 _ _ _ _ e (h F2 c e m)
section
variable {mg : Str → Option Value} {r : Res} {F F2 : Hp} {O : OW} {RT : Hp → OW → D → Prop} {XC : Hp → OW → Value → List (Str × D) → Prop}
theorem fin_rtO {xs : List D} {p : Addr} (hs : outO mg r F O RT XC) (e : Same F F2) (hr : r = .ret (.lst xs)) : RT F2 ((p, .lst xs) :: O) (.raw (.ref p)) := by
  subst hr
  exact hs xs rfl F2 p e
theorem fin_xcO {x : Str} {c : Value} {fs : List (Str × D)} (hs : outO mg r F O RT XC) (e : Same F F2) (hm : mg x = some c) (hr : r = .exc x fs) : XC F2 O c fs := by
  subst hr
  exact hs F2 c e hm
end
section
variable {X : Cx} {Z : ZP} {F : Hp} {O : OW} {ρ : Rho} {tg : Expr}
/-- xs.reverse() -/
theorem mtd_reverse {j : Nat} {p : Addr} {xs : List D} {P : Hp → OW → D → Prop} (hj : O[j]? = some (p, .lst xs)) (h : P F (O.set j (p, .lst xs.reverse)) .non) : MtD X "list.reverse" (.raw (.ref p)) [] F O P :=
  MtD.of mt_reverse fun H v vs S hv hvs Q q => by
    cases hv
    cases hvs
    obtain ⟨_, ws, hH, hr⟩ := S.own _ (List.mem_of_getElem? hj)
    exact ⟨p, ws, rfl, rfl, hH, q F _ _ _ _ (Same.refl _) (S.set (e' := .lst xs.reverse) hj ⟨_, upd_same, hr.reverse⟩) .non h⟩
theorem wp_reverse {o : Expr} {ap cp pos : Pos} {N : Post}
    (h : EvP X Z o F O ρ fun F1 O1 x => ∃ (j : Nat) (p : Addr) (xs : List D), x = .raw (.ref p) ∧ O1[j]? = some (p, .lst xs) ∧ N.nx F1 (O1.set j (p, .lst xs.reverse)) ρ)
    (hbase : attributeBase o "reverse" X.env (eval o X.env) = eval o X.env := by rfl) (hline : (ap.endLine == cp.line) = true := by rfl)
    (hsw : swapsWith (.Call (.Attribute o "reverse" ap) [] [] cp) none pos.line X.env = pure false := by rfl) : Wp1 X Z (.Expr (.Call (.Attribute o "reverse" ap) [] [] cp) pos) F O ρ N :=
  wp_drop (evp_meth0 (P := fun F1 O1 _ => N.nx F1 O1 ρ) PySem.F.plainAttrs_list PySem.F.slot_list_reverse PySem.F.type_list_reverse (h.imp fun F1 O1 x _ ⟨j, p, xs, ex, hj, k⟩ => by
    subst ex
    exact ⟨.own hj, mtd_reverse hj k⟩) hbase hline) hsw
end
end CR
/-! set(a list of tuples of numbers), its length. -/
namespace CR
open PySem PySem.Spec PyProof.Rows L2
theorem isAll_tups {K : PySem.W.Frag} {F : Hp} : ∀ {vs : List V} {ws : List (List Int)}, IsAll K F vs (ws.map tupI) → ∃ ks : List (Addr × List Int), vs = ks.map (fun p => V.ref p.1) ∧ ks.map (·.2) = ws ∧ ∀ p ∈ ks, SqT K F p.1 (p.2.map V.int)
  | vs, [], h => by
    cases h
    exact ⟨[], rfl, rfl, fun p q => by cases q⟩
  | vs, w :: ws, h => by
    rw [List.map_cons] at h
    cases h with
    | cons r t =>
      obtain ⟨ks, e1, e2, e3⟩ := isAll_tups t
      unfold tupI at r
      cases r with
      | tup ha hr =>
        rw [hr.ints] at ha
        refine ⟨(_, w) :: ks, by rw [e1]; rfl, by rw [List.map_cons, e2], fun p hp => ?_⟩
        rcases List.mem_cons.1 hp with rfl | hp
        · exact ha
        · exact e3 p hp
/-- the unlike ones of a list -/
def unlM : List (List Int) → List (List Int)
  | [] => []
  | x :: xs => if x ∈ unlM xs then unlM xs else x :: unlM xs
theorem unlM_ok : ∀ xs, (unlM xs).Nodup ∧ ∀ w, w ∈ unlM xs ↔ w ∈ xs
  | [] => ⟨.nil, fun _ => Iff.rfl⟩
  | x :: xs => by
    obtain ⟨a, b⟩ := unlM_ok xs
    unfold unlM
    split
    · rename_i h
      refine ⟨a, fun w => ?_⟩
      rw [b, List.mem_cons]
      exact ⟨.inr, fun q => q.elim (fun e => e ▸ (b x).1 h) id⟩
    · rename_i h
      refine ⟨List.nodup_cons.2 ⟨h, a⟩, fun w => ?_⟩
      rw [List.mem_cons, List.mem_cons, b]
theorem nodup_lenG {α : Type} [DecidableEq α] : ∀ {ks ls : List α}, ks.Nodup → (∀ k ∈ ks, k ∈ ls) → ks.length ≤ ls.length
  | [], _, _, _ => Nat.zero_le _
  | k :: ks, ls, h, q => by
    obtain ⟨h1, h2⟩ := List.nodup_cons.1 h
    have hk := q k List.mem_cons_self
    have e := List.length_erase_of_mem hk
    have p := List.length_pos_of_mem hk
    have i := nodup_lenG (ls := ls.erase k) h2 fun x hx => (List.mem_erase_of_ne (fun (e : x = k) => h1 (e ▸ hx))).2 (q x (List.mem_cons_of_mem _ hx))
    rw [List.length_cons]
    omega
theorem unl_len {ks ws : List (List Int)} (n : ks.Nodup) (h1 : ∀ k ∈ ks, k ∈ ws) (h2 : ∀ w ∈ ws, w ∈ ks) : ks.length = (unlM ws).length := by
  obtain ⟨a, b⟩ := unlM_ok ws
  exact Nat.le_antisymm (nodup_lenG n fun k hk => (b k).2 (h1 k hk)) (nodup_lenG a fun k hk => h2 k ((b k).1 hk))
end CR
/-! The lengths of all rounds together; short rounds are few. -/
/-! sorted of a list of pairs that is sorted already. -/
namespace CR
open PySem PySem.Spec PyProof.Rows L2
/-! own classes: instances made, read, changed, their methods and properties -/
def putD (f : Str) (d : D) : List (Str × D) → List (Str × D)
  | [] => [(f, d)]
  | (g, x) :: r => if g = f then (g, d) :: r else (g, x) :: putD f d r
theorem IsFs.put {K : PySem.W.Frag} {F : Hp} {f : Str} {v : V} {d : D} (r : Is K F v d) : ∀ {gs : List (Str × V)} {fs : List (Str × D)}, IsFs K F gs fs → IsFs K F (putF f v gs) (putD f d fs)
  | _, _, .nil => .cons r .nil
  | (g, x) :: gs, (_, y) :: fs, .cons q t => by
    unfold putF putD
    by_cases h : g = f
    · rw [if_pos h, if_pos h]
      exact .cons r t
    · rw [if_neg h, if_neg h]
      exact .cons q (IsFs.put r t)
/-! ### what the text says of a class -/
theorem Has.cls {fa : List He.Fa} {fn : List He.DefD} {ex : PySem.W.Frag → Bool} {K : PySem.W.Frag} {mg : Str → Option Value} (c : Has fa fn ex K mg) (i : Nat) {x : Str} (h : fa[i]? = some (.cls x) := by rfl) : Cls K (He.ga K x) := He.cls_ok (c.d.fact i h)
structure InsK (K : PySem.W.Frag) (C : Addr) : Prop where
  ins : C8.InsC K C
  no : ∀ n ∈ ["NoneType", "bool", "int", "str", "list", "tuple", "dict"], PySem.W.kitOne K (.type n) (.ref C) = some false
/-! ### the rules -/
section
variable {X : Cx} {Z : ZP} {F : Hp} {O : OW} {ρ : Rho}
/-- an instance of our own, the first one, is never to be changed from now on -/
theorem EvP.frzI {e : Expr} {P : Hp → OW → D → Prop} (h : EvP X Z e F O ρ fun F1 O1 d => ∃ p C dx fs O', d = .raw (.ref p) ∧ O1 = (p, .ins C dx fs) :: O' ∧ ∀ F2, Same F1 F2 → P F2 O' (.ins C fs)) : EvP X Z e F O ρ P :=
  .mk fun T σ H S Q q => h T σ H S Q fun F1 O1 H1 v d e1 S1 r1 ⟨p, C, dx, fs, O', ed, eO, hp⟩ => by
    subst ed eO
    cases r1
    obtain ⟨F2, e2, S2, r2⟩ := S1.a.freezeI (j := 0) rfl
    exact q F2 O' H1 _ _ (e1.trans e2) ⟨S2, S1.sig.mono e2⟩ r2 (hp F2 e2)
theorem evp_fld {C : Addr} {e : Expr} {f : Str} {pos : Pos} {P : Hp → OW → D → Prop} (cl : Cls X.K C) (na : NoAttr X.K C f)
    (h : EvP X Z e F O ρ fun F1 O1 d => ∃ fs y, d = .ins C fs ∧ fs.lookup f = some y ∧ P F1 O1 y) (hb : attributeBase e f X.env (eval e X.env) = eval e X.env := by rfl) : EvP X Z (.Attribute e f pos) F O ρ P :=
  .mk fun T σ H S Q q => canE_of (pe_fld pe_can hb) (h T σ H S _ fun F1 O1 H1 v d e1 S1 r1 ⟨fs, y, ed, hl, p⟩ => by
    subst ed
    cases r1 with
    | ins hF hr =>
      obtain ⟨w, hw, rw⟩ := hr.lookup hl
      exact ⟨_, C, _, _, w, rfl, S1.a.ex _ _ hF, cl, na, hw, q F1 O1 H1 w y e1 S1 rw p⟩)
theorem evp_fldO {C : Addr} {e : Expr} {f : Str} {pos : Pos} {P : Hp → OW → D → Prop} (cl : Cls X.K C) (na : NoAttr X.K C f)
    (h : EvP X Z e F O ρ fun F1 O1 d => ∃ (j : Nat) (p dx : Addr) (fs : List (Str × D)) (y : D), d = .raw (.ref p) ∧ O1[j]? = some (p, .ins C dx fs) ∧ fs.lookup f = some y ∧ P F1 O1 y) (hb : attributeBase e f X.env (eval e X.env) = eval e X.env := by rfl) : EvP X Z (.Attribute e f pos) F O ρ P :=
  .mk fun T σ H S Q q => canE_of (pe_fld pe_can hb) (h T σ H S _ fun F1 O1 H1 v d e1 S1 r1 ⟨j, p, dx, fs, y, ed, hj, hl, k⟩ => by
    subst ed
    cases r1
    obtain ⟨_, gs, hH, hr⟩ := S1.a.own _ (List.mem_of_getElem? hj)
    obtain ⟨w, hw, rw⟩ := hr.lookup hl
    exact ⟨p, C, dx, gs, w, rfl, hH, cl, na, hw, q F1 O1 H1 w y e1 S1 rw k⟩)
/-- o.f = e, o an instance of our own -/
theorem wp_setF {C : Addr} {o e : Expr} {f : Str} {p' pos : Pos} {N : Post} (cl : Cls X.K C) (na : NoAttr X.K C f)
    (h : EvP X Z e F O ρ fun F1 O1 d => EvP X Z o F1 O1 ρ fun F2 O2 x => ∃ (j : Nat) (p dx : Addr) (fs : List (Str × D)), x = .raw (.ref p) ∧ O2[j]? = some (p, .ins C dx fs) ∧ fs.length < 1000 ∧ N.nx F2 (O2.set j (p, .ins C dx (putD f d fs))) ρ)
    (hs : swapsWith e (some (.Attribute o f p')) pos.line X.env = pure false := by rfl) : Wp1 X Z (.Assign [.Attribute o f p'] e pos) F O ρ N :=
  .mk fun T σ H S D E => canS_of (ps_fld pe_can pe_can hs) (h T σ H S _ fun F1 O1 H1 v d e1 S1 r1 k => k (tkm T e1) σ H1 S1 _ fun F2 O2 H2 u x e2 S2 r2 ⟨j, p, dx, fs, ex, hj, hl, n⟩ => by
    subst ex
    cases r2
    obtain ⟨_, gs, hH, hr⟩ := S2.a.own _ (List.mem_of_getElem? hj)
    refine ⟨p, C, dx, gs, rfl, hH, cl, na, by rw [hr.length]; exact hl, ?_⟩
    exact E.nx F2 _ ρ σ _ (e1.trans e2) ⟨S2.a.set (e' := .ins C dx (putD f d fs)) hj ⟨_, upd_same, IsFs.put (r1.mono e2) hr⟩, S2.sig⟩ n)
/-- C(..): what is wished for of an exception is wished for at the caller's slots -/
def tMakeS (C : Addr) (sp : Sp) (E : L2.St → XK) (t : TA) : TE := fun σ H Q => t σ H fun vs H1 => ∀ x dx, H1 x = none → H1 dx = none → dx ≠ x →
  sp (.ref x :: vs) (upd (upd H1 dx (.own x)) x (.ins C dx [])) (fun v H2 => v = .non ∧ Q (.ref x) H2) (E σ)
theorem make_runS {C f : Addr} {k : Nat} {fd : FuncData} {ps : List Str} {sp : Sp} {E : L2.St → XK} {pins : List (Addr × Obj)} {σ : L2.St} {H : Hp} {s : Shared} {Q : VK} {us : List Value} {vs : List V} (M : Mk X.K C f)
    (Fn : FnOk X.prog X.w X.K X.mg X.base (L2.CX X.prog X.w) k f fd ps sp) (hr : Room (k + 1) X.A) (hb : Binds X.K fd ps []) (hx : PassesAt (L2.CX X.prog X.w) X σ (E σ)) (I : Inv X pins σ H s) (r : Vals vs us)
    (h : ∀ x dx, H x = none → H dx = none → dx ≠ x → sp (.ref x :: vs) (upd (upd H dx (.own x)) x (.ins C dx [])) (fun v H2 => v = .non ∧ Q (.ref x) H2) (E σ)) :
    wpAny (model X.prog X.w) X.A (call (.ref C) us) (EP X pins σ Q) X.xe s := by
  have J := Inv.made (C := C) I
  generalize hn : s.heap.objs.size = n at J
  have h1 := h (n + 1) n (hn ▸ I.hok.fresh (Nat.le_succ _)) (hn ▸ I.hok.fresh (Nat.le_refl _)) (Nat.ne_of_lt (Nat.lt_succ_self n))
  have r2 : Vals (V.ref (n + 1) :: vs) (Value.ref (n + 1) :: us) := .cons rfl r
  have b := hb _ (Value.ref (n + 1) :: us) J.kIn (by
    rw [List.append_nil, ← r2.length]
    exact Fn.len _ _ _ _ h1)
  rw [List.append_nil] at b
  subst hn
  have go := Fn.run _ X.stack _ _ ⟨_, []⟩ _ _ _ (E σ) (hr.make C us []) (J.env0.make C us []) b r2 h1
  refine wpAny_call (make_map (f := f) I.kIn M.makes M.init (beq_iff_eq.mp M.fn) (codeAny_mono go fun z s2 hz => ?_))
  match z, hz with
  | .error e, hz => exact hx pins _ _ e s2 J hz
  | .ok (.ret u), hz =>
    obtain ⟨v, H3, I3, rv, ev, q3⟩ := J.after hz
    subst ev
    exact ⟨rv, V.ref _, H3, I3, rfl, q3⟩
theorem pe_makeS {C f : Addr} {k : Nat} {fd : FuncData} {ps : List Str} {sp : Sp} {E : L2.St → XK} {x : Str} {p pos : Pos} {e : Expr} {es : List Expr} {t : TA} (M : Mk X.K C f)
    (Fn : FnOk X.prog X.w X.K X.mg X.base (L2.CX X.prog X.w) k f fd ps sp) (hr : Room (k + 1) X.A) (hg : Gl X x) (hm : X.mg x = some (.ref C)) (hb : Binds X.K fd ps []) (hx : ∀ σ, PassesAt (L2.CX X.prog X.w) X σ (E σ))
    (ha : PA X (e :: es) t) (hdb : (x == ("__debug__" : Str)) = false) (he : starEach (e :: es) X.env = (false, eval e X.env) :: starEach es X.env) (hpl : (backTo pos (starEach es X.env)).any (·.1) = false) :
    PE X (.Call (.Name x p) (e :: es) [] pos) (tMakeS C sp E t) :=
  ⟨fun pins s σ H Q I h => wpAny_Call_Name_kw (ld_glob I hg hm (PySem.W.callWith_K (h₀ := X.base) I.ok.mod.kin M.kp (thn (ha.run pos pins s σ H _ I h) fun us s1 ⟨vs, H1, I1, r, q⟩ => ⟨I1.kIn, make_runS M Fn hr hb (hx σ) I1 r q⟩) he hpl) hdb)⟩
theorem pe_makeS0 {C f : Addr} {k : Nat} {fd : FuncData} {ps : List Str} {sp : Sp} {E : L2.St → XK} {x : Str} {p pos : Pos} (M : Mk X.K C f)
    (Fn : FnOk X.prog X.w X.K X.mg X.base (L2.CX X.prog X.w) k f fd ps sp) (hr : Room (k + 1) X.A) (hg : Gl X x) (hm : X.mg x = some (.ref C)) (hb : Binds X.K fd ps []) (hx : ∀ σ, PassesAt (L2.CX X.prog X.w) X σ (E σ))
    (hdb : (x == ("__debug__" : Str)) = false) : PE X (.Call (.Name x p) [] [] pos) (tMakeS C sp E tNil) :=
  ⟨fun pins s σ H Q I h => wpAny_Call_Name_kw (ld_glob I hg hm (PySem.W.callWith_K0 I.kIn M.kp (make_runS (us := []) M Fn hr hb (hx σ) I .nil h)) hdb)⟩
/-- the state as the new instance stands -/
theorem StA.made {K : PySem.W.Frag} {F : Hp} {O : OW} {H : Hp} (S : StA K F O H) {x dx C : Addr} (hx : H x = none) (hd : H dx = none) (ne : dx ≠ x) : StA K F ((x, .ins C dx []) :: O) (upd (upd H dx (.own x)) x (.ins C dx [])) := by
  have S1 : StA K F O (upd H dx (.own x)) := ⟨same_mut S.ex (S.neF hd), fun y hy => ⟨(S.own y hy).1, (S.own y hy).2.mono (Same.refl _) (upd_ne (S.neO hd hy))⟩, S.nd⟩
  exact S1.push (by rw [upd_ne (Ne.symm ne)]; exact hx) ⟨[], upd_same, .nil⟩
/-- an own class, by its module's name: how it is made -/
structure Kc (P : Program) (w : World) (K : PySem.W.Frag) (mg : Str → Option Value) (base : Heap) (x : Str) (k : Nat) (ps : List Str) (S : Spec) : Prop where
  gm : mg x = some (.ref (He.ga K x))
  mkr : Mk K (He.ga K x) (He.ma K (He.ga K x) "__init__")
  fa : Fa P w K mg base (He.ma K (He.ga K x) "__init__") k ps S
theorem evp_make {x : Str} {k k' : Nat} {ps : List Str} {S : Spec} {e : Expr} {es : List Expr} {p pos : Pos} {P : Hp → OW → D → Prop} (G : Kc X.prog X.w X.K X.mg X.base x k ps S) (hr : Room k' X.A) (hk : k + 1 ≤ k')
    (h : ArP X Z (e :: es) F O ρ fun F1 O1 ds => ∀ p dx, S.s F1 ((p, .ins (He.ga X.K x) dx []) :: O1) (.raw (.ref p) :: ds) (fun F2 O2 d => d = .non ∧ P F2 O2 (.raw (.ref p))) fun F2 O2 cls fs => Z F2 (O2.eraseIdx 0) ρ cls fs)
    (hg : Gl X x := by rfl) (hdb : (x == ("__debug__" : Str)) = false := by decide) (he : starEach (e :: es) X.env = (false, eval e X.env) :: starEach es X.env := by rfl) (hpl : (backTo pos (starEach es X.env)).any (·.1) = false := by rfl) :
    EvP X Z (.Call (.Name x p) (e :: es) [] pos) F O ρ P := by
  obtain ⟨gm, M, fd, Fn, kp, bn⟩ := G
  refine .mk fun T σ H S0 Q q => canE_of (pe_makeS M Fn (hr.mono hk) hg gm bn (fun σ => passAt T σ) pa_can hdb he hpl) ?_
  refine h T σ H S0 _ fun F1 O1 H1 vs ds e1 S1 r1 hs x dx hx hd ne => ?_
  refine ⟨F1, _, _, S1.a.made hx hd ne, .cons (.raw _) r1, S.mono _ _ _ _ _ _ _ (fun F2 O2 d e hp e' v H2 S2 r2 => by
    obtain ⟨ed, p⟩ := hp
    subst ed
    cases r2
    exact ⟨rfl, q F2 O2 H2 _ _ (e1.trans e) ⟨S2, S1.sig.mono e⟩ (.raw _) p⟩) (fun F2 O2 c fs e z e' dd H2 S2 f2 => ⟨F2, _, ρ, fs, e1.trans e, ⟨S2.drop 0, S1.sig.mono e⟩, f2, z⟩) (hs x dx)⟩
theorem evp_make0 {x : Str} {k k' : Nat} {ps : List Str} {S : Spec} {p pos : Pos} {P : Hp → OW → D → Prop} (G : Kc X.prog X.w X.K X.mg X.base x k ps S) (hr : Room k' X.A) (hk : k + 1 ≤ k')
    (h : ∀ p dx, S.s F ((p, .ins (He.ga X.K x) dx []) :: O) [.raw (.ref p)] (fun F2 O2 d => d = .non ∧ P F2 O2 (.raw (.ref p))) fun F2 O2 cls fs => Z F2 (O2.eraseIdx 0) ρ cls fs)
    (hg : Gl X x := by rfl) (hdb : (x == ("__debug__" : Str)) = false := by decide) : EvP X Z (.Call (.Name x p) [] [] pos) F O ρ P := by
  obtain ⟨gm, M, fd, Fn, kp, bn⟩ := G
  refine .mk fun T σ H S0 Q q => canE_of (pe_makeS0 M Fn (hr.mono hk) hg gm bn (fun σ => passAt T σ) hdb) fun x dx hx hd ne => ?_
  refine ⟨F, _, _, S0.a.made hx hd ne, .cons (.raw _) .nil, S.mono _ _ _ _ _ _ _ (fun F2 O2 d e hp e' v H2 S2 r2 => by
    obtain ⟨ed, p⟩ := hp
    subst ed
    cases r2
    exact ⟨rfl, q F2 O2 H2 _ _ e ⟨S2, S0.sig.mono e⟩ (.raw _) p⟩) (fun F2 O2 c fs e z e' dd H2 S2 f2 => ⟨F2, _, ρ, fs, e, ⟨S2.drop 0, S0.sig.mono e⟩, f2, z⟩) (h x dx)⟩
/-- isinstance(x, C), C an own class -/
theorem calld_insY {C : Addr} {fs : List (Str × D)} {P : Hp → D → Prop} (c : InsK X.K C) (h : P F (.bl true)) : CallD X (.builtin "isinstance") [.ins C fs, .raw (.ref C)] F O P := CallD.of (C8.call_isC c.ins) fun H vs S hv Q q => by
  obtain ⟨v, u, rfl, r, r2⟩ := isAll2 hv
  cases r2
  cases r with
  | ins hF hr => exact ⟨_, _, _, rfl, S.ex _ _ hF, q F H _ _ (Same.refl _) S (.bl true) h⟩
theorem calld_insN {C : Addr} {d : D} {n : String} {P : Hp → D → Prop} (c : InsK X.K C) (k : kindD d = some n) (hn : n ∈ ["NoneType", "bool", "int", "str", "list", "tuple", "dict"]) (h : P F (.bl false)) : CallD X (.builtin "isinstance") [d, .raw (.ref C)] F O P := CallD.of call_isi fun H vs S hv Q q => by
  obtain ⟨v, u, rfl, r, r2⟩ := isAll2 hv
  cases r2
  exact ⟨v, .ref C, _, _, false, rfl, .own C, tyx_of r k S.ex, c.no n hn, q F H _ _ (Same.refl _) S (.bl _) h⟩
end
end CR
namespace CR
open PySem PySem.Spec PyProof.Rows L2
/-! a property whose getter gives a field -/
structure Getter (K : PySem.W.Frag) (C : Addr) (f fld : Str) : Prop where
  ex : ∃ p g fd, PropOf K C f p g ∧ Binds K fd ["self"] [] ∧ ∀ (P : Program) (w : World) (mg : Str → Option Value) (base : Heap), FnOk P w K mg base (L2.CX P w) 1 g fd ["self"] (getSp C fld)
section
variable {X : Cx} {Z : ZP} {F : Hp} {O : OW} {ρ : Rho}
theorem evp_prop {C : Addr} {k : Nat} {e : Expr} {f fld : Str} {pos : Pos} {P : Hp → OW → D → Prop} (cl : Cls X.K C) (G : Getter X.K C f fld) (hr : Room k X.A) (hk : 2 ≤ k)
    (h : EvP X Z e F O ρ fun F1 O1 d => ∃ fs y, d = .ins C fs ∧ fs.lookup fld = some y ∧ P F1 O1 y) (hb : attributeBase e f X.env (eval e X.env) = eval e X.env := by rfl) : EvP X Z (.Attribute e f pos) F O ρ P := by
  obtain ⟨p, g, fd, hp, bn, Fn⟩ := G.ex
  refine .mk fun T σ H S Q q => canE_of (pe_prop (dvs := []) (E := E0) pe_can cl hp (Fn _ _ _ _) (hr.mono hk) bn .nil passL hb) ?_
  refine h T σ H S _ fun F1 O1 H1 v d e1 S1 r1 ⟨fs, y, ed, hl, k⟩ => ?_
  subst ed
  cases r1 with
  | ins hF hr =>
    obtain ⟨w, hw, rw⟩ := hr.lookup hl
    exact ⟨_, _, _, rfl, S1.a.ex _ _ hF, _, _, _, w, rfl, S1.a.ex _ _ hF, hw, q F1 O1 H1 w y e1 S1 rw k⟩
theorem evp_propO {C : Addr} {k : Nat} {e : Expr} {f fld : Str} {pos : Pos} {P : Hp → OW → D → Prop} (cl : Cls X.K C) (G : Getter X.K C f fld) (hr : Room k X.A) (hk : 2 ≤ k)
    (h : EvP X Z e F O ρ fun F1 O1 d => ∃ (j : Nat) (p dx : Addr) (fs : List (Str × D)) (y : D), d = .raw (.ref p) ∧ O1[j]? = some (p, .ins C dx fs) ∧ fs.lookup fld = some y ∧ P F1 O1 y) (hb : attributeBase e f X.env (eval e X.env) = eval e X.env := by rfl) : EvP X Z (.Attribute e f pos) F O ρ P := by
  obtain ⟨p, g, fd, hp, bn, Fn⟩ := G.ex
  refine .mk fun T σ H S Q q => canE_of (pe_prop (dvs := []) (E := E0) pe_can cl hp (Fn _ _ _ _) (hr.mono hk) bn .nil passL hb) ?_
  refine h T σ H S _ fun F1 O1 H1 v d e1 S1 r1 ⟨j, p, dx, fs, y, ed, hj, hl, k⟩ => ?_
  subst ed
  cases r1
  obtain ⟨_, gs, hH, hr⟩ := S1.a.own _ (List.mem_of_getElem? hj)
  obtain ⟨w, hw, rw⟩ := hr.lookup hl
  exact ⟨p, dx, gs, rfl, hH, p, dx, gs, w, rfl, hH, hw, q F1 O1 H1 w y e1 S1 rw k⟩
end
end CR
namespace CR
open PySem PySem.Spec PyProof.Rows L2
/-! own classes, further: == and len by own defs, own methods of own instances, pop, two fields set in one go -/
inductive EqTy (K : PySem.W.Frag) (C : Addr) : D → Prop
  | ins (fs : List (Str × D)) : EqTy K C (.ins C fs)
  | tup (xs : List D) : PySem.W.subIn K (.type "tuple") (.ref C) = some false → EqTy K C (.tup xs)
section
variable {X : Cx} {Z : ZP} {F : Hp} {O : OW} {ρ : Rho}
theorem EqTy.look {C : Addr} {y : D} (t : EqTy X.K C y) {H : Hp} {u : V} {u' : Value} {pins : List (Addr × Obj)} {σ : L2.St} {s : Shared} (e : Same F H) (r : Is X.K F u y) (I : Inv X pins σ H s) (ru : RelV u u') :
    ∃ tb, PySem.W.Looks (model X.prog X.w) s.heap (typeOf u') tb ∧ PySem.W.notFirst X.K C tb = true := by
  cases t with
  | ins fs =>
    cases r with
    | ins hF hr =>
      cases ru
      obtain ⟨mA, J, _⟩ := ins_get I.hok (e _ _ hF)
      obtain ⟨od, J, _⟩ := J.look
      exact ⟨_, J.type, by simp [PySem.W.notFirst]⟩
  | tup xs hn =>
    cases r with
    | tup hF hr =>
      cases ru
      obtain ⟨its, _, ht, _⟩ := I.tuple (sqT_mono e hF)
      obtain ⟨⟨cls, dd, data, sl⟩, ho, hc, n, hd⟩ := ht
      exact ⟨.type "tuple", fun A Q E s k q => wpAny_typeOf_ref (k _ _ ho) (by rw [hc]; exact q), by simp [PySem.W.notFirst, hn]⟩
/-- x == y, x of an own class with an own __eq__ -/
theorem opd_eqo {C f : Addr} {k k' : Nat} {ps : List Str} {S : Spec} {fs : List (Str × D)} {y : D} {P : Hp → D → Prop} (M : Meth X.K C "__eq__" f) (G : Fa X.prog X.w X.K X.mg X.base f k ps S) (hr : Room k' X.A) (hk : k ≤ k') (hy : EqTy X.K C y)
    (h : ∀ O, S.s F O [.ins C fs, y] (fun F2 O2 d => O2 = O ∧ (∃ b, d = .bl b) ∧ P F2 d) (fun _ _ _ _ => False)) : OpD X (compareOp .Eq) (.ins C fs) y F P := by
  intro O H v u St hv hu Q q pins s σ v' u' I rv ru
  obtain ⟨fd, Fn, kp, bn⟩ := G
  cases hv with
  | @ins a _ _ _ _ hF hr0 =>
    cases rv
    have ha := St.ex _ _ hF
    obtain ⟨mA, J, _⟩ := ins_get I.hok ha
    obtain ⟨od, J, _⟩ := J.look
    obtain ⟨m, hFr⟩ := I.fr
    obtain ⟨tb, look, nf⟩ := hy.look St.ex hu I ru
    have hsp : spD X.K S [.ref a, u] H (fun v H' => (∃ b, v = .bl b) ∧ Q v H') E0 := ⟨F, O, _, St, .cons (.ins hF hr0) (.cons hu .nil), S.mono _ _ _ _ _ _ _ (fun F2 O2 d e hp e' v H2 S2 r2 => by
      obtain ⟨rfl, ⟨b, rfl⟩, hp⟩ := hp
      cases r2
      exact ⟨⟨b, rfl⟩, q F2 H2 _ _ e S2 (.bl b) hp⟩) (fun F2 O2 c fs e z => z.elim) (h O)⟩
    show wpAny (model X.prog X.w) X.A (richCompare .Eq (.ref a) u') (EP X pins σ Q) X.xe s
    refine PySem.W.cmp_K (op := .Eq) (tb := tb) hr.units0 hFr I.ok.mod.kin J look nf M.at_ M.fn ?_
    have r2 : Vals [V.ref a, u] [Value.ref a, u'] := .cons rfl (.cons ru .nil)
    have hl := Fn.len _ _ _ _ hsp
    have b := bn s [Value.ref a, u'] I.kIn (by simpa using hl)
    rw [List.append_nil] at b
    refine wpAny_call (codeAny_mono (Fn.run X.A X.stack s H ⟨[Value.ref a, u'], []⟩ _ _ _ E0 (hr.mono hk) I.env0 b r2 hsp) fun r s' hq => ?_)
    cases r with
    | error e => exact passL pins σ H s e s' I hq
    | ok fl =>
      cases fl with
      | ret w =>
        obtain ⟨z, H', I', rz, ⟨b, ez⟩, qz⟩ := I.after hq
        subst ez
        cases rz
        exact ⟨.bl b, H', I', rfl, qz⟩
      | next => exact False.elim hq
      | brk => exact False.elim hq
      | cont => exact False.elim hq
/-- len(x), x our own instance of an own class with an own __len__ -/
theorem calld_lenC {C f : Addr} {k k' : Nat} {ps : List Str} {S : Spec} {j : Nat} {p dx : Addr} {fs : List (Str × D)} {P : Hp → D → Prop} (M : Meth X.K C "__len__" f) (G : Fa X.prog X.w X.K X.mg X.base f k ps S) (hr : Room k' X.A) (hk : k + 1 ≤ k')
    (hj : O[j]? = some (p, .ins C dx fs)) (h : S.s F O [.raw (.ref p)] (fun F2 O2 d => O2 = O ∧ (∃ n : Nat, d = .int n ∧ n < 2 ^ 62) ∧ P F2 d) (fun _ _ _ _ => False)) : CallD X (.builtin "len") [.raw (.ref p)] F O P := by
  intro H vs St hvs Q q pins s σ us I r
  obtain ⟨v, rfl, r0⟩ := isAll1 hvs
  cases r0
  obtain ⟨u, rfl, rx⟩ := vals1 r
  cases rx
  obtain ⟨fd, Fn, kp, bn⟩ := G
  obtain ⟨_, gs, ha, _⟩ := St.own _ (List.mem_of_getElem? hj)
  obtain ⟨mA, J, _⟩ := ins_get I.hok ha
  obtain ⟨od, J, _⟩ := J.look
  obtain ⟨m, hFr⟩ := I.fr
  have hsp : spD X.K S [.ref p] H (fun v H' => (∃ n : Nat, v = .int n ∧ n < 2 ^ 62) ∧ Q v H') E0 := ⟨F, O, _, St, .cons (.raw _) .nil, S.mono _ _ _ _ _ _ _ (fun F2 O2 d e hp e' v H2 S2 r2 => by
    obtain ⟨rfl, ⟨n, rfl, hn⟩, hp⟩ := hp
    cases r2
    exact ⟨⟨n, rfl, hn⟩, q F2 H2 _ _ e S2 (.int n) hp⟩) (fun F2 O2 c fs e z => z.elim) h⟩
  refine PySem.W.len_K hFr I.ok.mod.kin J M.at_ M.fn ?_
  have r2 : Vals [V.ref p] [Value.ref p] := .cons rfl .nil
  have hl := Fn.len _ _ _ _ hsp
  have b := bn s [Value.ref p] I.kIn (by simpa using hl)
  rw [List.append_nil] at b
  refine wpAny_call (codeAny_mono (Fn.run X.A.in1 X.stack s H ⟨[Value.ref p], []⟩ _ _ _ E0 (hr.mono hk).in1 I.env0.in1 b r2 hsp) fun r s' hq => ?_)
  cases r with
  | error e => exact passL pins σ H s e s' I hq
  | ok fl =>
    cases fl with
    | ret w =>
      obtain ⟨z, H', I', rz, ⟨n, ez, hn⟩, qz⟩ := I.after hq
      subst ez
      obtain ⟨t, rfl⟩ := (show ∃ t, w = Value.int n t from rz)
      exact ⟨⟨by omega, by omega⟩, .int n, H', I'.tok _, ⟨_, rfl⟩, qz⟩
    | next => exact False.elim hq
    | brk => exact False.elim hq
    | cont => exact False.elim hq
def tMethZ (C : Addr) (m : Str) (sp : Sp) (E : L2.St → XK) (ta : TE) (t : TA) : TE := fun σ H Q => ta σ H fun x H1 => ∃ a dx fs, x = .ref a ∧ H1 a = some (.ins C dx fs) ∧ fs.lookup m = none ∧ t σ H1 fun vs H2 => sp (.ref a :: vs) H2 Q (E σ)
theorem pe_methZ {k : Nat} {f C : Addr} {fd : FuncData} {ps : List Str} {sp : Sp} {E : L2.St → XK} {m : Str} {o e : Expr} {es : List Expr} {apos pos : Pos} {ta : TE} {t : TA} {pl : Sem Bool} (he : PE X o ta) (c : Cls X.K C) (hm : Meth X.K C m f)
    (F : FnOk X.prog X.w X.K X.mg X.base (L2.CX X.prog X.w) k f fd ps sp) (hr : Room k X.A) (hb : Binds X.K fd ps []) (hx : ∀ σ, PassesAt (L2.CX X.prog X.w) X σ (E σ)) (ha : PA X (e :: es) t)
    (hst : starEach (e :: es) X.env = (false, eval e X.env) :: starEach es X.env := by rfl) (hpl : (backTo pos (starEach es X.env)).any (·.1) = false := by rfl)
    (ht : eval (.Call (.Attribute o m apos) (e :: es) [] pos) X.env = (do
      let ov ← eval o X.env
      standAt apos.atName
      let (f, first) ← holding [ov] (getMethod ov m pl)
      callWith pos f first (backTo pos (starEach (e :: es) X.env)) (backToKw pos (keywordEach [] X.env))) := by rfl) :
    PE X (.Call (.Attribute o m apos) (e :: es) [] pos) (tMethZ C m sp E ta t) := by
  refine ⟨fun pins s σ H Q I h => ?_⟩
  refine PySem.W.methodCall_KW (pl := pl) (thn (he.run pins s σ H _ I h) fun u s1 ⟨x, H1, I1, rx, a, dx, fs, ex, ea, l, q⟩ => ?_) ht
  subst ex
  obtain rfl : u = Value.ref a := rx
  refine getmeth_ok I1 ea c hm l ?_
  refine PySem.W.callWith_K (first := [.ref a]) (h₀ := X.base) I.ok.mod.kin hm.kp (thn (ha.run pos pins s1 σ H1 _ I1 q) fun us s2 ⟨vs, H2, I2, r, q2⟩ => ⟨I2.kIn, ?_⟩) hst hpl
  exact run_fnS (us := .ref a :: us) (vs := .ref a :: vs) F hr hb (hx σ) I2 (.cons rfl r) q2
theorem pe_methZ0 {k : Nat} {f C : Addr} {fd : FuncData} {ps : List Str} {sp : Sp} {E : L2.St → XK} {m : Str} {o : Expr} {apos pos : Pos} {ta : TE} {pl : Sem Bool} (he : PE X o ta) (c : Cls X.K C) (hm : Meth X.K C m f)
    (F : FnOk X.prog X.w X.K X.mg X.base (L2.CX X.prog X.w) k f fd ps sp) (hr : Room k X.A) (hb : Binds X.K fd ps []) (hx : ∀ σ, PassesAt (L2.CX X.prog X.w) X σ (E σ))
    (ht : eval (.Call (.Attribute o m apos) [] [] pos) X.env = (do
      let ov ← eval o X.env
      standAt apos.atName
      let (f, first) ← holding [ov] (getMethod ov m pl)
      callWith pos f first (backTo pos (starEach [] X.env)) (backToKw pos (keywordEach [] X.env))) := by rfl) :
    PE X (.Call (.Attribute o m apos) [] [] pos) (tMethZ C m sp E ta tNil) := by
  refine ⟨fun pins s σ H Q I h => ?_⟩
  refine PySem.W.methodCall_KW (pl := pl) (thn (he.run pins s σ H _ I h) fun u s1 ⟨x, H1, I1, rx, a, dx, fs, ex, ea, l, q⟩ => ?_) ht
  subst ex
  obtain rfl : u = Value.ref a := rx
  refine getmeth_ok I1 ea c hm l ?_
  exact PySem.W.callWith_K0 (first := [.ref a]) I1.kIn hm.kp (run_fnS (us := [.ref a]) (vs := [.ref a]) F hr hb (hx σ) I1 (.cons rfl .nil) q)
theorem isFs_none {K : PySem.W.Frag} {F : Hp} {gs : List (Str × V)} {fs : List (Str × D)} {m : Str} (r : IsFs K F gs fs) (h : fs.lookup m = none) : gs.lookup m = none := r.lookupN h
/-- o.m(e, ..), o our own instance of an own class -/
theorem evp_ownM {C f : Addr} {k k' : Nat} {ps : List Str} {S : Spec} {m : Str} {o e : Expr} {es : List Expr} {apos pos : Pos} {pl : Sem Bool} {P : Hp → OW → D → Prop} (cl : Cls X.K C) (M : Meth X.K C m f) (G : Fa X.prog X.w X.K X.mg X.base f k ps S) (hr : Room k' X.A) (hk : k ≤ k')
    (h : EvP X Z o F O ρ fun F1 O1 d => ∃ (j : Nat) (p dx : Addr) (fs : List (Str × D)), d = .raw (.ref p) ∧ O1[j]? = some (p, .ins C dx fs) ∧ fs.lookup m = none ∧ ArP X Z (e :: es) F1 O1 ρ fun F2 O2 ds => S.s F2 O2 (.raw (.ref p) :: ds) P fun F3 O3 cls fs => Z F3 O3 ρ cls fs)
    (hst : starEach (e :: es) X.env = (false, eval e X.env) :: starEach es X.env := by rfl) (hpl : (backTo pos (starEach es X.env)).any (·.1) = false := by rfl)
    (ht : eval (.Call (.Attribute o m apos) (e :: es) [] pos) X.env = (do
      let ov ← eval o X.env
      standAt apos.atName
      let (f, first) ← holding [ov] (getMethod ov m pl)
      callWith pos f first (backTo pos (starEach (e :: es) X.env)) (backToKw pos (keywordEach [] X.env))) := by rfl) : EvP X Z (.Call (.Attribute o m apos) (e :: es) [] pos) F O ρ P := by
  obtain ⟨fd, Fn, kp, bn⟩ := G
  refine .mk fun T σ H S0 Q q => canE_of (pe_methZ (pl := pl) (E := fun σ => WE (wz X.K F Z) σ) pe_can cl M Fn (hr.mono hk) bn (fun σ => passAt T σ) pa_can hst hpl ht) (h T σ H S0 _ fun F1 O1 H1 v d e1 S1 r1 ⟨j, p, dx, fs, ed, hj, hl, ar⟩ => by
    subst ed
    cases r1
    obtain ⟨_, gs, hH, hrs⟩ := S1.a.own _ (List.mem_of_getElem? hj)
    refine ⟨p, dx, gs, rfl, hH, isFs_none hrs hl, ar (tkm T e1) σ H1 S1 _ fun F2 O2 H2 vs ds e2 S2 r2 hs => ?_⟩
    exact spD_E (fun _ _ _ => WE_mono (e1.trans e2)) (spD_at S2 (.cons (.raw _) r2) hs fun F3 O3 H3 v3 d3 e3 => q F3 O3 H3 v3 d3 ((e1.trans e2).trans e3)))
theorem evp_ownM0 {C f : Addr} {k k' : Nat} {ps : List Str} {S : Spec} {m : Str} {o : Expr} {apos pos : Pos} {pl : Sem Bool} {P : Hp → OW → D → Prop} (cl : Cls X.K C) (M : Meth X.K C m f) (G : Fa X.prog X.w X.K X.mg X.base f k ps S) (hr : Room k' X.A) (hk : k ≤ k')
    (h : EvP X Z o F O ρ fun F1 O1 d => ∃ (j : Nat) (p dx : Addr) (fs : List (Str × D)), d = .raw (.ref p) ∧ O1[j]? = some (p, .ins C dx fs) ∧ fs.lookup m = none ∧ S.s F1 O1 [.raw (.ref p)] P fun F3 O3 cls fs => Z F3 O3 ρ cls fs)
    (ht : eval (.Call (.Attribute o m apos) [] [] pos) X.env = (do
      let ov ← eval o X.env
      standAt apos.atName
      let (f, first) ← holding [ov] (getMethod ov m pl)
      callWith pos f first (backTo pos (starEach [] X.env)) (backToKw pos (keywordEach [] X.env))) := by rfl) : EvP X Z (.Call (.Attribute o m apos) [] [] pos) F O ρ P := by
  obtain ⟨fd, Fn, kp, bn⟩ := G
  refine .mk fun T σ H S0 Q q => canE_of (pe_methZ0 (pl := pl) (E := fun σ => WE (wz X.K F Z) σ) pe_can cl M Fn (hr.mono hk) bn (fun σ => passAt T σ) ht) (h T σ H S0 _ fun F1 O1 H1 v d e1 S1 r1 ⟨j, p, dx, fs, ed, hj, hl, hs⟩ => by
    subst ed
    cases r1
    obtain ⟨_, gs, hH, hrs⟩ := S1.a.own _ (List.mem_of_getElem? hj)
    refine ⟨p, dx, gs, rfl, hH, isFs_none hrs hl, ?_⟩
    exact spD_E (fun _ _ _ => WE_mono e1) (spD_at S1 (.cons (.raw _) .nil) hs fun F3 O3 H3 v3 d3 e3 => q F3 O3 H3 v3 d3 (e1.trans e3)))
/-- xs.pop(), xs our own -/
theorem mtd_pop {j : Nat} {p : Addr} {xs : List D} {d : D} {P : Hp → OW → D → Prop} (hj : O[j]? = some (p, .lst xs)) (hd : xs[xs.length - 1]? = some d) (h : P F (O.set j (p, .lst xs.dropLast)) d) : MtD X "list.pop" (.raw (.ref p)) [] F O P :=
  MtD.of mt_pop fun H v vs S hv hvs Q q => by
    cases hv
    cases hvs
    obtain ⟨_, ws, hH, hr⟩ := S.own _ (List.mem_of_getElem? hj)
    obtain ⟨y, hy, ry⟩ := hr.get hd
    rw [← hr.length] at hy
    exact ⟨p, ws, y, rfl, rfl, hH, hy, q F _ _ _ _ (Same.refl _) (S.set (e' := .lst xs.dropLast) hj ⟨_, upd_same, by
      rw [List.dropLast_eq_take, List.dropLast_eq_take, hr.length]
      exact hr.take _⟩) ry h⟩
theorem evp_pop {o : Expr} {ap cp : Pos} {P : Hp → OW → D → Prop} (h : EvP X Z o F O ρ fun F1 O1 x => ∃ (j : Nat) (p : Addr) (xs : List D) (d : D), x = .raw (.ref p) ∧ O1[j]? = some (p, .lst xs) ∧ xs[xs.length - 1]? = some d ∧ P F1 (O1.set j (p, .lst xs.dropLast)) d)
    (hbase : attributeBase o "pop" X.env (eval o X.env) = eval o X.env := by rfl) (hline : (ap.endLine == cp.line) = true := by rfl) : EvP X Z (.Call (.Attribute o "pop" ap) [] [] cp) F O ρ P :=
  evp_meth0 PySem.F.plainAttrs_list PySem.F.slot_list_pop PySem.F.type_list_pop (h.imp fun F1 O1 x _ ⟨j, p, xs, d, ex, hj, hd, k⟩ => by
    subst ex
    exact ⟨.own hj, mtd_pop hj hd k⟩) hbase hline
end
end CR
namespace CR
open PySem PySem.Spec PyProof.Rows L2
/-! tuple * int and list * int, any number -/
theorem tuple_mul1 (l : Addr) (items : Array Value) (n : Nat) (dd : Option Addr) (sl : Array (Option Value)) (u : Tok) :
    Meets (Builtin.«tuple.__mul__» ⟨[.ref l, .int 1 u], []⟩) (fun _ R s => s.heap.get? l = some { cls := .type "tuple", dict := dd, data := .seq items n, slots := sl } ∧ R (.ok (.ret (Value.ref l))) s) :=
  .of_wp fun prog w A R s h => by
    obtain ⟨hp, g, d, tk, os⟩ := s
    obtain ⟨hl, h⟩ := h
    have f1 := AutoSeq1.idx_int
    have c0 : (decide ((1 : Int) < -(2 ^ 63)) || decide ((1 : Int) ≥ 2 ^ 63)) = false := by decide
    have c1 : (items.isEmpty || (1 : Int) == 1) = true := by simp
    wp_walk using wpAny_loadPart' hl
    repeat (first
      | (refine wpAny_ite_false (decide_eq_false (by rw [c0]; exact Bool.false_ne_true)) ?_; wp_walk using wpAny_loadPart' hl)
      | (refine wpAny_ite_true (decide_eq_true (by rw [c1])) ?_; wp_walk using wpAny_loadPart' hl))
    exact ⟨_, rfl, h⟩
theorem tuple_mul0 (l : Addr) (items : Array Value) (n : Nat) (dd : Option Addr) (sl : Array (Option Value)) (x : Int) (u : Tok) (c0 : (decide (x < -(2 ^ 63)) || decide (x ≥ 2 ^ 63)) = false) (c1 : (items.isEmpty || x == 1) = false) (c2 : (decide (x ≤ 0) || items.isEmpty) = true) :
    Meets (Builtin.«tuple.__mul__» ⟨[.ref l, .int x u], []⟩) (fun _ R s => s.heap.get? l = some { cls := .type "tuple", dict := dd, data := .seq items n, slots := sl } ∧
      R (.ok (.ret (Value.ref s.heap.objs.size))) { s with heap := s.heap.push { cls := Value.type "tuple", data := Data.seq #[] }, toks := s.toks }) :=
  .of_wp fun prog w A R s h => by
    obtain ⟨hp, g, d, tk, os⟩ := s
    obtain ⟨hl, h⟩ := h
    have f1 := AutoSeq1.idx_int
    wp_walk using wpAny_loadPart' hl
    repeat (first
      | (refine wpAny_ite_false (decide_eq_false (by rw [c0]; exact Bool.false_ne_true)) ?_; wp_walk using wpAny_loadPart' hl)
      | (refine wpAny_ite_false (decide_eq_false (by rw [c1]; exact Bool.false_ne_true)) ?_; wp_walk using wpAny_loadPart' hl)
      | (refine wpAny_ite_true (decide_eq_true (by rw [c2])) ?_; wp_walk using wpAny_loadPart' hl))
    exact ⟨_, rfl, h⟩
section
variable {X : Cx} {F : Hp}
theorem op_repT1 : OpR X (binaryOp .Mult) (fun x y H Q => ∃ l xs, x = .ref l ∧ y = .int 1 ∧ SqT X.K H l xs ∧ Q (.ref l) H) := by
  intro pins s σ H x y v u Q I rx ry h
  obtain ⟨l, xs, rfl, rfl, hT, q⟩ := h
  cases rx
  obtain ⟨t, rfl⟩ := ry
  obtain ⟨its, r, ⟨⟨cls, dd, data, sl⟩, ho, hc, n, hd⟩, hs⟩ := I.tuple hT
  simp only at hc hd
  subst hc hd
  refine wpAny_binaryOp_repeat_ref (T := "tuple") (U := "int") (by decide) ⟨_, ho, rfl⟩ (fun s' => typeIs_int s' 1 t) noFill_tuple_mul F.fills_int_mul F.slot_int_rmul repeat_tuple F.slot_int_index.lookup
    (call_meets F.slot_int_rmul (typeIs_int s 1 t) F.entry_int_rmul (F.args_int_rmul_2 _ _) (int_rmul_tuple 1 t l its.toArray n dd sl)
      ⟨ho, rfl, ⟨_, ho, rfl⟩, call_meets F.slot_tuple_mul ⟨_, ho, rfl⟩ F.entry_tuple_mul (F.args_tuple_mul_2 _ _) (tuple_mul1 l its.toArray n dd sl t) ⟨ho, ?_⟩⟩)
  exact ⟨.ref l, H, I, rfl, q⟩
theorem op_repT0 : OpR X (binaryOp .Mult) (fun x y H Q => ∃ l k xs, x = .ref l ∧ y = .int k ∧ SqT X.K H l xs ∧ xs ≠ [] ∧ k ≤ 0 ∧ -(2 ^ 62) ≤ k ∧ ∀ p, H p = none → Q (.ref p) (upd H p (.tup []))) := by
  intro pins s σ H x y v u Q I rx ry h
  obtain ⟨l, k, xs, rfl, rfl, hT, hne, h1, h2, q⟩ := h
  cases rx
  obtain ⟨t, rfl⟩ := ry
  obtain ⟨its, r, ⟨⟨cls, dd, data, sl⟩, ho, hc, n, hd⟩, hs⟩ := I.tuple hT
  simp only at hc hd
  subst hc hd
  have hle : its.length = xs.length := r.length.symm
  have hn : its ≠ [] := fun e => hne (by
    rw [e] at hle
    exact List.eq_nil_of_length_eq_zero hle.symm)
  have hi : its.toArray.isEmpty = false := by
    cases its with
    | nil => exact absurd rfl hn
    | cons a b => rfl
  have c0 : (decide (k < -(2 ^ 63)) || decide (k ≥ 2 ^ 63)) = false := by
    rw [decide_eq_false (by omega), decide_eq_false (by omega)] <;> rfl
  have c1 : (its.toArray.isEmpty || k == 1) = false := by
    rw [hi, Bool.false_or]
    exact beq_eq_false_iff_ne.mpr (by omega)
  have c2 : (decide (k ≤ 0) || its.toArray.isEmpty) = true := by
    rw [decide_eq_true h1] <;> rfl
  refine wpAny_binaryOp_repeat_ref (T := "tuple") (U := "int") (by decide) ⟨_, ho, rfl⟩ (fun s' => typeIs_int s' k t) noFill_tuple_mul F.fills_int_mul F.slot_int_rmul repeat_tuple F.slot_int_index.lookup
    (call_meets F.slot_int_rmul (typeIs_int s k t) F.entry_int_rmul (F.args_int_rmul_2 _ _) (int_rmul_tuple k t l its.toArray n dd sl)
      ⟨ho, rfl, ⟨_, ho, rfl⟩, call_meets F.slot_tuple_mul ⟨_, ho, rfl⟩ F.entry_tuple_mul (F.args_tuple_mul_2 _ _) (tuple_mul0 l its.toArray n dd sl k t c0 c1 c2) ⟨ho, ?_⟩⟩)
  refine ⟨.ref s.heap.objs.size, _, I.laid (t' := s.toks) (o := .tup []) (fun b ob q => Heap.get?_push_of_some _ q) (Nat.le_refl _) ?_, rfl, q _ (I.hok.fresh (Nat.le_refl _))⟩
  exact ⟨by rw [sizeLine_eq]; exact Nat.zero_le _, [], .nil, IsTup.new _ _⟩
def repD (xs : List D) (k : Int) : List D := (List.replicate k.toNat xs).flatten
theorem opd_repA {xs : List D} {k : Int} {P : Hp → D → Prop} (h0 : xs ≠ []) (h1 : -(2 ^ 62) ≤ k) (h2 : k ≤ 1000) (hl : xs.length ≤ 1000) (h : ∀ F2, Same F F2 → P F2 (.tup (repD xs k))) : OpD X (binaryOp .Mult) (.tup xs) (.int k) F P := by
  by_cases e1 : k = 1
  · subst e1
    refine OpD.of op_repT1 fun O H v u S hv hu Q q => ?_
    cases hu
    cases hv with
    | tup ha hr =>
      refine ⟨_, _, rfl, rfl, sqT_mono S.ex ha, q F H _ (.tup xs) (Same.refl _) S (.tup ha hr) ?_⟩
      have := h F (Same.refl _)
      unfold repD at this
      rw [show (1 : Int).toNat = 1 from rfl, List.replicate_one, List.flatten_cons, List.flatten_nil, List.append_nil] at this
      exact this
  · by_cases e0 : k ≤ 0
    · refine OpD.of op_repT0 fun O H v u S hv hu Q q => ?_
      cases hu
      cases hv with
      | tup ha hr =>
        refine ⟨_, _, _, rfl, rfl, sqT_mono S.ex ha, fun e => h0 (by subst e; cases hr; rfl), e0, h1, fun p np => ?_⟩
        have e2 : Same F (upd F p (.tup [])) := same_new (S.neF np)
        have := h _ e2
        unfold repD at this
        rw [show k.toNat = 0 by omega] at this
        exact q _ _ _ (.tup []) e2 (S.new np) (.tup (.inl (.inl upd_same)) .nil) this
    · exact opd_repT h0 (by omega) h2 hl h
/-- list * int -/
theorem opd_repL {xs : List D} {k : Int} {P : Hp → D → Prop} (h1 : -(2 ^ 62) ≤ k) (h2 : k < 2 ^ 62) (hl : xs.length * k.toNat ≤ sizeLine) (h : ∀ F2, Same F F2 → P F2 (.lst (repD xs k))) : OpD X (binaryOp .Mult) (.lst xs) (.int k) F P := OpD.of op_rep fun O H v u S hv hu Q q => by
  cases hu
  cases hv with
  | lst ha hr =>
    refine ⟨_, _, _, rfl, rfl, S.ex _ _ ha, by omega, by omega, by rw [hr.length]; exact hl, fun p np => ?_⟩
    exact q _ _ _ (.lst (repD xs k)) (same_new (S.neF np)) (S.new np) (.lst upd_same ((hr.rep _).mono (same_new (S.neF np)))) (h _ (same_new (S.neF np)))
end
section
variable {X : Cx} {Z : ZP} {F : Hp} {O : OW} {ρ : Rho}
theorem isAll4 {K : PySem.W.Frag} {F : Hp} {vs : List V} {x y z w : D} (h : IsAll K F vs [x, y, z, w]) : ∃ a b c d, vs = [a, b, c, d] ∧ Is K F a x ∧ Is K F b y ∧ Is K F c z ∧ Is K F d w := by
  cases h with
  | cons r t =>
    cases t with
    | cons r2 t2 =>
      cases t2 with
      | cons r3 t3 =>
        cases t3 with
        | cons r4 t4 => cases t4; exact ⟨_, _, _, _, rfl, r, r2, r3, r4⟩
/-- x, y, z, w = a tuple of four -/
theorem wp_unp4 {i j l m : Nat} {x y z w : Str} {e : Expr} {px py pz pw pt pos : Pos} {kt : Nat} {N : Post} (h : EvP X Z e F O ρ fun F1 O1 d => ∃ a b c d', d = .tup [a, b, c, d'] ∧ N.nx F1 O1 ((((ρ.set i (some a)).set j (some b)).set l (some c)).set m (some d'))) (hc : X.calm = true) (hN : X.N.Nodup)
    (hi : X.N[i]? = some x := by rfl) (hj : X.N[j]? = some y := by rfl) (hl : X.N[l]? = some z := by rfl) (hm : X.N[m]? = some w := by rfl) (hx : Loc X.env.scope x := by first | exact Or.inl rfl | exact Or.inr rfl) (hy : Loc X.env.scope y := by first | exact Or.inl rfl | exact Or.inr rfl) (hz : Loc X.env.scope z := by first | exact Or.inl rfl | exact Or.inr rfl) (hw0 : Loc X.env.scope w := by first | exact Or.inl rfl | exact Or.inr rfl)
    (hf : X.fn x = true ∨ X.env.scope.names.lookup x = some .local := by first | exact .inl rfl | exact .inr rfl | assumption) (hf2 : X.fn y = true ∨ X.env.scope.names.lookup y = some .local := by first | exact .inl rfl | exact .inr rfl | assumption) (hf3 : X.fn z = true ∨ X.env.scope.names.lookup z = some .local := by first | exact .inl rfl | exact .inr rfl | assumption) (hf4 : X.fn w = true ∨ X.env.scope.names.lookup w = some .local := by first | exact .inl rfl | exact .inr rfl | assumption)
    (hn : (assignEach [.Name x px, .Name y py, .Name z pz, .Name w pw] X.env).length = 4 := by rfl) (hst : (assignEach [.Name x px, .Name y py, .Name z pz, .Name w pw] X.env).findIdx? (·.1) = none := by rfl)
    (ht1 : (assignEach [.Name x px, .Name y py, .Name z pz, .Name w pw] X.env).map (·.2) = assign (.Name x px) X.env :: (assignEach [.Name y py, .Name z pz, .Name w pw] X.env).map (·.2) := by rfl) (ht2 : (assignEach [.Name y py, .Name z pz, .Name w pw] X.env).map (·.2) = assign (.Name y py) X.env :: (assignEach [.Name z pz, .Name w pw] X.env).map (·.2) := by rfl) (ht3 : (assignEach [.Name z pz, .Name w pw] X.env).map (·.2) = assign (.Name z pz) X.env :: (assignEach [.Name w pw] X.env).map (·.2) := by rfl) (ht4 : (assignEach [.Name w pw] X.env).map (·.2) = assign (.Name w pw) X.env :: (assignEach [] X.env).map (·.2) := by rfl)
    (hs : swapsWithSole [.Tuple [.Name x px, .Name y py, .Name z pz, .Name w pw] kt pt] e pos.line X.env = pure false := by rfl) (hw : swappedStores [.Tuple [.Name x px, .Name y py, .Name z pz, .Name w pw] kt pt] e X.env = pure none := by rfl)
    (h1 : (assignEach [.Tuple [.Name x px, .Name y py, .Name z pz, .Name w pw] kt pt] X.env).map (·.2) = [assign (.Tuple [.Name x px, .Name y py, .Name z pz, .Name w pw] kt pt) X.env] := by rfl) :
    Wp1 X Z (.Assign [.Tuple [.Name x px, .Name y py, .Name z pz, .Name w pw] kt pt] e pos) F O ρ N :=
  .mk fun T σ H S D E => canS_of (ps_asg pe_can (pg_tup hc (pgs_cons (pg_name hN hi hx hf) (pgs_cons (pg_name hN hj hy hf2) (pgs_cons (pg_name hN hl hz hf3) (pgs_cons (pg_name hN hm hw0 hf4) pgs_nil ht4) ht3) ht2) ht1) hn hst) hs hw h1)
    (h T σ H S _ fun F1 O1 H1 v d e1 S1 r1 ⟨a, b, c, d', ed, nx⟩ => by
      subst ed
      cases r1 with
      | tup ha hr =>
        obtain ⟨va, vb, vc, vd, rfl, ra, rb, rc, rd⟩ := isAll4 hr
        exact ⟨_, _, rfl, sqT_mono S1.a.ex ha, rfl, va, [vb, vc, vd], rfl, vb, [vc, vd], rfl, vc, [vd], rfl, vd, [], rfl, rfl, E.nx F1 O1 _ _ H1 e1 ⟨S1.a, (((S1.sig.set ra i).set rb j).set rc l).set rd m⟩ nx⟩)
end
end CR
namespace CR
open PySem PySem.Spec PyProof.Rows L2
/-! the order of our own objects does not matter; a property that gives a list field's last item; readers -/
theorem StA.perm {K : PySem.W.Frag} {F H : Hp} {O O' : OW} (S : StA K F O H) (p : O.Perm O') : StA K F O' H :=
  ⟨S.ex, fun x hx => S.own x (p.mem_iff.2 hx), (p.map (·.1)).nodup_iff.1 S.nd⟩
def permS (S : Spec) : Spec where
  s := fun F O ds RT XC => ∃ O', O.Perm O' ∧ S.s F O' ds (fun F2 O2 d => ∃ O3, O2.Perm O3 ∧ RT F2 O3 d) (fun F2 O2 c fs => ∃ O3, O2.Perm O3 ∧ XC F2 O3 c fs)
  mono := fun F O ds RT XC RT' XC' h1 h2 ⟨O', p, s⟩ => ⟨O', p, S.mono _ _ _ _ _ _ _ (fun F2 O2 d e ⟨O3, q, r⟩ => ⟨O3, q, h1 _ _ _ e r⟩) (fun F2 O2 c fs e ⟨O3, q, r⟩ => ⟨O3, q, h2 _ _ _ _ e r⟩) s⟩
theorem Fa.perm {P : Program} {w : World} {K : PySem.W.Frag} {mg : Str → Option Value} {base : Heap} {f : Addr} {k : Nat} {ps : List Str} {S : Spec} (h : Fa P w K mg base f k ps S) : Fa P w K mg base f k ps (permS S) := by
  obtain ⟨fd, Fn, kp, bn⟩ := h
  refine ⟨fd, Fn.imp ?_, kp, bn⟩
  rintro vs H Q E ⟨F, O, ds, St, r, O', p, s⟩
  exact ⟨F, O', ds, St.perm p, r, S.mono _ _ _ _ _ _ _ (fun F2 O2 d e ⟨O3, q, k⟩ e2 v H2 S2 r2 => k e2 v H2 (S2.perm q) r2) (fun F2 O2 c fs e ⟨O3, q, k⟩ e2 dd H2 S2 f2 => k e2 dd H2 (S2.perm q) f2) s⟩
section
variable {X : Cx} {Z : ZP} {F : Hp} {O O' : OW} {ρ : Rho}
theorem EvP.perm {e : Expr} {P : Hp → OW → D → Prop} (h : EvP X Z e F O ρ fun F1 O1 d => ∃ O2, O1.Perm O2 ∧ P F1 O2 d) : EvP X Z e F O ρ P :=
  .mk fun T σ H S Q q => h T σ H S Q fun F1 O1 H1 v d e1 S1 r1 ⟨O2, p, k⟩ => q F1 O2 H1 v d e1 ⟨S1.a.perm p, S1.sig⟩ r1 k
end
theorem Fc.perm {P : Program} {w : World} {K : PySem.W.Frag} {mg : Str → Option Value} {base : Heap} {x : Str} {k : Nat} {ps : List Str} {S : Spec} (h : Fc P w K mg base x k ps S) : Fc P w K mg base x k ps (permS S) := by
  obtain ⟨f, gm, fd, Fn, kp, bn⟩ := h
  obtain ⟨fd2, a, b, c⟩ := Fa.perm (f := f) ⟨fd, Fn, kp, bn⟩
  exact ⟨f, gm, fd2, a, b, c⟩
/-- fewer of our own objects, in any order -/
def weakO (O O' : OW) : Prop := ∃ l : OW, O.Perm (l ++ O')
theorem weakO.refl (O : OW) : weakO O O := ⟨[], .refl _⟩
/-! a property: the last item of a list field -/
def lastSp (C : Addr) (f : Str) : Sp := fun vs H Q _ => ∃ a dx fs q xs v, vs = [.ref a] ∧ H a = some (.ins C dx fs) ∧ fs.lookup f = some (.ref q) ∧ H q = some (.lst xs) ∧ L2.atI xs (-1) = some v ∧ Q v H
structure LastGet (K : PySem.W.Frag) (C : Addr) (f fld : Str) : Prop where
  ex : ∃ p g fd, PropOf K C f p g ∧ Binds K fd ["self"] [] ∧ ∀ (P : Program) (w : World) (mg : Str → Option Value) (base : Heap), FnOk P w K mg base (L2.CX P w) 1 g fd ["self"] (lastSp C fld)
theorem evp_last {X : Cx} {Z : ZP} {F : Hp} {O : OW} {ρ : Rho} {C : Addr} {k : Nat} {e : Expr} {f fld : Str} {pos : Pos} {P : Hp → OW → D → Prop} (cl : Cls X.K C) (G : LastGet X.K C f fld) (hr : Room k X.A) (hk : 2 ≤ k)
    (h : EvP X Z e F O ρ fun F1 O1 d => ∃ (j : Nat) (p dx : Addr) (fs : List (Str × D)) (q : Addr) (j2 : Nat) (xs : List D) (y : D), d = .raw (.ref p) ∧ O1[j]? = some (p, .ins C dx fs) ∧ fs.lookup fld = some (.raw (.ref q)) ∧ O1[j2]? = some (q, .lst xs) ∧ L2.atI xs (-1) = some y ∧ P F1 O1 y) (hb : attributeBase e f X.env (eval e X.env) = eval e X.env := by rfl) : EvP X Z (.Attribute e f pos) F O ρ P := by
  obtain ⟨p, g, fd, hp, bn, Fn⟩ := G.ex
  refine .mk fun T σ H S Q q => canE_of (pe_prop (dvs := []) (E := E0) pe_can cl hp (Fn _ _ _ _) (hr.mono hk) bn .nil passL hb) ?_
  refine h T σ H S _ fun F1 O1 H1 v d e1 S1 r1 ⟨j, p, dx, fs, q', j2, xs, y, ed, hj, hl, hj2, hy, k⟩ => ?_
  subst ed
  cases r1
  obtain ⟨_, gs, hH, hr⟩ := S1.a.own _ (List.mem_of_getElem? hj)
  obtain ⟨_, vs, hH2, hr2⟩ := S1.a.own _ (List.mem_of_getElem? hj2)
  obtain ⟨w, hw, rw⟩ := hr.lookup hl
  cases rw
  obtain ⟨u, hu, ru⟩ := hr2.atI hy
  exact ⟨p, dx, gs, rfl, hH, p, dx, gs, q', vs, u, rfl, hH, hw, hH2, hu, q F1 O1 H1 u y e1 S1 ru k⟩
/-! readers -/
def szsM (ts : List Int) : List Int := (List.range (ts.length + 1)).map fun k => leastM (ts.take k)
theorem szsM_last (ts : List Int) : ∃ xs : List Int, szsM ts = xs ++ [leastM ts] := by
  refine ⟨(List.range ts.length).map fun k => leastM (ts.take k), ?_⟩
  unfold szsM
  rw [List.range_succ, List.map_append, List.map_singleton, List.take_length]
theorem szsM_at (ts : List Int) : L2.atI ((szsM ts).map D.int) (-1) = some (.int (leastM ts)) := by
  obtain ⟨xs, e⟩ := szsM_last ts
  rw [e, List.map_append]
  exact L2.atI_last _ _
end CR
namespace CR
open PySem PySem.Spec PyProof.Rows L2
/-! texts: one sign in a text, count, join, split, int; patterns -/
section
variable {X : Cx} {Z : ZP} {F : Hp} {O : OW} {ρ : Rho}
theorem ind_sign {c : Nat} {z : Str} {P : Bool → Prop} (h : P (decide (c ∈ z.cps.toList))) : InD X false (.str ⟨#[c]⟩) (.str z) F O P :=
  InD.of (neg := false) op_in_sign fun H v u S hv hu Q q => by
    cases hv
    cases hu
    exact ⟨c, z, rfl, rfl, q _ h⟩
theorem mtd_scount {a b : Str} {P : Hp → OW → D → Prop} (h : P F O (.int (Txt.count a b))) : MtD X "str.count" (.str a) [.str b] F O P := MtD.of mt_count fun H v vs S hv hvs Q q => by
  cases hv
  obtain ⟨u, rfl, r⟩ := isAll1 hvs
  cases r
  exact ⟨a, b, rfl, rfl, q F O H _ _ (Same.refl _) S (.int _) h⟩
theorem evp_scount {o e : Expr} {ap cp : Pos} {P : Hp → OW → D → Prop} (h : EvP X Z o F O ρ fun F1 O1 x => ∃ a, x = .str a ∧ EvP X Z e F1 O1 ρ fun F2 O2 y => ∃ b, y = .str b ∧ P F2 O2 (.int (Txt.count a b)))
    (hbase : attributeBase o "count" X.env (eval o X.env) = eval o X.env := by rfl)
    (hfew : ((backTo cp (starEach [e] X.env)).all (fun x => !x.1) && (backToKw cp (keywordEach [] X.env)).all (fun x => x.1.isSome) && decide ([e].length + ([] : List Keyword).length + (if ([] : List Keyword).isEmpty then 0 else 1) < 30)) = true := by rfl)
    (hline : (ap.endLine == cp.line) = true := by rfl) (hs : starEach [e] X.env = (false, eval e X.env) :: starEach [] X.env := by rfl) (hplain : (backTo cp (starEach [] X.env)).any (·.1) = false := by rfl) :
    EvP X Z (.Call (.Attribute o "count" ap) [e] [] cp) F O ρ P :=
  evp_meth (T := "count") PySem.F.plainAttrs_str PySem.F.slot_str_count PySem.F.type_str_count (h.imp fun F1 O1 x _ ⟨a, ex, k⟩ => by
    subst ex
    exact ⟨.str a, arp_cons (k.imp fun F2 O2 y _ ⟨b, ey, p⟩ => arp_nil (by subst ey; exact mtd_scount p)) hs⟩) hbase hfew hline hs hplain
theorem evp_join {o e : Expr} {ap cp : Pos} {P : Hp → OW → D → Prop} (h : EvP X Z o F O ρ fun F1 O1 x => ∃ a, x = .str a ∧ EvP X Z e F1 O1 ρ fun F2 O2 y => MtD X "str.join" (.str a) [y] F2 O2 P)
    (hbase : attributeBase o "join" X.env (eval o X.env) = eval o X.env := by rfl)
    (hfew : ((backTo cp (starEach [e] X.env)).all (fun x => !x.1) && (backToKw cp (keywordEach [] X.env)).all (fun x => x.1.isSome) && decide ([e].length + ([] : List Keyword).length + (if ([] : List Keyword).isEmpty then 0 else 1) < 30)) = true := by rfl)
    (hline : (ap.endLine == cp.line) = true := by rfl) (hs : starEach [e] X.env = (false, eval e X.env) :: starEach [] X.env := by rfl) (hplain : (backTo cp (starEach [] X.env)).any (·.1) = false := by rfl) :
    EvP X Z (.Call (.Attribute o "join" ap) [e] [] cp) F O ρ P :=
  evp_meth (T := "join") PySem.F.plainAttrs_str PySem.F.slot_str_join PySem.F.type_str_join (h.imp fun F1 O1 x _ ⟨a, ex, k⟩ => by
    subst ex
    exact ⟨.str a, arp_cons (k.imp fun F2 O2 y _ p => arp_nil p) hs⟩) hbase hfew hline hs hplain
theorem IsAll.of_strs {K : PySem.W.Frag} {F : Hp} : ∀ (ns : List Str), IsAll K F (ns.map V.str) (ns.map D.str)
  | [] => .nil
  | n :: ns => .cons (.str n) (IsAll.of_strs ns)
theorem mtd_split {a b : Str} {P : Hp → OW → D → Prop} (hb : (b.length == 0) = false) (hl : a.length + 2 ≤ sizeLine) (h : ∀ F2, Same F F2 → P F2 O (.lst ((Txt.split a b).map .str))) : MtD X "str.split" (.str a) [.str b] F O P := MtD.of mt_split fun H v vs S hv hvs Q q => by
  cases hv
  obtain ⟨u, rfl, r⟩ := isAll1 hvs
  cases r
  exact ⟨a, b, rfl, rfl, hb, hl, fun p np => q _ O _ _ (.lst _) (same_new (S.neF np)) (S.new np) (.lst upd_same (IsAll.of_strs _)) (h _ (same_new (S.neF np)))⟩
theorem evp_split {o e : Expr} {ap cp : Pos} {P : Hp → OW → D → Prop} (h : EvP X Z o F O ρ fun F1 O1 x => ∃ a, x = .str a ∧ EvP X Z e F1 O1 ρ fun F2 O2 y => ∃ b, y = .str b ∧ (b.length == 0) = false ∧ a.length + 2 ≤ sizeLine ∧ ∀ F3, Same F2 F3 → P F3 O2 (.lst ((Txt.split a b).map .str)))
    (hbase : attributeBase o "split" X.env (eval o X.env) = eval o X.env := by rfl)
    (hfew : ((backTo cp (starEach [e] X.env)).all (fun x => !x.1) && (backToKw cp (keywordEach [] X.env)).all (fun x => x.1.isSome) && decide ([e].length + ([] : List Keyword).length + (if ([] : List Keyword).isEmpty then 0 else 1) < 30)) = true := by rfl)
    (hline : (ap.endLine == cp.line) = true := by rfl) (hs : starEach [e] X.env = (false, eval e X.env) :: starEach [] X.env := by rfl) (hplain : (backTo cp (starEach [] X.env)).any (·.1) = false := by rfl) :
    EvP X Z (.Call (.Attribute o "split" ap) [e] [] cp) F O ρ P :=
  evp_meth (T := "split") PySem.F.plainAttrs_str PySem.F.slot_str_split PySem.F.type_str_split (h.imp fun F1 O1 x _ ⟨a, ex, k⟩ => by
    subst ex
    exact ⟨.str a, arp_cons (k.imp fun F2 O2 y _ ⟨b, ey, h1, h2, p⟩ => arp_nil (by subst ey; exact mtd_split h1 h2 p)) hs⟩) hbase hfew hline hs hplain
end
/-! ### patterns: each sign is a bit or open -/
end CR
namespace CR
open PySem PySem.Spec PyProof.Rows L2
/-! the least told bits of a list; what fits a pattern -/
theorem okD_tupIs (l : List (List Int)) : (l.map tupI).all (okD 8) = true := by
  rw [List.all_eq_true]
  intro d hd
  obtain ⟨t, _, rfl⟩ := List.mem_map.1 hd
  exact okD_ints 7 t
end CR
namespace CR
open PySem PySem.Spec PyProof.Rows L2
/-! list(a text), a text times a number, an own list in a comparison -/
theorem vals_signs {x : Str} {acc : Array Value} (h : ItemsOf (SignAt x) acc x.cps.size) : Vals (x.cps.toList.map fun c => V.str ⟨#[c]⟩) acc.toList := by
  obtain ⟨hs, hi⟩ := h
  have : ∀ (cs : List Nat) (us : List Value), cs.length = us.length → (∀ (j : Nat) (u : Value), us[j]? = some u → ∃ (c : Nat) (t : Tok), cs[j]? = some c ∧ u = Value.str ⟨#[c]⟩ t) → Vals (cs.map fun c => V.str ⟨#[c]⟩) us := by
    intro cs
    induction cs with
    | nil =>
      intro us hl _
      cases us with
      | nil => exact .nil
      | cons u us => cases hl
    | cons c cs ih =>
      intro us hl hg
      cases us with
      | nil => cases hl
      | cons u us =>
        obtain ⟨c', t, e1, e2⟩ := hg 0 u rfl
        cases e1
        refine .cons ⟨t, e2⟩ (ih us (by simpa using hl) fun j v hv => ?_)
        exact hg (j + 1) v hv
  refine this _ _ (by simp [hs]) fun j u hu => ?_
  obtain ⟨c, t, e1, e2⟩ := hi j u (by simpa using hu)
  exact ⟨c, t, by simpa using e1, e2⟩
theorem call_list_text {X : Cx} (hc : X.calm = true) : CallR X (.type "list") (fun xs H Q => ∃ z : Str, xs = [.str z] ∧ z.length ≤ sizeLine ∧ ∀ l, H l = none → Q (.ref l) (upd H l (.lst (z.cps.toList.map fun c => V.str ⟨#[c]⟩)))) := by
  intro pins s σ H xs us Q I r h
  obtain ⟨z, rfl, hz, q⟩ := h
  obtain ⟨u, rfl, t, rfl⟩ := vals1 r
  refine call_list_str (I.ok.hd hc) z t (fun h' tk acc c' kp e hi => ?_) hz
  have r' := vals_signs hi
  exact ⟨.ref s.heap.objs.size, _, I.laid (t' := tk) kp (Nat.le_refl _) (show ObjOk X.prog X.w _ h' _ (.lst _) from ⟨by rw [List.length_map, Array.length_toList]; exact hz, acc.toList, c', r', by rw [Array.toArray_toList]; exact e⟩), rfl, q _ (I.hok.fresh (Nat.le_refl _))⟩
def mulS (z : Str) (k : Int) : Str := if k < 1 then Str.empty else if (k == 1 || z.length == 0) = true then z else ⟨(List.replicate k.toNat z.cps).foldl (· ++ ·) #[]⟩
theorem rep_size (a : Array Nat) : ∀ (n : Nat) (b : Array Nat), ((List.replicate n a).foldl (· ++ ·) b).size = b.size + n * a.size
  | 0, b => by simp
  | n + 1, b => by
    rw [List.replicate_succ, List.foldl_cons, rep_size a n, Array.size_append, Nat.add_mul]
    omega
theorem op_mulS {X : Cx} : OpR X (binaryOp .Mult) (fun x y H Q => ∃ (z : Str) (k : Int), x = .str z ∧ y = .int k ∧ 2 ≤ k ∧ k ≤ 1000 ∧ 1 ≤ z.length ∧ z.length ≤ 1000 ∧ Q (.str (mulS z k)) H) := by
  intro pins s σ H x y v u Q I rx ry h
  obtain ⟨z, k, rfl, rfl, h1, h2, h3, h4, q⟩ := h
  obtain ⟨t, rfl⟩ := rx
  obtain ⟨t2, rfl⟩ := ry
  have g1 : ¬ k < 1 := by omega
  have g2 : (k == 1 || z.length == 0) = false := by
    rw [Bool.or_eq_false_iff, beq_eq_false_iff_ne, beq_eq_false_iff_ne]
    omega
  refine P.mul_str ?_ ?_ ?_ ?_
  · rw [decide_eq_false (by omega), decide_eq_false (by omega)]
    rfl
  · intro _ _ q
    have : (z.length : Int) ≤ (2 ^ 63 - 1) / k := by
      rw [Int.le_ediv_iff_mul_le (by omega)]
      have : (z.length : Int) * k ≤ 1000 * 1000 := Int.mul_le_mul (by omega) h2 (by omega) (by omega)
      omega
    omega
  · intro _ _
    have h5 : k.toNat ≤ 1000 := by omega
    have : z.length * k.toNat ≤ 1000 * 1000 := Nat.mul_le_mul h4 h5
    show decide (_ > sizeLine) = false
    rw [sizeLine_eq]
    exact decide_eq_false (by omega)
  · rw [if_neg g1, if_neg (by rw [g2]; decide)]
    have e : mulS z k = ⟨(List.replicate k.toNat z.cps).foldl (· ++ ·) #[]⟩ := by
      unfold mulS
      rw [if_neg g1, if_neg (by rw [g2]; decide)]
    rw [← e]
    refine ⟨?_, .str _, H, I.tok _, ⟨_, rfl⟩, q⟩
    rw [e, sizeLine_eq]
    show ((List.replicate k.toNat z.cps).foldl (· ++ ·) #[]).size ≤ _
    rw [rep_size]
    have h5 : k.toNat ≤ 1000 := by omega
    have : k.toNat * z.cps.size ≤ 1000 * 1000 := Nat.mul_le_mul h5 h4
    show 0 + _ ≤ _
    omega
section
variable {X : Cx} {Z : ZP} {F : Hp} {O : OW} {ρ : Rho}
theorem opd_mulS {z : Str} {k : Int} {P : Hp → D → Prop} (h : 2 ≤ k ∧ k ≤ 1000 ∧ 1 ≤ z.length ∧ z.length ≤ 1000) (q : P F (.str (mulS z k))) : OpD X (binaryOp .Mult) (.str z) (.int k) F P := OpD.of op_mulS fun O H v u S hv hu Q qq => by
  cases hv; cases hu
  exact ⟨z, k, rfl, rfl, h.1, h.2.1, h.2.2.1, h.2.2.2, qq F H _ _ (Same.refl _) S (.str _) q⟩
theorem calld_listS {z : Str} {P : Hp → D → Prop} (hc : X.calm = true) (hz : z.length ≤ sizeLine) (h : ∀ F2, Same F F2 → P F2 (.lst (signsD z))) : CallD X (.type "list") [.str z] F O P := CallD.of (call_list_text hc) fun H vs S hv Q q => by
  obtain ⟨v, rfl, r⟩ := isAll1 hv
  cases r
  refine ⟨z, rfl, hz, fun l hl => q _ _ _ (.lst (signsD z)) (same_new (S.neF hl)) (S.new hl) (.lst upd_same ?_) (h _ (same_new (S.neF hl)))⟩
  have := IsAll.of_strs (K := X.K) (F := upd F l (.lst (z.cps.toList.map fun c => V.str ⟨#[c]⟩))) (z.cps.toList.map fun c => (⟨#[c]⟩ : Str))
  rw [List.map_map, List.map_map] at this
  exact this
end
end CR
namespace CR
open PySem PySem.Spec PyProof.Rows L2
/-! a def that gives a list of own lists -/
theorem opd_catS {X : Cx} {F : Hp} {a b : Str} {P : Hp → D → Prop} (hl : a.length + b.length ≤ sizeLine) (h : P F (.str (a ++ b))) : OpD X (binaryOp .Add) (.str a) (.str b) F P := OpD.of op_add_str fun O H v u S hv hu Q q => by
  cases hv; cases hu
  exact ⟨a, b, rfl, rfl, hl, q F H _ _ (Same.refl _) S (.str _) h⟩
end CR
namespace CR
open PySem PySem.Spec PyProof.Rows L2
/-! numbers in texts -/
def partsS (z : Str) : List Str := Txt.split z ("/" : String)
/-! reading a fraction -/
def hdS (z : Str) : Str := (partsS z).headD ("" : String)
def minB (z : Str) : Bool := decide (cutS (hdS z) none (some 1) = ("-" : String))
def isL (z : Str) : Bool := minB z && !decide (hdS z = ("-0" : String))
end CR
namespace CR
open PySem PySem.Spec PyProof.Rows L2
/-! a tuple of which we know the object: its own method index -/
section
variable {X : Cx}
theorem flat_ints (ys : List Int) : (ys.map V.int).all flatV = true := by
  rw [List.all_map]
  exact List.all_eq_true.mpr fun _ _ => rfl
theorem mt_tup_indexI : MtR X "tuple.index" (fun x xs H Q => ∃ p, ∃ ys : List Int, ∃ z j, x = .ref p ∧ xs = [.int z] ∧ SqT X.K H p (ys.map V.int) ∧ ys[j]? = some z ∧ (∀ m, m < j → ys[m]? ≠ some z) ∧ Q (.int (j : Nat)) H) := by
  intro pins s σ H x xs v us Q I rx rs h
  obtain ⟨p, ys, z, j, rfl, rfl, hq, hy, hno, q⟩ := h
  cases rx
  obtain ⟨u, rfl, t, rfl⟩ := vals1 rs
  obtain ⟨its, r, pl, hz⟩ := I.tuple hq
  obtain ⟨⟨cls, dd, dt, sl⟩, ho, hc, n, hd⟩ := pl
  simp only at hc hd
  subst hc
  subst hd
  have hl : its.toArray.size = ys.length := by rw [List.size_toArray, ← r.length, List.length_map]
  have hj : j < its.toArray.size := by rw [hl]; exact (List.getElem?_eq_some_iff.mp hy).1
  have at' : ∀ (m : Nat) (hm : m < its.toArray.size), ∃ y t', ys[m]? = some y ∧ its.toArray[m] = Value.int y t' := fun m hm => by
    have hm' : m < ys.length := by rw [← hl]; exact hm
    obtain ⟨w, hw, t', hw'⟩ := r.get (i := m) (x := .int ys[m]) (by simp [hm'])
    refine ⟨ys[m], t', List.getElem?_eq_getElem hm', ?_⟩
    have e := (List.getElem?_eq_some_iff.mp hw).2
    rw [← hw', ← e]
    simp
  refine call_meets PySem.F.slot_tuple_index ⟨_, ho, rfl⟩ PySem.F.entry_tuple_index (PySem.F.args_tuple_index_2 _ _) (TI.tuple_indexAt p its.toArray n dd sl (.int z t) (eqU (.int z)) j hj ?_ ?_)
    ⟨ho, fun w hw => mem_eqAt (x := .int z) ⟨t, rfl⟩ rfl r (flat_ints ys) w (by simpa using hw), ⟨.int (j : Nat), H, I.tok _, ⟨_, rfl⟩, q⟩⟩
  · obtain ⟨y, t', h1, h2⟩ := at' j hj
    rw [hy] at h1
    cases h1
    rw [h2]
    show (z == z) = true
    exact beq_self_eq_true z
  · intro m hm hmj
    obtain ⟨y, t', h1, h2⟩ := at' m hm
    rw [h2]
    show (y == z) = false
    exact beq_eq_false_iff_ne.mpr fun e => hno m hmj (e ▸ h1)
variable {o e : Expr} {es : List Expr} {to : TE} {t : TA} {name : Str} {apos cpos : Pos} {id : String} {r : V → List V → Hp → VK → Prop}
end
/-- we know the tuple's object -/
def TupN (K : PySem.W.Frag) (F : Hp) (p : Addr) (ds : List D) : Prop := ∃ o vs, F p = some (.frz o (.tup vs)) ∧ o.dict = none ∧ IsAll K F vs ds
theorem TupN.mono {K : PySem.W.Frag} {F F' : Hp} {p : Addr} {ds : List D} (e : Same F F') (h : TupN K F p ds) : TupN K F' p ds := by
  obtain ⟨o, vs, a, b, c⟩ := h
  exact ⟨o, vs, e _ _ a, b, c.mono e⟩
theorem TupN.is {K : PySem.W.Frag} {F : Hp} {p : Addr} {ds : List D} (h : TupN K F p ds) : Is K F (.ref p) (.tup ds) := by
  obtain ⟨o, vs, a, b, c⟩ := h
  exact .tup (.inl (.inr ⟨o, a⟩)) c
/-- a def whose tuple is known -/
def outK (K : PySem.W.Frag) (mg : Str → Option Value) (r : Res) (F : Hp) (O : OW) (RT : Hp → OW → D → Prop) (XC : Hp → OW → Value → List (Str × D) → Prop) : Prop := match r with
  | .ret d => ∀ xs, d = .tup xs → ∀ F2 p, Same F F2 → TupN K F2 p xs → RT F2 O (.raw (.ref p))
  | .exc x fs => ∀ F2 c, Same F F2 → mg x = some c → XC F2 O c fs
theorem outK.mono {K : PySem.W.Frag} {mg : Str → Option Value} {r : Res} {F : Hp} {O : OW} {RT RT' : Hp → OW → D → Prop} {XC XC' : Hp → OW → Value → List (Str × D) → Prop} (h1 : ∀ F2 O2 d, Same F F2 → RT F2 O2 d → RT' F2 O2 d)
    (h2 : ∀ F2 O2 c fs, Same F F2 → XC F2 O2 c fs → XC' F2 O2 c fs) (h : outK K mg r F O RT XC) : outK K mg r F O RT' XC' := by
  cases r with
  | ret d => exact fun xs q F2 p e t => h1 _ _ _ e (h xs q F2 p e t)
  | exc x fs => exact fun F2 c e m => h2 _ _ _ _ e (h F2 c e m)
end CR
/-! Own dicts whose keys are tuples of numbers, each with True; sorted of many such tuples. -/
namespace CR
open PySem PySem.Spec PyProof.Rows L2
abbrev kT (P : Program) (w : World) := tupleKind (PySem.intKind P w)
abbrev rowB (p : Addr × List Int) : List Int × Addr × Value := (p.2, p.1, .bool true)
/-- the dict's own object -/
structure DicB (P : Program) (w : World) (h : Heap) (a : Addr) (L : List (Addr × List Int)) : Prop where
  few : L.length ≤ 4000
  lo : (a == sysModules) = false
  nd : (L.map (·.2)).Nodup
  ob : ∃ o es ep, h.get? a = some o ∧ o.ExactDict ∧ o.data = .dict es ep ∧ es.toList = (L.map rowB).map (entryOfKey (kT P w))
def DicBO (P : Program) (w : World) (a : Addr) (L : List (Addr × List Int)) : HO := .ext fun h => DicB P w h a L
/-- a further key -/
def addB (L : List (Addr × List Int)) (q : Addr × List Int) : List (Addr × List Int) := if q.2 ∈ L.map (·.2) then L else L ++ [q]
theorem addB_len (L : List (Addr × List Int)) (q : Addr × List Int) : (addB L q).length ≤ L.length + 1 := by
  unfold addB
  split
  · omega
  · rw [List.length_append]; exact Nat.le_refl _
theorem addB_foldLen : ∀ (M L : List (Addr × List Int)), (M.foldl addB L).length ≤ L.length + M.length
  | [], L => Nat.le_refl _
  | q :: M, L => by
    have := addB_foldLen M (addB L q)
    have := addB_len L q
    rw [List.foldl_cons, List.length_cons]
    omega
theorem rows_at : ∀ (L : List (Addr × List Int)) (k : List Int), (atKey (L.map rowB) k).isSome = decide (k ∈ L.map (·.2))
  | [], k => by simp [atKey]
  | x :: L, k => by
    have ih := rows_at L k
    unfold atKey at ih ⊢
    rw [List.map_cons, List.find?_cons]
    by_cases h : x.2 = k
    · simp [h]
    · have e : decide ((rowB x).1 = k) = false := decide_eq_false h
      rw [e, ih]
      simp [Ne.symm h]
theorem rows_put (L : List (Addr × List Int)) (q : Addr × List Int) : storedH (L.map rowB) q.2 q.1 (.bool true) = (addB L q).map rowB := by
  unfold storedH addB
  rw [rows_at]
  by_cases h : q.2 ∈ L.map (·.2)
  · rw [if_pos h, if_pos (decide_eq_true h), List.map_map]
    refine List.map_congr_left fun x _ => ?_
    show putAt q.2 (.bool true) (rowB x) = rowB x
    unfold putAt
    split <;> rfl
  · rw [if_neg h, if_neg (by rw [decide_eq_false h]; exact Bool.false_ne_true), List.map_append]
    rfl
theorem rows_putAll : ∀ (M L : List (Addr × List Int)), storedAllH (L.map rowB) (M.map rowB) = (M.foldl addB L).map rowB
  | [], L => rfl
  | q :: M, L => by
    have h := rows_putAll M (addB L q)
    unfold storedAllH at h ⊢
    rw [List.map_cons, List.foldl_cons, List.foldl_cons]
    show List.foldl _ (storedH (L.map rowB) q.2 q.1 (.bool true)) _ = _
    rw [rows_put]
    exact h
section
variable {P : Program} {w : World} {H : Hp} {h h' : Heap} {a : Addr} {L : List (Addr × List Int)}
theorem rowB_keys (L : List (Addr × List Int)) : (L.map rowB).map (·.1) = L.map (·.2) := by rw [List.map_map]; rfl
theorem DicB.full (R : DicB P w h a L) (ht : ∀ p ∈ L, IsT P w h p.2 p.1) : h.DictOfH (kT P w) a (L.map rowB) := by
  obtain ⟨o, es, ep, h1, h2, h3, h4⟩ := R.ob
  refine ⟨o, es, ep, h1, h2, h3, h4, fun x hx => ?_, by rw [rowB_keys]; exact R.nd⟩
  obtain ⟨p, hp, rfl⟩ := List.mem_map.1 hx
  exact ht p hp
theorem DicB.of (d : h.DictOfH (kT P w) a (L.map rowB)) (few : L.length ≤ 4000) (lo : (a == sysModules) = false) : DicB P w h a L := by
  obtain ⟨o, es, ep, h1, h2, h3, h4, _, h5⟩ := d
  exact ⟨few, lo, by rw [← rowB_keys]; exact h5, o, es, ep, h1, h2, h3, h4⟩
theorem dicBO_new (R : DicB P w h a L) : ObjOk P w H h a (DicBO P w a L) := by
  have ⟨few, lo, nd, o, es, ep, ho, r⟩ := R
  refine ⟨R, ⟨o, ho⟩, fun h1 h2 p k => ?_⟩
  have ⟨few', lo', nd', o', es', ep', ho', r'⟩ := (p : DicB P w h1 a L)
  exact ⟨few', lo', nd', o', es', ep', k o' ho', r'⟩
end
/-! ### list(d), sorted(d) -/
section
variable {X : Cx}
/-! many tuples of d numbers, sorted by their code -/
/-! ### d[k] = True, d.update(d2) -/
theorem mt_updB (hu : X.A.units + 1 < cLine) : MtR X "dict.update" (fun x xs H Q => ∃ a b L M, x = .ref a ∧ xs = [V.ref b] ∧ a ≠ b ∧ H a = some (DicBO X.prog X.w a L) ∧ H b = some (DicBO X.prog X.w b M) ∧ (∀ q ∈ L, SqT X.K H q.1 (q.2.map V.int)) ∧ (∀ q ∈ M, SqT X.K H q.1 (q.2.map V.int)) ∧
    L ≠ [] ∧ L.length + M.length ≤ 4000 ∧ Q .non (upd H a (DicBO X.prog X.w a (M.foldl addB L)))) := by
  rintro pins s σ H x xs v us Q I rx rxs ⟨a, b, L, M, rfl, rfl, hne, ha, hb, hkL, hkM, h0, hl, q⟩
  cases rx
  rw [Vals.ref1 rxs]
  have RL : DicB X.prog X.w s.heap a L := (I.hok a _ ha).1
  have RM : DicB X.prog X.w s.heap b M := (I.hok b _ hb).1
  refine call_update_dictH (knd := kT X.prog X.w) (by exact tupleKind_room_in1 hu) hne RM.lo (RL.full fun p hp => I.isT (hkL p hp)) (RM.full fun p hp => I.isT (hkM p hp)) (.inl (by intro e; exact h0 (List.map_eq_nil_iff.1 e))) (by rw [List.length_map, List.length_map, sizeLine_eq]; omega) fun h' dd _ hs => ?_
  rw [rows_putAll] at dd
  have R' : DicB X.prog X.w h' a (M.foldl addB L) := DicB.of dd (by have := addB_foldLen M L; omega) RL.lo
  obtain ⟨ob, es, ep, ho, _⟩ := id dd
  exact ⟨.non, _, d_write (t' := s.toks) I (by rw [ha]; exact True.intro) hs ⟨ob, ho⟩ (dicBO_new R'), rfl, q⟩
end
/-! ### {k: True for tg in iter} -/
/-! ### as rules of the layer -/
end CR
/-! Bits of which some may be wrong: the lots, sorted; the least of them. -/
/-! A def without parameters is called. -/
namespace CR
open PySem PySem.Spec PyProof.Rows L2
theorem pe_callS0 {X : Cx} {f : Addr} {k : Nat} {fd : FuncData} {ps : List Str} {sp : Sp} {E : L2.St → XK} {x : Str} {p pos : Pos} (Fn : FnOk X.prog X.w X.K X.mg X.base (L2.CX X.prog X.w) k f fd ps sp) (hr : Room k X.A) (hg : Gl X x) (hm : X.mg x = some (.ref f))
    (hk : PySem.W.keepIn X.K (.ref f) = true) (hb : Binds X.K fd ps []) (hx : ∀ σ, PassesAt (L2.CX X.prog X.w) X σ (E σ)) (hdb : (x == ("__debug__" : Str)) = false) : PE X (.Call (.Name x p) [] [] pos) (fun σ H Q => sp [] H Q (E σ)) :=
  ⟨fun pins s σ H Q I h => wpAny_Call_Name_kw (ld_glob I hg hm (PySem.W.callWith_K0 I.kIn hk (run_fnS (us := []) (vs := []) Fn hr hb (hx σ) I .nil h)) hdb)⟩
theorem evp_call0 {X : Cx} {Z : ZP} {F : Hp} {O : OW} {ρ : Rho} {x : Str} {k k' : Nat} {ps : List Str} {S : Spec} {p pos : Pos} {P : Hp → OW → D → Prop} (G : Fc X.prog X.w X.K X.mg X.base x k ps S) (hr : Room k' X.A) (hk : k ≤ k')
    (h : S.s F O [] P fun F2 O2 cls fs => Z F2 O2 ρ cls fs) (hg : Gl X x := by rfl) (hdb : (x == ("__debug__" : Str)) = false := by decide) : EvP X Z (.Call (.Name x p) [] [] pos) F O ρ P := by
  obtain ⟨f, gm, fd, Fn, kp, bn⟩ := G
  refine .mk fun T σ H S0 Q q => canE_of (pe_callS0 Fn (hr.mono hk) hg gm kp bn (fun σ => passAt T σ) hdb) ?_
  exact spD_E (fun _ _ _ h => h) (spD_at S0 .nil h fun F2 O2 H2 v d e2 => q F2 O2 H2 v d e2)
theorem opd_neK {X : Cx} {F : Hp} {x y : D} {P : Hp → D → Prop} {k : Nat} (hr : Room k X.A) (hx : okD 9 x = true) (hy : okD 9 y = true) (he : deq x y = true) (h : P F (.bl false)) : OpD X (compareOp .NotEq) x y F P := opd_ne hr hx hy (by rw [he]; exact h)
end CR
/-! Sets with many tuples of numbers: the table with up to 512 places. -/
namespace CR
open PySem PySem.Spec PyProof.Rows L2
/-! ### the ring of places -/
def orb : Nat → Nat → List Nat
  | 0, _ => []
  | n + 1, x => x :: orb n ((x * 5 + 1) % 512)
theorem orb_at : ∀ (n x i : Nat), i < n → (orb n x)[i]? = some (lcgI 511 x i)
  | 0, _, _, h => absurd h (Nat.not_lt_zero _)
  | n + 1, x, 0, _ => rfl
  | n + 1, x, i + 1, h => by
    have q := orb_at n ((x * 5 + 1) % 512) i (Nat.lt_of_succ_lt_succ h)
    have e : ∀ i x, lcgI 511 ((x * 5 + 1) % 512) i = lcgI 511 x (i + 1) := by
      intro i
      induction i with
      | zero => intro x; rfl
      | succ i ih =>
        intro x
        show (lcgI 511 ((x * 5 + 1) % 512) i * 5 + 1) % 512 = (lcgI 511 x (i + 1) * 5 + 1) % 512
        rw [ih x]
    show (orb n ((x * 5 + 1) % 512))[i]? = _
    rw [q, e]
theorem orb_len : ∀ n x, (orb n x).length = n
  | 0, _ => rfl
  | n + 1, x => by show (orb n _).length + 1 = _; rw [orb_len n]
theorem orb_has : ((List.range 512).all fun j => (orb 512 0).contains j) = true := by decide +kernel
theorem orb_back : lcgI 511 0 512 = 0 := by decide +kernel
theorem lcgI_add (m : Nat) : ∀ (k i a : Nat), lcgI m (lcgI m i a) k = lcgI m i (a + k)
  | 0, i, a => rfl
  | k + 1, i, a => by
    show (lcgI m (lcgI m i a) k * 5 + 1) % (m + 1) = (lcgI m i (a + k) * 5 + 1) % (m + 1)
    rw [lcgI_add m k i a]
theorem orb_zero {j : Nat} (h : j ≤ 511) : ∃ b, b ≤ 511 ∧ lcgI 511 0 b = j := by
  have q := List.all_eq_true.mp orb_has j (List.mem_range.2 (by omega))
  obtain ⟨b, hb, e⟩ := List.getElem_of_mem (List.contains_iff_mem.1 q)
  rw [orb_len] at hb
  refine ⟨b, by omega, ?_⟩
  have q2 := orb_at 512 0 b hb
  rw [List.getElem?_eq_getElem (by rw [orb_len]; exact hb), e] at q2
  exact (Option.some.inj q2).symm
theorem orb_any {i j : Nat} (hi : i ≤ 511) (hj : j ≤ 511) : ∃ k, k ≤ 511 ∧ lcgI 511 i k = j := by
  obtain ⟨a, a1, a2⟩ := orb_zero hi
  obtain ⟨b, b1, b2⟩ := orb_zero hj
  rcases Nat.lt_or_ge b a with q | q
  · refine ⟨512 + b - a, by omega, ?_⟩
    rw [← a2, lcgI_add, show a + (512 + b - a) = 512 + b by omega, ← lcgI_add, orb_back, b2]
  · refine ⟨b - a, by omega, ?_⟩
    rw [← a2, lcgI_add, show a + (b - a) = b by omega, b2]
/-- a mask: each place is met by a run that begins early -/
structure Rg (m : Nat) : Prop where
  odd : m % 2 = 1
  top : m ≤ 511
  hit : ∀ (h : Int) (j : Nat), j ≤ m → ∃ n, n ≤ m + 12 ∧ runI m (SetTable.bits h) n = j
theorem rg_small {m : Nat} (h : MaskOk m) : Rg m := ⟨mask_odd h, by rcases h with e | e | e <;> omega, fun z j hj => run_meets h z hj⟩
theorem rg_7 : Rg 7 := rg_small (.inl rfl)
theorem rg_31 : Rg 31 := rg_small (.inr (.inl rfl))
theorem rg_127 : Rg 127 := rg_small (.inr (.inr rfl))
theorem rg_511 : Rg 511 := ⟨rfl, Nat.le_refl _, fun z j hj => by
  obtain ⟨k, hk, e⟩ := orb_any (runI_le 511 (SetTable.bits z) 12) hj
  exact ⟨12 + k, by omega, by rw [runI_tail (bits_lt z)]; exact e⟩⟩
theorem way_in (m : Nat) (h : Int) (k : Nat) : way m h k ≤ m := by
  have hi : SetTable.bits h % (m + 1) ≤ m := Nat.le_of_lt_succ (Nat.mod_lt _ (Nat.succ_pos _))
  obtain ⟨r1, r2, _⟩ := runEnd_bd hi
  have q := nth_in (m := m) k (runAt m (SetTable.bits h % (m + 1)) (SetTable.bits h)) (by show SetTable.bits h % (m + 1) + (_ - SetTable.bits h % (m + 1)) ≤ m; omega)
  exact Nat.le_trans (Nat.le_add_right _ _) q
theorem Rg.meets {m : Nat} (g : Rg m) (h : Int) {j : Nat} (hj : j ≤ m) : ∃ k, k < 10 * SetTable.turns m ∧ way m h k = j := by
  obtain ⟨n, n1, n2⟩ := g.hit h j hj
  obtain ⟨k, k1, k2⟩ := run_nth m (SetTable.bits h) n
  refine ⟨k, by unfold SetTable.turns; omega, ?_⟩
  show (nth m _ k).j = j
  rw [k2]
  exact n2
/-! ### the table -/
structure TabB (t : SetTable) (hs : List Int) : Prop where
  ris : Ris t.place.toList
  dm : t.dummies = #[]
  sz : t.place.size = hs.length
  rg : Rg t.mask
  bd : ∀ x ∈ t.place.toList, x ≤ t.mask
  reach : ∀ (i : Nat) (h : Int) (j : Nat), hs[i]? = some h → t.place.toList[i]? = some j → ∃ k, way t.mask h k = j ∧ ∀ k', k' < k → way t.mask h k' ∈ t.place.toList
section
variable {t : SetTable} {hs : List Int}
theorem TabB.len (T : TabB t hs) : t.place.toList.length = hs.length := by rw [Array.length_toList, T.sz]
theorem TabB.first (T : TabB t hs) (hl : hs.length ≤ t.mask) (h : Int) : ∃ K, K < 10 * SetTable.turns t.mask ∧ way t.mask h K ∉ t.place.toList ∧ ∀ k, k < K → way t.mask h k ∈ t.place.toList := by
  obtain ⟨j, j1, j2⟩ := st_missing t.place.toList (t.mask + 1) (by rw [T.len]; omega)
  obtain ⟨k, k1, k2⟩ := T.rg.meets h (Nat.le_of_lt_succ j1)
  obtain ⟨K, a, b, c⟩ := st_least (p := fun k => way t.mask h k ∉ t.place.toList) k (by show way t.mask h k ∉ _; rw [k2]; exact j2)
  exact ⟨K, by omega, b, fun i hi => Classical.byContradiction (c i hi)⟩
theorem TabB.before (T : TabB t hs) {h : Int} {K i j : Nat} (hK : way t.mask h K ∉ t.place.toList) (hi : hs[i]? = some h) (hj : t.place.toList[i]? = some j) : ∃ k, k < K ∧ way t.mask h k = j := by
  obtain ⟨k, e, b⟩ := T.reach i h j hi hj
  refine ⟨k, Nat.lt_of_not_le fun q => hK ?_, e⟩
  rcases Nat.eq_or_lt_of_le q with q | q
  · rw [q, e]
    exact List.mem_of_getElem? hj
  · exact b K q
/-- one more, at the first empty place of its way -/
theorem TabB.put (T : TabB t hs) {h : Int} {K : Nat} (hK : way t.mask h K ∉ t.place.toList) (hb : ∀ k, k < K → way t.mask h k ∈ t.place.toList) :
    SetTable.below t.place (way t.mask h K) ≤ hs.length ∧ TabB (t.put (way t.mask h K)).1 (hs.take (SetTable.below t.place (way t.mask h K)) ++ h :: hs.drop (SetTable.below t.place (way t.mask h K))) ∧
      (t.put (way t.mask h K)).1.fill = hs.length + 1 := by
  have jm := way_in t.mask h K
  have ej : way t.mask h K = way t.mask h K := rfl
  generalize hj : way t.mask h K = j at hK jm
  have hc : SetTable.below t.place j ≤ t.place.size := (below_cut T.ris j).1
  have pl := put_place t j
  generalize hp : SetTable.below t.place j = p at hc pl
  have p1 : p ≤ t.place.toList.length := hc
  have p2 : p ≤ hs.length := by rw [← T.sz]; exact hc
  have no : t.place[SetTable.below t.place j]? ≠ some j := fun e => hK (List.mem_of_getElem? (by rw [Array.getElem?_toList]; exact e))
  have sz : (t.put j).1.place.size = hs.length + 1 := by rw [← Array.length_toList, pl, len_ins _ p1, T.len]
  have up : ∀ {x : Nat}, x ∈ t.place.toList → x ∈ (t.put j).1.place.toList := fun hx => by rw [pl]; exact mem_ins.2 (.inr hx)
  refine ⟨p2, ⟨ris_insert T.ris no, put_dm T.dm j, by rw [len_ins _ p2]; exact sz, T.rg, fun x hx => ?_, fun i g y h1 h2 => ?_⟩, by show (t.put j).1.place.size + (t.put j).1.dummies.size = _; rw [sz, put_dm T.dm j] <;> rfl⟩
  · rw [pl] at hx
    exact (mem_ins.1 hx).elim (fun e => e ▸ jm) (T.bd x)
  · rw [tins_get hs p2] at h1
    rw [pl, tins_get _ p1] at h2
    show ∃ k, way t.mask g k = y ∧ ∀ k', k' < k → way t.mask g k' ∈ (t.put j).1.place.toList
    by_cases c : i < p
    · rw [if_pos c] at h1 h2
      obtain ⟨k, e, z⟩ := T.reach i g y h1 h2
      exact ⟨k, e, fun k' q => up (z k' q)⟩
    by_cases d : i = p
    · rw [if_neg c, if_pos d] at h1 h2
      cases h1
      cases h2
      exact ⟨K, hj, fun k' q => up (hb k' q)⟩
    · rw [if_neg c, if_neg d] at h1 h2
      obtain ⟨k, e, z⟩ := T.reach (i - 1) g y h1 h2
      exact ⟨k, e, fun k' q => up (z k' q)⟩
end
/-! ### all laid anew -/
theorem find_free {m : Nat} (g : Rg m) (ow : Array (Option Nat)) (h : Int) {j : Nat} (hj : j ≤ m) (hf : oAt ow j = none) :
    ∃ K, SetTable.layClean.free m ow (SetTable.turns m) (SetTable.bits h % (m + 1)) (SetTable.bits h) = some (way m h K) ∧ oAt ow (way m h K) = none ∧ ∀ k, k < K → oAt ow (way m h k) ≠ none := by
  obtain ⟨n, n1, n2⟩ := g.hit h j hj
  have at_ : way m h (off m (SetTable.bits h % (m + 1)) (SetTable.bits h) n) = j := by
    show (nth m _ (off m _ _ n)).j = j
    rw [nth_off, itL_run]
    exact n2
  obtain ⟨K, a, b, c⟩ := st_least (p := fun k => oAt ow (way m h k) = none) _ (by show oAt ow (way m h (off m (SetTable.bits h % (m + 1)) (SetTable.bits h) n)) = none; rw [at_]; exact hf)
  refine ⟨K, free_spec m ow _ n _ _ K (by unfold SetTable.turns; omega) a (fun k hk => ?_) (by rw [show oAt ow (nth m _ K).j = none from b]; rfl), b, c⟩
  have q := c k hk
  cases z : oAt ow (nth m (runAt m (SetTable.bits h % (m + 1)) (SetTable.bits h)) k).j with
  | none => exact absurd z q
  | some _ => rfl
theorem own_more {m : Nat} (g : Rg m) {done : List Int} {ow : Array (Option Nat)} (W : L2.Own m done ow) (hl : done.length ≤ m) (h : Int) :
    ∃ j, SetTable.layClean.free m ow (SetTable.turns m) (SetTable.bits h % (m + 1)) (SetTable.bits h) = some j ∧ L2.Own m (done ++ [h]) (ow.setIfInBounds j (some done.length)) := by
  obtain ⟨ps, l1, l2⟩ := W.ps
  obtain ⟨j0, a1, a2⟩ := st_missing ps (m + 1) (by omega)
  have em : oAt ow j0 = none := by
    cases z : oAt ow j0 with
    | none => rfl
    | some k => exact absurd (l2 j0 (Nat.le_of_lt_succ a1) (by rw [z]; exact fun e => nomatch e)) a2
  obtain ⟨K, b1, b2, b3⟩ := find_free g ow h (Nat.le_of_lt_succ a1) em
  have jm := way_in m h K
  have self := oAt_set_self (some done.length) (show way m h K < ow.size by rw [W.sz]; omega)
  have keep : ∀ {i : Nat}, oAt ow i ≠ none → oAt (ow.setIfInBounds (way m h K) (some done.length)) i ≠ none := fun {i} q => by
    by_cases c : i = way m h K
    · subst c
      exact absurd b2 q
    · rw [oAt_set_ne _ c]
      exact q
  refine ⟨way m h K, b1, ⟨by rw [Array.size_setIfInBounds]; exact W.sz, fun j k hj e => ?_, fun k hk => ?_, way m h K :: ps, by rw [List.length_cons, List.length_append, l1]; rfl, fun j hj e => ?_⟩⟩
  · by_cases c : j = way m h K
    · subst c
      rw [self] at e
      cases e
      exact ⟨h, K, by rw [List.getElem?_append_right (Nat.le_refl _), Nat.sub_self]; rfl, rfl, fun k' q => keep (b3 k' q)⟩
    · rw [oAt_set_ne _ c] at e
      obtain ⟨h', K', c1, c2, c3⟩ := W.at_ j k hj e
      exact ⟨h', K', by rw [List.getElem?_append_left (List.getElem?_eq_some_iff.mp c1).1]; exact c1, c2, fun k' q => keep (c3 k' q)⟩
  · rw [List.length_append, List.length_singleton] at hk
    rcases Nat.lt_or_ge k done.length with c | c
    · obtain ⟨j, c1, c2⟩ := W.all k c
      refine ⟨j, c1, ?_⟩
      rw [oAt_set_ne _ (fun z => by subst z; rw [b2] at c2; cases c2)]
      exact c2
    · exact ⟨way m h K, jm, by rw [self, show k = done.length by omega]⟩
  · by_cases c : j = way m h K
    · subst c
      exact List.mem_cons_self
    · rw [oAt_set_ne _ c] at e
      exact List.mem_cons_of_mem _ (l2 j hj e)
theorem lay_all {m : Nat} (g : Rg m) : ∀ (rest done : List Int) (ow : Array (Option Nat)), L2.Own m done ow → done.length + rest.length ≤ m →
    ∃ ow', rest.foldl (stepF m) (some (ow, done.length)) = some (ow', (done ++ rest).length) ∧ L2.Own m (done ++ rest) ow'
  | [], done, ow, W, _ => ⟨ow, by rw [List.append_nil]; rfl, by rw [List.append_nil]; exact W⟩
  | h :: rest, done, ow, W, hl => by
    rw [List.length_cons] at hl
    obtain ⟨j, e, W'⟩ := own_more g W (by omega) h
    have en : (done ++ [h]).length = done.length + 1 := by rw [List.length_append]; rfl
    obtain ⟨ow', f, W2⟩ := lay_all g rest (done ++ [h]) _ W' (by omega)
    have ea : done ++ [h] ++ rest = done ++ h :: rest := by rw [List.append_assoc]; rfl
    rw [ea] at f W2
    rw [en] at f
    exact ⟨ow', by rw [List.foldl_cons, stepF_some e]; exact f, W2⟩
theorem relaid_B (t : SetTable) {hs : Array Int} {wanted M : Nat} (hw : SetTable.sizeAbove wanted - 1 = M) (g : Rg M) (hn : hs.size ≤ M) :
    ∃ t' order, t.relaid hs wanted = some (t', order) ∧ order.toList.Perm (List.range hs.size) ∧ TabB t' (order.toList.map fun i => hs.getD i 0) ∧ t'.mask = M ∧ t'.led = t.led ∧ t'.plain = t.plain := by
  obtain ⟨ow, f, W⟩ := lay_all g hs.toList [] _ (Own.init M) (by rw [Array.length_toList]; show 0 + hs.size ≤ M; omega)
  rw [List.nil_append] at f W
  have e0 : SetTable.layClean M hs = some ow := by
    rw [layClean_eq]
    rw [show hs.toList.foldl (stepF M) (some (Array.replicate (M + 1) none, 0)) = some (ow, hs.toList.length) from f]
    rfl
  have e1 : t.relaid hs wanted = some (tabOf t M ow, ((liveOf M ow).map (·.2)).toArray) := by
    rw [relaid_eq, hw, e0]
    rfl
  obtain ⟨r1, r2⟩ := ris_live (fun j => ow.getD j none) (List.range (M + 1)) List.pairwise_lt_range
  have r1 : Ris ((liveOf M ow).map (·.1)) := r1
  have r2 : ∀ x ∈ (liveOf M ow).map (·.1), x ∈ List.range (M + 1) := r2
  have hz : hs.toList.length = hs.size := Array.length_toList
  have all2 : ∀ k ∈ List.range hs.size, k ∈ (liveOf M ow).map (·.2) := fun k hk => by
    obtain ⟨j, c1, c2⟩ := W.all k (by rw [hz]; exact List.mem_range.1 hk)
    exact List.mem_map.2 ⟨(j, k), (mem_live W.sz).2 ⟨c1, c2⟩, rfl⟩
  have len : (liveOf M ow).length = hs.size := by
    obtain ⟨ps, p1, p2⟩ := W.ps
    have a := nodup_lenG (ls := ps) (List.Pairwise.imp (fun q => Nat.ne_of_lt q) r1) fun x hx => by
      obtain ⟨⟨y, k⟩, hq, rfl⟩ := List.mem_map.1 hx
      obtain ⟨b1, b2⟩ := (mem_live W.sz).1 hq
      exact p2 y b1 (by rw [b2]; exact fun z => nomatch z)
    have b := nodup_lenG List.nodup_range all2
    rw [List.length_map] at a
    rw [List.length_map, List.length_range] at b
    omega
  refine ⟨_, _, e1, perm_range hs.size _ (by show ((liveOf M ow).map (·.2)).length = _; rw [List.length_map]; exact len) fun k hk => all2 k (List.mem_range.2 hk), ⟨r1, rfl, ?_, g, fun x hx => Nat.le_of_lt_succ (List.mem_range.1 (r2 x hx)), fun i h j h1 h2 => ?_⟩, rfl, rfl, rfl⟩
  · show ((liveOf M ow).map (·.1)).toArray.size = (((liveOf M ow).map (·.2)).map _).length
    rw [List.size_toArray, List.length_map, List.length_map, List.length_map]
  · have h1' : (((liveOf M ow).map (·.2)).map fun i => hs.getD i 0)[i]? = some h := h1
    have h2' : ((liveOf M ow).map (·.1))[i]? = some j := h2
    rw [List.getElem?_map, List.getElem?_map] at h1'
    rw [List.getElem?_map] at h2'
    cases q : (liveOf M ow)[i]? with
    | none => rw [q] at h2'; cases h2'
    | some z =>
      obtain ⟨y, k⟩ := z
      rw [q] at h1' h2'
      obtain ⟨b1, b2⟩ := (mem_live W.sz).1 (List.mem_of_getElem? q)
      obtain ⟨h0, K, a1, a2, a3⟩ := W.at_ y k b1 b2
      have e3 : hs.getD k 0 = h0 := by
        rw [Array.getD_eq_getD_getElem?, ← Array.getElem?_toList, a1]
        rfl
      have e4 : hs.getD k 0 = h := Option.some.inj h1'
      have e5 : y = j := Option.some.inj h2'
      rw [← e5, ← e4, e3]
      refine ⟨K, a2, fun k' q' => ?_⟩
      show way M h0 k' ∈ (liveOf M ow).map (·.1)
      cases z : oAt ow (way M h0 k') with
      | none => exact absurd z (a3 k' q')
      | some k2 => exact List.mem_map.2 ⟨(way M h0 k', k2), (mem_live W.sz).2 ⟨way_in M h0 k', z⟩, rfl⟩
theorem size_308 : SetTable.sizeAbove (SetTable.grown 77) = 512 := by decide +kernel
end CR
/-! set(a list of many tuples of numbers), its length. -/
namespace CR
open PySem PySem.Spec PyProof.Rows L2
section
variable {P : Program} {w : World} {A : Around} {E : Value → Shared → Prop} {s : Shared}
def Four (m : Nat) : Prop := m = 7 ∨ m = 31 ∨ m = 127 ∨ m = 511
theorem Four.rg {m : Nat} (h : Four m) : Rg m := by
  rcases h with rfl | rfl | rfl | rfl
  · exact rg_7
  · exact rg_31
  · exact rg_127
  · exact rg_511
structure SetB (P : Program) (w : World) (h : Heap) (a : Addr) (L : List (Addr × List Int)) (es : Array (Int × Value)) (ep : Nat) (t : SetTable) : Prop where
  ob : ∃ o, h.get? a = some o ∧ o.ExactSet ∧ o.data = .set es ep t
  rows : es.toList = rowsOf P w L
  tab : TabB t (L.map fun p => thash P w p.2)
  nd : (L.map (·.2)).Nodup
  tup : ∀ p ∈ L, IsT P w h p.2 p.1
  plain : t.plain = true
  led : w.params.followText "set-order" = true ∨ t.led = true
  room : L.length * 5 < t.mask * 3
  four : Four t.mask
variable {a : Addr} {L : List (Addr × List Int)} {es : Array (Int × Value)} {ep : Nat} {t : SetTable}
theorem rows_len {es : Array (Int × Value)} {L : List (Addr × List Int)} (h : es.toList = rowsOf P w L) : es.size = L.length := by
  rw [← Array.length_toList, h]
  unfold rowsOf
  rw [List.length_map]
theorem rows_get {es : Array (Int × Value)} {L : List (Addr × List Int)} (h : es.toList = rowsOf P w L) {i : Nat} {p : Addr × List Int} (q : L[i]? = some p) : es[i]? = some (thash P w p.2, Value.ref p.1) := by
  rw [← Array.getElem?_toList, h]
  unfold rowsOf
  rw [List.getElem?_map, q]
  rfl
theorem fits_of {t : SetTable} {n : Nat} (h1 : t.place.size = n) (h2 : t.dummies = #[]) (h3 : n ≤ t.mask) : t.fits n = true := by
  unfold SetTable.fits SetTable.fill
  rw [h2, Bool.and_eq_true, beq_iff_eq, decide_eq_true_eq]
  exact ⟨h1, by show t.place.size + 0 ≤ t.mask; omega⟩
theorem SetB.fits (R : SetB P w s.heap a L es ep t) : t.fits es.size = true := by
  have h1 := R.tab.sz
  rw [List.length_map] at h1
  have h2 := rows_len R.rows
  have h3 := R.room
  exact fits_of (by omega) R.tab.dm (by omega)
theorem SetB.gw (R : SetB P w s.heap a L es ep t) : ¬ t.gaveWay = true := by
  unfold SetTable.gaveWay
  rw [R.tab.rg.odd]
  decide
theorem nth_dm (m : Nat) : ∀ (n : Nat) (p : SetTable.Probe), p.dummy = none → (nth m p n).dummy = none
  | 0, _, h => h
  | n + 1, p, h => nth_dm m n (adv m p) (by unfold adv; split <;> exact h)
abbrev path (m : Nat) (z : Int) (c : Nat) : SetTable.Probe := nth m (runAt m (SetTable.bits z % (m + 1)) (SetTable.bits z)) c
theorem path_add (m : Nat) (z : Int) (c q : Nat) : nth m (path m z c) q = path m z (c + q) := (nth_add m c _ q).symm
/-- from step c of the way on, up to its first empty place K -/
theorem seek (R : SetB P w s.heap a L es ep t) {x : Addr} {k : List Int} (hx : IsT P w s.heap k x) (hu : A.units < cLine) {K : Nat} (K1 : K < 10 * SetTable.turns t.mask)
    (K2 : way t.mask (thash P w k) K ∉ t.place.toList) (K3 : ∀ c, c < K → way t.mask (thash P w k) c ∈ t.place.toList) {Q : SetFound → Shared → Prop}
    (yes : k ∈ L.map (·.2) → Q (.there none) s) (no : k ∉ L.map (·.2) → Q (.free (way t.mask (thash P w k) K) false) s) :
    ∀ (f c : Nat) (st : Option SetTable.Probe), st.getD (t.probeStart (thash P w k)) = path t.mask (thash P w k) c → c ≤ K → K < c + f →
      (∀ (i : Nat) (p : Addr × List Int), L[i]? = some p → p.2 = k → ∃ c', c ≤ c' ∧ c' < K ∧ t.place.toList[i]? = some (way t.mask (thash P w k) c')) →
      wpAny (model P w) A (setSearchFrom a (.ref x) (thash P w k) true f st) Q E s := by
  obtain ⟨o, ho, hex, hd⟩ := R.ob
  generalize hz : thash P w k = z at *
  intro f
  induction f with
  | zero => intro c st _ c1 c2; exact absurd c2 (by omega)
  | succ f ih =>
    intro c st hst c1 c2 stand
    have rd : ∀ i : Nat, ∀ p : Addr × List Int, L[i]? = some p → (fun i : Nat => (es[i]?.map (·.1)).getD 0) i = thash P w p.2 := fun i p h => by
      show (es[i]?.map (·.1)).getD 0 = _
      rw [rows_get R.rows h]
      rfl
    have ej : ∀ q, (nth t.mask (path t.mask z c) q).j = way t.mask z (c + q) := fun q => congrArg SetTable.Probe.j (path_add t.mask z c q)
    have sp := go_spec t R.tab.ris R.tab.dm (fun i => (es[i]?.map (·.1)).getD 0) z (10 * SetTable.turns t.mask) (K - c) (path t.mask z c) (nth_dm _ _ _ rfl) (by omega)
      (fun q hq => by rw [ej]; exact K3 (c + q) (by omega)) (by rw [ej, show c + (K - c) = K by omega]; exact K2)
    -- none that was passed is it
    have pass : ∀ n, (∀ k' i', k' < n → t.place.toList[i']? = some (nth t.mask (path t.mask z c) k').j → (fun i : Nat => (es[i]?.map (·.1)).getD 0) i' ≠ z) →
        ∀ (i : Nat) (p : Addr × List Int), L[i]? = some p → p.2 = k → ∃ c', c + n ≤ c' ∧ c' < K ∧ t.place.toList[i]? = some (way t.mask z c') := fun n hno i p hp hk => by
      obtain ⟨c', a1, a2, a3⟩ := stand i p hp hk
      refine ⟨c', Nat.le_of_not_lt fun q => ?_, a2, a3⟩
      refine hno (c' - c) i (by omega) (by rw [ej, show c + (c' - c) = c' by omega]; exact a3) ?_
      rw [rd i p hp, hk, hz]
    rw [setSearchFrom_succ]
    refine wpAny_bind (wpAny_setState_of ho hd R.fits ?_)
    dsimp only
    refine wp_if_neg R.gw ?_
    try refine wpAny_bind (wpAny_pure ?_)
    rcases sp with ⟨q, i, q1, q2, q3, q4, q5⟩ | ⟨q4, q5⟩
    · have pr : t.probe (fun i => (es[i]?.map (·.1)).getD 0) z (st.getD (t.probeStart z)) = some (.candidate (way t.mask z (c + q)) i (path t.mask z (c + (q + 1)))) := by
        rw [hst, ← ej, ← path_add]
        exact q5
      rw [pr]
      dsimp only
      rw [ej] at q2
      have il : i < L.length := by
        have h1 := (List.getElem?_eq_some_iff.mp q2).1
        rw [R.tab.len, List.length_map] at h1
        exact h1
      obtain ⟨p, hp⟩ : ∃ p, L[i]? = some p := ⟨_, List.getElem?_eq_getElem il⟩
      have mem : p ∈ L := List.mem_of_getElem? hp
      have rest : wpAny (model P w) A (searchRest a (.ref x) z true f es t (way t.mask z (c + q)) i (path t.mask z (c + (q + 1)))) Q E s := by
        unfold searchRest
        rw [rows_get R.rows hp]
        dsimp only
        refine wpAny_bind (wpAny_holding (wpAny_eqBool_tuple hu (R.tup p mem) hx ?_))
        refine wpAny_bind (wpAny_setState_of ho hd R.fits ?_)
        dsimp only
        by_cases e : p.2 = k
        · refine wp_if_pos (by simp [e]) ?_
          exact wpAny_pure (yes (List.mem_map.mpr ⟨p, mem, e⟩))
        · refine wp_if_neg (by simp [e]) ?_
          try refine wpAny_bind (wpAny_pure ?_)
          rw [sameMem]
          dsimp only
          have live := slot_live R.tab.ris q2
          simp only [if_true, live, rows_get R.rows hp]
          refine wpAny_bind (wpAny_isSame_ref_self (wpAny_bind (wpAny_pure ?_)))
          simp only [if_true]
          refine wp_if_neg (by simp [e]) ?_
          refine ih (c + (q + 1)) _ rfl (by omega) (by omega) fun i0 p0 h0 k0 => ?_
          obtain ⟨c', a1, a2, a3⟩ := pass q q4 i0 p0 h0 k0
          refine ⟨c', Nat.lt_of_le_of_ne a1 fun ee => e ?_, a2, a3⟩
          rw [← ee] at a3
          have l2 : t.slot (way t.mask z (c + q)) = .live i0 := slot_live R.tab.ris a3
          have l3 := live.symm.trans l2
          cases l3
          rw [hp] at h0
          cases h0
          exact k0
      by_cases hl : t.led = true
      · refine wp_if_neg (by simp [hl]) ?_
        try refine wpAny_bind (wpAny_pure ?_)
        exact rest
      · refine wp_if_pos (by simp [hl]) ?_
        refine wpAny_bind (seen_tup hx (fun y hy => ?_) ?_)
        · obtain ⟨en, e1, e2⟩ := List.mem_map.mp hy
          have e3 : en ∈ es ∧ en.1 = z := by simpa using e1
          have e4 : en ∈ es.toList := by simpa using e3.1
          rw [R.rows] at e4
          obtain ⟨p2, p3, p4⟩ := List.mem_map.mp e4
          exact ⟨p2.2, p2.1, by rw [← e2, ← p4], R.tup p2 p3⟩
        · refine wp_if_neg (by decide) ?_
          try refine wpAny_bind (wpAny_pure ?_)
          exact rest
    · have pr : t.probe (fun i => (es[i]?.map (·.1)).getD 0) z (st.getD (t.probeStart z)) = some (.empty (way t.mask z K) none) := by
        rw [hst, show way t.mask z K = (nth t.mask (path t.mask z c) (K - c)).j by rw [ej, show c + (K - c) = K by omega]]
        exact q5
      rw [pr]
      dsimp only
      refine wpAny_pure (no fun hm => ?_)
      obtain ⟨p0, m0, k0⟩ := List.mem_map.mp hm
      obtain ⟨i0, h0⟩ := List.mem_iff_getElem?.mp m0
      obtain ⟨c', a1, a2, _⟩ := pass (K - c) q4 i0 p0 h0 k0
      omega
theorem seek_add (R : SetB P w s.heap a L es ep t) {x : Addr} {k : List Int} (hx : IsT P w s.heap k x) (hu : A.units < cLine) {Q : SetFound → Shared → Prop}
    (yes : k ∈ L.map (·.2) → Q (.there none) s)
    (no : ∀ K, k ∉ L.map (·.2) → way t.mask (thash P w k) K ∉ t.place.toList → (∀ c, c < K → way t.mask (thash P w k) c ∈ t.place.toList) → Q (.free (way t.mask (thash P w k) K) false) s) :
    wpAny (model P w) A (setSearch a (.ref x) (thash P w k) true) Q E s := by
  have room := R.room
  have top := R.tab.rg.top
  obtain ⟨K, K1, K2, K3⟩ := R.tab.first (by rw [List.length_map]; omega) (thash P w k)
  have few : K < 100000 := by
    unfold SetTable.turns at K1
    omega
  unfold setSearch
  refine seek R hx hu K1 K2 K3 yes (fun q => no K q K2 K3) 100000 0 none rfl (Nat.zero_le _) (by omega) fun i p hp hk => ?_
  have i1 : i < t.place.toList.length := by
    rw [R.tab.len, List.length_map]
    exact (List.getElem?_eq_some_iff.mp hp).1
  have i2 := List.getElem?_eq_getElem i1
  obtain ⟨c, c1, c2⟩ := R.tab.before K2 (by rw [List.getElem?_map, hp, ← hk]; rfl) i2
  exact ⟨c, Nat.zero_le _, c1, by rw [i2, c2]⟩
/-- laid anew, larger -/
theorem relay_B {o : Obj} (ho : s.heap.get? a = some o) (hex : o.ExactSet) (hd : o.data = .set es ep t) (hr : es.toList = rowsOf P w L) (h1 : t.place.size = es.size) (h2 : t.dummies = #[]) (h3 : es.size ≤ t.mask)
    (nd : (L.map (·.2)).Nodup) (tup : ∀ p ∈ L, IsT P w s.heap p.2 p.1) (pl : t.plain = true) (ld : w.params.followText "set-order" = true ∨ t.led = true) {wanted M : Nat}
    (hw : SetTable.sizeAbove wanted - 1 = M) (gM : Four M) (hw2 : SetTable.sizeAbove wanted ≤ 512) (hn : L.length * 5 < M * 3) {Q : Unit → Shared → Prop}
    (fin : ∀ h' L' es' ep' t', Heap.SameBut a s.heap h' → SetB P w h' a L' es' ep' t' → L'.Perm L → Q () { s with heap := h' }) : wpAny (model P w) A (setRelay a wanted) Q E s := by
  have sz := rows_len hr
  have fits := fits_of h1 h2 h3
  have g := gM.rg
  have gt := g.top
  obtain ⟨t', order, e, hp, T, em, el, epn⟩ := relaid_B t (hs := es.map (·.1)) (wanted := wanted) hw g (by rw [Array.size_map, sz]; omega)
  rw [Array.size_map, sz] at hp
  obtain ⟨L2, r1, r2, r3⟩ := order_rows L es order hr hp
  rw [← r3] at T
  have s2 : (order.filterMap (es[·]?)).size = es.size := by rw [rows_len r1, r2.length_eq, sz]
  rw [setRelay_eq]
  refine wpAny_bind (wpAny_setState_of ho hd fits ?_)
  dsimp only
  refine wp_if_neg (by rw [sizeLine_eq]; omega) ?_
  try refine wpAny_bind (wpAny_pure ?_)
  rw [e]
  dsimp only
  refine wpAny_bind ?_
  refine wp_if_neg (by rw [s2]; simp) ?_
  try refine wpAny_bind (wpAny_pure ?_)
  refine wpAny_pure ?_
  dsimp only
  refine wpAny_storeSet_of ho hd ?_ (by rw [s2, sz, sizeLine_eq]; omega)
  have sb : Heap.SameBut a s.heap (s.heap.update a (Obj.putSet (order.filterMap (es[·]?)) t')) := Heap.SameBut.update ..
  refine fin _ L2 _ (ep + 1) t' sb ⟨⟨_, store_at ho hd, ⟨hex.1, hex.2.1, hex.2.2⟩, rfl⟩, r1, T, (r2.map (·.2)).nodup_iff.mpr nd, fun p q => isT_same (tup p (r2.mem_iff.mp q)) ho hd sb, by rw [epn]; exact pl, by rw [el]; exact ld, by rw [r2.length_eq, em]; exact hn, by rw [em]; exact gM⟩ r2
theorem full_at {m n : Nat} (hm : Four m) (h1 : n * 5 < m * 3) (h2 : (n + 1) * 5 ≥ m * 3) (h3 : n < 300) :
    ∃ M, SetTable.sizeAbove (SetTable.grown (n + 1)) - 1 = M ∧ Four M ∧ SetTable.sizeAbove (SetTable.grown (n + 1)) ≤ 512 ∧ (n + 1) * 5 < M * 3 ∧ n + 1 ≤ m := by
  rcases hm with e | e | e | e
  · have en : n = 4 := by omega
    subst en
    exact ⟨31, by rw [size_20], .inr (.inl rfl), by rw [size_20]; decide, by decide, by omega⟩
  · have en : n = 18 := by omega
    subst en
    exact ⟨127, by rw [size_76], .inr (.inr (.inl rfl)), by rw [size_76]; decide, by decide, by omega⟩
  · have en : n = 76 := by omega
    subst en
    exact ⟨511, by rw [size_308], .inr (.inr (.inr rfl)), by rw [size_308]; decide, by decide, by omega⟩
  · omega
/-- one more, or none -/
theorem add_B (R : SetB P w s.heap a L es ep t) {x : Addr} {k : List Int} (hx : IsT P w s.heap k x) (hu : A.units < cLine) (few : L.length < 300) {Q : Bool → Shared → Prop}
    (fin : ∀ b h' L' es' ep' t', Heap.SameBut a s.heap h' → SetB P w h' a L' es' ep' t' → (k ∈ L.map (·.2) → L' = L) → (k ∉ L.map (·.2) → L'.Perm ((x, k) :: L)) → Q b { s with heap := h' }) :
    wpAny (model P w) A (setAddHashed a (.ref x) (thash P w k)) Q E s := by
  obtain ⟨o, ho, hex, hd⟩ := R.ob
  have sz := rows_len R.rows
  have room := R.room
  unfold setAddHashed
  refine wpAny_holding ?_
  rw [show (100000 : Nat) = 99999 + 1 from rfl, setAddHashedIn_succ]
  refine wpAny_bind (wpAny_setState_of ho hd R.fits ?_)
  dsimp only
  refine wp_if_neg (by simp [byScan, Value.scannable]) ?_
  try refine wpAny_bind (wpAny_pure ?_)
  refine wpAny_bind (seek_add R hx hu (fun hm => ?_) fun K hm hK hb => ?_)
  · dsimp only
    exact wpAny_pure (fin false s.heap L es ep t (Heap.SameBut.refl a s.heap) R (fun _ => rfl) fun z => absurd hm z)
  dsimp only
  refine wpAny_bind (wpAny_setState_of ho hd R.fits ?_)
  dsimp only
  obtain ⟨b1, T1, fl⟩ := R.tab.put hK hb
  rw [List.length_map] at b1 fl
  have pl1 : (t.put (way t.mask (thash P w k) K)).1.plain = true := R.plain
  have mk1 : (t.put (way t.mask (thash P w k) K)).1.mask = t.mask := rfl
  have ld1 : w.params.followText "set-order" = true ∨ (t.put (way t.mask (thash P w k) K)).1.led = true := R.led
  have at1 : (t.put (way t.mask (thash P w k) K)).2 = SetTable.below t.place (way t.mask (thash P w k) K) := rfl
  generalize SetTable.below t.place (way t.mask (thash P w k) K) = p at b1 T1 at1
  generalize t.put (way t.mask (thash P w k) K) = u at T1 fl pl1 mk1 ld1 at1 ⊢
  obtain ⟨t1, q⟩ := u
  dsimp only at T1 fl pl1 mk1 ld1 at1 ⊢
  subst at1
  first
    | (refine wpAny_bind ?_; refine wp_if_pos pl1 ?_; refine hashBy_tup hx ?_)
    | refine wp_if_pos pl1 (wpAny_bind (hashBy_tup hx ?_))
  simp only [if_true]
  have pm := put_perm L q (x, k)
  have rw1 : (SetTable.insertAt es q (thash P w k, Value.ref x)).toList = rowsOf P w (L.take q ++ (x, k) :: L.drop q) := by
    rw [SetTable.toList_insertAt, L2.rows_put, R.rows]
  have T2 : TabB t1 ((L.take q ++ (x, k) :: L.drop q).map fun p => thash P w p.2) := by
    rw [List.map_append, List.map_cons, List.map_take, List.map_drop]
    exact T1
  have len : (L.take q ++ (x, k) :: L.drop q).length = L.length + 1 := pm.length_eq
  generalize L.take q ++ (x, k) :: L.drop q = L1 at pm rw1 T2 len
  have sz1 := rows_len rw1
  have nd1 : (L1.map (·.2)).Nodup := by
    refine (pm.map (·.2)).nodup_iff.mpr ?_
    rw [List.map_cons, List.nodup_cons]
    exact ⟨hm, R.nd⟩
  generalize SetTable.insertAt es q (thash P w k, Value.ref x) = es1 at rw1 sz1 ⊢
  refine wpAny_bind (wpAny_storeSet_of ho hd ?_ (by rw [sz1, len, sizeLine_eq]; omega))
  have sb : Heap.SameBut a s.heap (s.heap.update a (Obj.putSet es1 t1)) := Heap.SameBut.update ..
  have ho1 := store_at (es' := es1) (t' := t1) ho hd
  generalize s.heap.update a (Obj.putSet es1 t1) = h1 at sb ho1 ⊢
  have tup1 : ∀ p ∈ L1, IsT P w h1 p.2 p.1 := fun p hp => by
    rcases List.mem_cons.mp (pm.mem_iff.mp hp) with e | e
    · subst e; exact isT_same hx ho hd sb
    · exact isT_same (R.tup p e) ho hd sb
  by_cases hf : t1.tooFull = true
  · first
      | (refine wpAny_bind ?_; refine wp_if_pos (by simp [hf]) ?_)
      | (refine wp_if_pos (by simp [hf]) ?_; refine wpAny_bind ?_)
    have full : (L.length + 1) * 5 ≥ t.mask * 3 := by
      have h := hf
      unfold SetTable.tooFull at h
      rw [decide_eq_true_eq, fl, mk1] at h
      exact h
    obtain ⟨M, m1, m2, m3, m4, m5⟩ := full_at R.four room full few
    rw [sz]
    have ps : t1.place.size = es1.size := by
      have h := T2.sz
      rw [List.length_map] at h
      rw [h, sz1]
    refine relay_B (s := { s with heap := h1 }) ho1 ⟨hex.1, hex.2.1, hex.2.2⟩ rfl rw1 ps T2.dm (by rw [sz1, len, mk1]; exact m5) nd1 tup1 pl1 ld1 m1 m2 m3 (by rw [len]; exact m4) fun h2 L2 es2 ep2 t2 sb2 R2 pm2 => ?_
    exact wpAny_pure (fin true h2 L2 es2 ep2 t2 (sb.trans sb2) R2 (fun z => absurd z hm) fun _ => pm2.trans pm)
  · first
      | refine wp_if_neg (by simp [hf]) ?_
      | (refine wpAny_bind ?_; refine wp_if_neg (by simp [hf]) ?_; refine wpAny_pure ?_)
    refine wpAny_pure (fin true h1 L1 es1 (ep + 1) t1 sb ⟨⟨_, ho1, ⟨hex.1, hex.2.1, hex.2.2⟩, rfl⟩, rw1, T2, nd1, tup1, pl1, ld1, ?_, by rw [mk1]; exact R.four⟩ (fun z => absurd z hm) fun _ => pm)
    have h := hf
    unfold SetTable.tooFull at h
    rw [decide_eq_true_eq, fl] at h
    rw [len]
    omega
theorem SetB.stay {h h' : Heap} (R : SetB P w h a L es ep t) (ha : ∀ o, h.get? a = some o → h'.get? a = some o) (ht : ∀ p ∈ L, IsT P w h' p.2 p.1) : SetB P w h' a L es ep t := by
  obtain ⟨o, ho, r⟩ := R.ob
  exact ⟨⟨o, ha o ho, r⟩, R.rows, R.tab, R.nd, ht, R.plain, R.led, R.room, R.four⟩
theorem setB_new {h : Heap} (ho : h.get? a = some (newS w)) : SetB P w h a [] #[] 0 (.fresh 0 0 (!w.params.followText "set-order")) := by
  have tb : TabB (.fresh 0 0 (!w.params.followText "set-order")) ([] : List Int) := ⟨List.Pairwise.nil, rfl, rfl, rg_7, fun x hx => (by cases hx), fun i h j hi => (by simp at hi)⟩
  refine ⟨⟨_, ho, ⟨rfl, rfl, rfl⟩, rfl⟩, rfl, tb, List.nodup_nil, fun p hp => (by cases hp), rfl, ?_, (by decide : 0 * 5 < 7 * 3), .inl rfl⟩
  show _ ∨ (!w.params.followText "set-order") = true
  cases w.params.followText "set-order"
  · exact .inr rfl
  · exact .inl rfl
/-- the loop of set.update -/
theorem upd_B {I : Addr} {fp wr : List Addr} {G : Array GenState → Array GenState → Prop} {n : Nat} {Pv : Nat → Value → Prop} {St : Nat → Shared → Prop} {R : Result → Shared → Prop}
    (W : WalksS P w A.in1 I fp wr G n Pv St) (S : Addr) (hSf : S ∉ fp) (ks : List (Addr × List Int)) (hn : n = ks.length) (few : ks.length < 300) (val : ∀ i v, Pv i v → ∃ p, ks[i]? = some p ∧ v = .ref p.1)
    (h0 : Heap) (hk : ∀ p ∈ ks, IsT P w h0 p.2 p.1) (hS0 : h0.get? S = none) (hw0 : ∀ b ∈ wr, h0.get? b = none) (hu : A.in1.units < cLine) :
    ∀ (k i : Nat) (s : Shared), i + k = n → St i s → (∀ b o, h0.get? b = some o → s.heap.get? b = some o) → (∃ L es ep t, SetB P w s.heap S L es ep t ∧ Got ks i L) →
      (∀ s' L es ep t, Moved (S :: wr) G s s' → SetB P w s'.heap S L es ep t → Got ks n L → (∀ b o, h0.get? b = some o → s'.heap.get? b = some o) → R (.ok (.ret .none)) s') →
      codeAny (model P w) A (.builtin "set.update.loop" ⟨[.ref S, .ref I], []⟩) R s := by
  have out : S ∉ wr := fun h => hSf (W.sub _ h)
  have more : ∀ b ∈ wr, b ∈ S :: wr := fun b hb => List.mem_cons_of_mem _ hb
  have carry : ∀ {s s' : Shared}, Moved wr G s s' → (∀ b o, h0.get? b = some o → s.heap.get? b = some o) → ∀ b o, h0.get? b = some o → s'.heap.get? b = some o := fun hm q b o e =>
    hm.heap b o (fun hb => by rw [hw0 b hb] at e; cases e) (q b o e)
  intro k
  induction k with
  | zero =>
    intro i s hi hst hkp ⟨L, es, ep, t, hS, g⟩ hR
    have en : i = n := by omega
    subst en
    refine codeAny_builtin F.entry_set_update_loop ?_
    rw [Around.under_plainId F.plain_set_update_loop _]
    show wpAny _ A.in1 (pyNext (.ref I) >>= _) _ _ s
    refine wpAny_bind (W.done s _ _ hst fun s' hm => ?_)
    show wpAny _ A.in1 (ret Value.none) _ _ s'
    have kp := carry hm hkp
    exact wpAny_pure (hR s' L es ep t (hm.mono more) (hS.stay (fun o e => hm.heap S o out e) fun p hp => isT_keep (hk p (List.mem_of_mem_take (g.sub p hp))) kp) g kp)
  | succ k ih =>
    intro i s hi hst hkp ⟨L, es, ep, t, hS, g⟩ hR
    have lt : i < n := by omega
    refine codeAny_builtin F.entry_set_update_loop ?_
    rw [Around.under_plainId F.plain_set_update_loop _]
    show wpAny _ A.in1 (pyNext (.ref I) >>= _) _ _ s
    refine wpAny_bind (W.item i s _ _ lt hst fun v s' hP hst' hm => ?_)
    obtain ⟨p, hp, rfl⟩ := val i v hP
    have kp := carry hm hkp
    have hS' : SetB P w s'.heap S L es ep t := hS.stay (fun o e => hm.heap S o out e) fun q hq => isT_keep (hk q (List.mem_of_mem_take (g.sub q hq))) kp
    have hx : IsT P w s'.heap p.2 p.1 := isT_keep (hk p (List.mem_of_getElem? hp)) kp
    show wpAny _ A.in1 (holding [Value.ref p.1] (setAdd S (.ref p.1)) >>= _) _ _ s'
    refine wpAny_bind (wpAny_holding ?_)
    unfold setAdd
    refine wpAny_holding ?_
    refine wpAny_bind (wpAny_pyHash_tuple hu hx ?_)
    refine add_B (s := { s' with toks := s'.toks + (p.2.length + 1) }) hS' hx hu (by have := g.len; omega) fun b h' L' es' ep' t' sb S2 c1 c2 => ?_
    have g' : Got ks (i + 1) L' := by
      by_cases c : p.2 ∈ L.map (·.2)
      · rw [c1 c]; exact g.same hp c
      · exact g.more hp (c2 c)
    have kp2 : ∀ b o, h0.get? b = some o → h'.get? b = some o := fun b o e => (sb.2 b (fun z => by rw [z, hS0] at e; cases e)).trans (kp b o e)
    refine wpAny_pure ⟨plainId_quiet F.plain_set_update_loop _, ih (i + 1) _ (by omega) (W.frame _ s' _ _ hst' (Nat.le_add_right _ _) fun b hb o e => ?_) kp2 ⟨L', es', ep', t', S2, g'⟩ fun s3 L3 es3 ep3 t3 hm3 S3 g3 kp3 => ?_⟩
    · rw [sb.2 b (fun z : b = S => hSf (z ▸ hb))]
      exact e
    · refine hR s3 L3 es3 ep3 t3 (Moved.trans W.gtrans ((hm.mono more).then_heap (Nat.le_add_right _ _) fun b o hb e => ?_) hm3) S3 g3 kp3
      rw [sb.2 b (fun z : b = S => hb (z ▸ List.mem_cons_self))]
      exact e
end
section
variable {P : Program} {w : World} {A : Around} {E : Value → Shared → Prop} {s : Shared}
theorem call_setB {q : Addr} {its : Array Value} (ks : List (Addr × List Int)) {Q : Value → Shared → Prop} (hh : A.handled = none) (isL : s.heap.IsList q its) (hit : its.toList = ks.map fun p => Value.ref p.1) (hk : ∀ p ∈ ks, IsT P w s.heap p.2 p.1) (few : ks.length < 300) (hu : A.units + 3 < cLine)
    (fin : ∀ (g : Heap) (tk : Nat) L es ep t, SetB P w g s.heap.objs.size L es ep t → Got ks ks.length L → (∀ b u, s.heap.get? b = some u → g.get? b = some u) → Q (.ref s.heap.objs.size) { s with heap := g, toks := tk }) :
    wpAny (model P w) A (call (.type "set") [.ref q]) Q E s := by
  have len : its.size = ks.length := by rw [← Array.length_toList, hit, List.length_map]
  obtain ⟨_, _, f0⟩ := F.called_set.mro
  have f1 := F.called_set.made
  have f2 := F.called_set.sub
  have f3 := F.called_set.notType
  have f4 := F.called_set.canCreate
  have f5 := F.typeCall_set_1 (.ref q)
  refine wpAny_call (codeAny_of_tree (show wpAny _ _ (callAny (.type "set") _) _ _ _ from ?_))
  refine wpAny_pure ⟨Code.quiet_builtin _ (by decide +kernel), codeAny_builtin F.entry_type_call ?_⟩
  rw [Around.under_plain (weight_type_call_type "set" [.ref q] []) rfl]
  repeat' (first | assumption | wp_step)
  refine codeAny_mono (code_set_led1 (.ref q) (E := E) (Q₁ := fun v t => v = .ref s.heap.objs.size ∧ t = { s with heap := s.heap.push (newS w) }) ⟨rfl, rfl⟩) fun r s1 hr => ?_
  match r, hr with
  | .error _, hr => exact hr
  | .ok (.ret _), ⟨e1, e2⟩ =>
    subst e1 e2
    have at0 : (s.heap.push (newS w)).get? s.heap.objs.size = some (newS w) := Heap.get?_push_size _ rfl
    have ty0 : Shared.TypeIs { s with heap := s.heap.push (newS w) } (.ref s.heap.objs.size) "set" := ⟨_, at0, rfl⟩
    have f6 := F.called_set.init.lookup
    have f7 := F.called_set.init.bind (.ref s.heap.objs.size)
    repeat' (first | assumption | wp_step)
    refine codeAny_mono (codeAny_call_builtin (R := wants (fun v t => v = .none ∧ ∃ g tk L es ep tb, t = { s with heap := g, toks := tk } ∧ SetB P w g s.heap.objs.size L es ep tb ∧ Got ks ks.length L ∧ ∀ b u, s.heap.get? b = some u → g.get? b = some u) E)
      F.called_set.init.plain F.entry_set_init (check_set_init_1 ty0 ?_)) fun r2 s2 hr2 => ?_
    rotate_left 1
    · match r2, hr2 with
      | .error _, hr2 => exact hr2
      | .ok (.ret _), ⟨e1, g, tk, L, es, ep, tb, e2, k1, k2, k3⟩ =>
        subst e1 e2
        repeat' (first | assumption | wp_step)
        exact fin _ _ _ _ _ _ k1 k2 k3
    obtain ⟨⟨oc, od, oD, oS⟩, atq, c1, n1, c2⟩ := isL
    simp only at c1 c2
    subst c1 c2
    have atq2 := Heap.get?_push_of_some (newS w) atq
    have isL2 : (s.heap.push (newS w)).IsList q its := ⟨_, atq2, rfl, n1, rfl⟩
    have f8 := F.sub_list_set
    have f9 := F.sub_list_frozenset
    have f10 : (Value.type "list" == Value.type "dict") = false := by decide
    unfold Builtin.«set.__init__» noKeywords Builtin.Frozenset.updateFrom
    generalize gen : pyIter = itr
    wp_walk
    subst gen
    refine wpAny_pyIter_list isL2 (wpAny_bind (wpAny_runValue ?_))
    have lq : q < s.heap.objs.size := Heap.lt_size atq
    have sz1 : (s.heap.push (newS w)).objs.size = s.heap.objs.size + 1 := Heap.size_push ..
    have up : ∀ {b : Nat}, b < s.heap.objs.size → b ≠ (s.heap.push (newS w)).objs.size := fun k => Nat.ne_of_lt (by rw [sz1]; exact Nat.lt_succ_of_lt k)
    have ne1 : q ≠ (s.heap.push (newS w)).objs.size := up lq
    have no1 : s.heap.objs.size ∉ [(s.heap.push (newS w)).objs.size, q] := by
      intro z
      rcases List.mem_cons.1 z with z | z
      · exact Nat.ne_of_lt (by rw [sz1]; exact Nat.lt_succ_self _) z
      · exact Nat.ne_of_gt lq (List.mem_singleton.1 z)
    have none_of : ∀ b, s.heap.objs.size ≤ b → s.heap.get? b = none := fun b hb => by
      cases z : s.heap.get? b with
      | none => rfl
      | some o => exact absurd (Nat.lt_of_lt_of_le (Heap.lt_size z) hb) (Nat.lt_irrefl _)
    have vals : ∀ (i : Nat) (v : Value), its[i]? = some v → ∃ p, ks[i]? = some p ∧ v = .ref p.1 := fun i v hv => by
      rw [← Array.getElem?_toList, hit, List.getElem?_map] at hv
      cases z : ks[i]? with
      | none => rw [z] at hv; cases hv
      | some p => rw [z] at hv; exact ⟨p, rfl, (Option.some.inj hv).symm⟩
    have hA : A.in1.in1.in1.handled = none := by simpa using hh
    refine upd_B (Walks.list hA _ q ne1 its).toS _ no1 ks len few vals s.heap hk (none_of _ (Nat.le_refl _)) (fun b hb => none_of b (by
      rw [List.mem_singleton.1 hb, sz1]
      exact Nat.le_succ _)) hu its.size 0 _ (Nat.zero_add _) ⟨⟨_, Heap.get?_push_size _ rfl, rfl, rfl⟩, isL2.push _⟩ (fun b o e => Heap.get?_push_of_some _ (Heap.get?_push_of_some _ e))
      ⟨[], #[], 0, _, setB_new (Heap.get?_push_of_some _ at0), Got.zero ks⟩ fun t2 L es ep tb mv k1 k2 k3 => ?_
    obtain ⟨g, g1, g2, g3, g4⟩ := t2
    obtain rfl : g1 = s.gens := mv.gens
    obtain rfl : g2 = s.drawn := mv.drawn
    obtain rfl : g4 = s.os := mv.os
    rw [len] at k2
    exact wpAny_pure (show wpAny _ _ (ret Value.none) _ _ _ from wpAny_pure ⟨rfl, g, g3, L, es, ep, tb, rfl, k1, k2, k3⟩)
end
/-- the set's own object, so many members -/
def CntB (h : Heap) (a : Addr) (n : Nat) : Prop := ∃ o es ep t, h.get? a = some o ∧ o.ExactSet ∧ o.data = .set es ep t ∧ t.fits es.size = true ∧ es.size = n ∧ n ≤ 300
def CntBO (a : Addr) (n : Nat) : HO := .ext fun h => CntB h a n
theorem cntBO_new {P : Program} {w : World} {H : Hp} {h : Heap} {a : Addr} {n : Nat} (R : CntB h a n) : ObjOk P w H h a (CntBO a n) := by
  have ⟨o, es, ep, t, ho, r⟩ := R
  refine ⟨R, ⟨o, ho⟩, fun h1 h2 p k => ?_⟩
  have ⟨o', es', ep', t', ho', r'⟩ := (p : CntB h1 a n)
  exact ⟨o', es', ep', t', k o' ho', r'⟩
section
variable {X : Cx}
theorem cr_setB (hc : X.calm = true) (hu : X.A.units + 3 < cLine) : CallR X (.type "set") (fun xs H Q => ∃ (l : Addr) (ks : List (Addr × List Int)), xs = [V.ref l] ∧ SqL X.K H l (ks.map fun p => V.ref p.1) ∧ (∀ p ∈ ks, SqT X.K H p.1 (p.2.map V.int)) ∧ ks.length < 300 ∧
    ∀ a n, H a = none → n = (unlM (ks.map (·.2))).length → Q (.ref a) (upd H a (CntBO a n))) := by
  rintro pins s σ H xs us Q I r ⟨l, ks, rfl, hl, hk, few, q⟩
  rw [Vals.ref1 r]
  obtain ⟨its, rv, pl, hz⟩ := I.list hl
  refine call_setB ks (I.ok.hd hc) pl.isList (by simpa using refs_of_vals rv) (fun p hp => I.isT (hk p hp)) few hu fun g tk L es ep t R G keep => ?_
  have e : L.length = (unlM (ks.map (·.2))).length := by
    have := unl_len (ks := L.map (·.2)) (ws := ks.map (·.2)) R.nd (fun k hk2 => by
      obtain ⟨p, hp, rfl⟩ := List.mem_map.1 hk2
      exact List.mem_map_of_mem (List.mem_of_mem_take (G.sub p hp))) (fun k hk2 => by
      obtain ⟨p, hp, rfl⟩ := List.mem_map.1 hk2
      exact G.all p (by rw [List.take_length]; exact hp))
    rw [List.length_map] at this
    exact this
  obtain ⟨o, ho, hex, hd⟩ := R.ob
  have gl := G.len
  have cn : CntB g s.heap.objs.size (unlM (ks.map (·.2))).length := ⟨o, es, ep, t, ho, hex, hd, SetB.fits (s := { s with heap := g, toks := tk }) R, by rw [rows_len R.rows, e], by omega⟩
  exact ⟨.ref s.heap.objs.size, upd H s.heap.objs.size (CntBO s.heap.objs.size _), I.laid (t' := tk) keep (Nat.le_refl _) (cntBO_new cn), rfl, q _ _ (I.hok.fresh (Nat.le_refl _)) rfl⟩
theorem cr_lenB : CallR X (.builtin "len") (fun xs H Q => ∃ (a : Addr) (n : Nat), xs = [.ref a] ∧ H a = some (CntBO a n) ∧ Q (.int n) H) := by
  rintro pins s σ H xs us Q I r ⟨a, n, rfl, ha, q⟩
  rw [Vals.ref1 r]
  obtain ⟨o, es, ep, t, ho, hex, hd, fits, en, few⟩ := (show CntB s.heap a n from (I.hok a _ ha).1)
  exact call_len_set ho hex hd fits (by rw [en] <;> omega) ⟨.int n, H, I.tok _, ⟨_, by rw [en]⟩, q⟩
variable {F : Hp} {O : OW} {P : Hp → D → Prop}
/-- set(a list of tuples of numbers), fewer than 300 -/
theorem calld_setTB {k : Nat} {ws : List (List Int)} (hr : Room k X.A) (hc : X.calm = true) (few : ws.length < 300)
    (h : ∀ F2 p, Same F F2 → F2 p = some (CntBO p (unlM ws).length) → P F2 (.raw (.ref p))) : CallD X (.type "set") [.lst (ws.map tupI)] F O P := CallD.of (cr_setB hc (by have := hr.un; omega)) fun H vs S hv Q q => by
  obtain ⟨v, rfl, r⟩ := isAll1 hv
  cases r with
  | lst ha ht =>
    obtain ⟨ks, e1, e2, e3⟩ := isAll_tups ht
    subst e1
    refine ⟨_, ks, rfl, .inl (.inl (S.ex _ _ ha)), fun p hp => sqT_mono S.ex (e3 p hp), by rw [← List.length_map (f := (·.2)), e2]; exact few, fun a n hp en => ?_⟩
    rw [e2] at en
    subst en
    have e := same_new (o := CntBO a (unlM ws).length) (S.neF hp)
    exact q _ _ _ (.raw (.ref a)) e (S.new hp) (.raw _) (h _ a e upd_same)
theorem calld_lenTB {p : Addr} {n : Nat} (hF : F p = some (CntBO p n)) (h : P F (.int n)) : CallD X (.builtin "len") [.raw (.ref p)] F O P := CallD.of cr_lenB fun H vs S hv Q q => by
  obtain ⟨v, rfl, r⟩ := isAll1 hv
  cases r
  exact ⟨p, n, rfl, S.ex _ _ hF, q F H _ _ (Same.refl _) S (.int _) h⟩
end
end CR
/-! Where bits stand in a row; all upper numbers whose rows begin so (k26). -/
namespace CR
open PySem PySem.Spec PyProof.Rows L2
theorem win_at {a b : Int} {N i m : Nat} (h : i + m ≤ N) : ((bitsM N a b).take (i + m)).drop i = bitsM m (topM i a b) b := by
  rw [bitsM_take _ _ _ _ h, bitsM_drop _ _ _ _ (by omega), show i + m - i = m by omega]
theorem win_cutX {a b : Int} {N i m : Nat} (h : i + m ≤ N) : cutX ((bitsM N a b).map D.int) (some (i : Int)) (some ((i : Int) + (m : Int))) = (bitsM m (topM i a b) b).map .int := by
  rw [show (i : Int) + (m : Int) = ((i + m : Nat) : Int) by omega, cutX_run, ← List.map_take, ← List.map_drop, win_at h]
def plcsM (a b : Int) (bs : List Int) : List Nat := (List.range (lenM a b)).filter fun i => decide (bitsM bs.length (topM i a b) b = bs)
theorem plcs_in (p : Nat → Bool) (A : Nat) : ∀ N, (((List.range (A + N)).filter p).filter fun i => decide (A ≤ i)).length = (List.range N).countP fun i => p (A + i)
  | 0 => by
    rw [Nat.add_zero, List.filter_filter]
    have e : (List.range A).filter (fun i => decide (A ≤ i) && p i) = [] := by
      rw [List.filter_eq_nil_iff]
      intro i hi
      have := List.mem_range.1 hi
      simp [show ¬ A ≤ i by omega]
    rw [e]
    rfl
  | N + 1 => by
    rw [← Nat.add_assoc, List.range_succ, List.filter_append, List.filter_append, List.length_append, plcs_in p A N, List.range_succ, List.countP_append]
    congr 1
    cases q : p (A + N) with
    | true => simp [q]
    | false => simp [q]
theorem plcs_count (a b : Int) (bs : List Int) : ((plcsM a b bs).filter fun i => decide (aheadM a b ≤ i)).length = plcM a b bs := by
  unfold plcsM lenM
  rw [plcs_in]
  rfl
/-- two rising lists of the same numbers are one -/
theorem asc_one : ∀ {xs ys : List Int}, xs.Pairwise (· < ·) → ys.Pairwise (· < ·) → (∀ x, x ∈ xs ↔ x ∈ ys) → xs = ys
  | [], [], _, _, _ => rfl
  | [], y :: ys, _, _, h => absurd ((h y).2 List.mem_cons_self) (by simp)
  | x :: xs, [], _, _, h => absurd ((h x).1 List.mem_cons_self) (by simp)
  | x :: xs, y :: ys, hx, hy, h => by
    obtain ⟨x1, x2⟩ := List.pairwise_cons.1 hx
    obtain ⟨y1, y2⟩ := List.pairwise_cons.1 hy
    have e : x = y := by
      rcases List.mem_cons.1 ((h x).1 List.mem_cons_self) with q | q
      · exact q
      · rcases List.mem_cons.1 ((h y).2 List.mem_cons_self) with q2 | q2
        · exact q2.symm
        · have := y1 x q
          have := x1 y q2
          omega
    subst e
    rw [asc_one x2 y2 fun z => ?_]
    constructor
    · intro hz
      rcases List.mem_cons.1 ((h z).1 (List.mem_cons_of_mem _ hz)) with q | q
      · subst q
        exact absurd (x1 z hz) (Int.lt_irrefl _)
      · exact q
    · intro hz
      rcases List.mem_cons.1 ((h z).2 (List.mem_cons_of_mem _ hz)) with q | q
      · subst q
        exact absurd (y1 z hz) (Int.lt_irrefl _)
      · exact q
def topsL (l : Int) (bs : List Int) : List Int := ((List.range (1 - -l).toNat).map fun i : Nat => -l + (i : Int)).filter fun t => decide (bitsM bs.length t l = bs)
theorem kth_mono {l : Int} {bs : List Int} {j k : Int} (h : j < k) : kthM l bs j < kthM l bs k := by
  unfold kthM
  have p := two_pos bs.length
  generalize (2 : Int) ^ bs.length = N at p
  have e : (topsM l bs - 1 - j) * N - (topsM l bs - 1 - k) * N = (k - j) * N := by rw [← Int.sub_mul, show topsM l bs - 1 - j - (topsM l bs - 1 - k) = k - j by omega]
  have q : 0 < (k - j) * N := Int.mul_pos (by omega) p
  omega
theorem tops_list {l : Int} (h1 : 1 ≤ l) (hl : l % 2 = 1) {bs : List Int} (hb : ∀ b ∈ bs, b = 0 ∨ b = 1) : topsL l bs = (List.range (topsM l bs).toNat).map fun k : Nat => kthM l bs (k : Int) := by
  refine asc_one ?_ ?_ fun x => ?_
  · unfold topsL
    refine List.Pairwise.filter _ ?_
    rw [List.pairwise_map]
    exact List.pairwise_lt_range.imp fun q => by omega
  · rw [List.pairwise_map]
    exact List.pairwise_lt_range.imp fun q => kth_mono (by omega)
  · unfold topsL
    rw [List.mem_filter, List.mem_map, List.mem_map, decide_eq_true_eq]
    constructor
    · rintro ⟨⟨i, hi, rfl⟩, q⟩
      have hi := List.mem_range.1 hi
      rw [top_iff hl hb] at q
      obtain ⟨j, ej⟩ := q
      obtain ⟨r0, r1⟩ := rest_bd l bs
      have p := two_pos bs.length
      generalize hN : (2 : Int) ^ bs.length = N at *
      have j0 : j ≤ 0 := Int.not_lt.1 fun q => by
        have : N * 1 ≤ N * j := Int.mul_le_mul_of_nonneg_left (by omega) (by omega)
        omega
      have en : N * -j = -(N * j) := Int.mul_neg _ _
      have le : restM l bs + N * -j ≤ l := by omega
      have j3 : 0 ≤ N * -j := Int.mul_nonneg (by omega) (by omega)
      have td : topsM l bs = (l - restM l bs) / N + 1 := by
        unfold topsM
        rw [if_pos (by omega), hN]
      have j4 : -j ≤ (l - restM l bs) / N := Int.le_ediv_of_mul_le p (by rw [Int.mul_comm]; omega)
      refine ⟨(topsM l bs - 1 + j).toNat, List.mem_range.2 (by omega), ?_⟩
      unfold kthM
      rw [hN, Int.toNat_of_nonneg (by omega), show topsM l bs - 1 - (topsM l bs - 1 + j) = -j by omega, Int.mul_comm]
      omega
    · rintro ⟨k, hk, rfl⟩
      have hk := List.mem_range.1 hk
      obtain ⟨a, b, c⟩ := kth_ok h1 hl hb (k := (k : Int)) (by omega) (by omega)
      exact ⟨⟨(kthM l bs k + l).toNat, List.mem_range.2 (by omega), by omega⟩, c⟩
end CR
namespace CR
open PySem PySem.Spec PyProof.Rows L2
abbrev RW : PySem.W.OpenLaw := PySem.Challenge.rw_carriedrows_k26_whole_windows
def top (i : Nat) : Stmt := PySem.Challenge.pw_carriedrows_k26_whole_windows.main.body.getD i (.Pass ⟨0, 0, 0, 0⟩)
def meth (i j : Nat) : Stmt := match top i with
  | .ClassDef _ _ _ b _ _ _ _ _ _ _ => b.getD j (.Pass ⟨0, 0, 0, 0⟩)
  | s => s
def dTop (i : Nat) (x : Str) : He.DefD := ⟨(x, none), x, x, defArgs (top i), defBody (top i), defScope (top i), [], []⟩
def dMeth (i j : Nat) (c m q : Str) : He.DefD := ⟨(c, some m), m, q, defArgs (meth i j), defBody (meth i j), defScope (meth i j), [], []⟩
def fn0 : List He.DefD := [dTop 9 "is_from", dTop 10 "common", dTop 11 "is_fraction", dTop 12 "need_fraction", dTop 13 "next_top", dTop 14 "bits_of", dTop 15 "ahead_of", dTop 16 "need_bits", dTop 18 "value_of", dTop 19 "power_of_two", dTop 22 "length_of", dTop 23 "need_short", dTop 24 "one_round", dTop 26 "need_low", dTop 28 "least_rest", dTop 29 "tops_by", dTop 30 "tops_with", dTop 31 "kth_top", dTop 32 "first_place", dTop 33 "windows_of", dTop 34 "places_with", dTop 35 "window_count", dTop 37 "_law_taken", dTop 38 "_law_gcd", dTop 39 "_law_least", dTop 40 "_law_fraction", dTop 41 "_law_bits", dTop 42 "_law_bad", dTop 43 "_law_odd_bits", dTop 44 "_law_states"]
def fn1 : List He.DefD := [dTop 45 "_law_at", dTop 46 "_law_refused", dTop 47 "law", dMeth 2 0 "BadFraction" "__init__" "BadFraction.__init__", dMeth 3 0 "BadNumber" "__init__" "BadNumber.__init__", dMeth 4 0 "BadBits" "__init__" "BadBits.__init__", dMeth 5 0 "TooLong" "__init__" "TooLong.__init__"]
def fn : List He.DefD := fn0 ++ fn1
def fa0 : List He.Fa := [.glo "is_from", .glo "common", .glo "is_fraction", .glo "need_fraction", .glo "next_top", .glo "bits_of", .glo "ahead_of", .glo "need_bits", .glo "value_of", .glo "power_of_two", .glo "length_of", .glo "need_short", .glo "one_round", .glo "need_low", .glo "least_rest", .glo "tops_by", .glo "tops_with", .glo "kth_top", .glo "first_place", .glo "windows_of", .glo "places_with", .glo "window_count", .glo "_law_taken", .glo "_law_gcd", .glo "_law_least", .glo "_law_fraction", .glo "_law_bits", .glo "_law_bad", .glo "_law_odd_bits", .glo "_law_states"]
def fa1 : List He.Fa := [.glo "_law_at", .glo "_law_refused", .glo "law", .glo "CarryError", .glo "BadFraction", .glo "BadNumber", .glo "BadBits", .glo "TooLong", .free "ValueError", .free "range", .free "tuple", .free "enumerate", .free "reversed", .free "len", .free "abs", .free "min", .free "isinstance", .free "int", .free "set", .free "bool", .int "MOST" (1000000000000000000000000000000), .int "MOST_BITS" (64), .int "MOST_LOW" (10000), .exm "BadFraction" "BadFraction" true, .exm "BadNumber" "BadFraction" false, .exm "BadBits" "BadFraction" false, .exm "TooLong" "BadFraction" false, .exm "BadFraction" "TooLong" false, .exm "BadNumber" "TooLong" false, .exm "BadBits" "TooLong" false]
def fa2 : List He.Fa := [.exm "TooLong" "TooLong" true, .exm "BadFraction" "BadBits" false, .exm "BadNumber" "BadBits" false, .exm "BadBits" "BadBits" true, .exm "TooLong" "BadBits" false, .exm "BadFraction" "BadNumber" false, .exm "BadNumber" "BadNumber" true, .exm "BadBits" "BadNumber" false, .exm "TooLong" "BadNumber" false]
def fa : List He.Fa := fa0 ++ fa1 ++ fa2
abbrev exK : PySem.W.Frag → Bool := exA "CarryError" ["BadFraction"] [("BadNumber", "n"), ("BadBits", "index"), ("TooLong", "most")]
def names : List Str := (["CarryError", "BadFraction", "BadNumber", "BadBits", "TooLong", "MOST", "MOST_BITS", "MOST_LOW", "is_from", "common", "is_fraction", "need_fraction", "next_top", "bits_of", "ahead_of", "need_bits", "value_of", "power_of_two", "length_of", "need_short", "one_round", "need_low", "least_rest", "tops_by", "tops_with", "kth_top", "first_place", "windows_of", "places_with", "window_count"] : List Str) ++ (["_law_taken", "_law_gcd", "_law_least", "_law_fraction", "_law_bits", "_law_bad", "_law_odd_bits", "_law_states", "_law_at", "_law_refused"] : List Str)
abbrev hk : PySem.W.Hook := hookC 4 fa fn exK
def ob (s : PySem.W.SharedT) : AlC := obsC 4 fa fn exK (HandSHeadRun.getT s)
theorem ob_eq (s : PySem.W.SharedT) : ob s = hk.obs s.abs := obsC_eq (HandSHeadRun.getT_eq s)
theorem run (w : World) : HandSHeadRun.RunEq (PySem.W.OpenLaw.row RW) (PySem.W.view (PySem.W.OpenLaw.row RW).prog [47]) hk ob 6000 names w := by
  intro os
  kernel_rfl
abbrev HH (K : PySem.W.Frag) (mg : Str → Option Value) : Prop := Has fa fn exK K mg
section
variable {K : PySem.W.Frag} {mg : Str → Option Value}
theorem g_is_from (c : HH K mg) : mg "is_from" = some (.ref (He.ga K "is_from")) := c.glo 0
theorem g_common (c : HH K mg) : mg "common" = some (.ref (He.ga K "common")) := c.glo 1
theorem g_is_fraction (c : HH K mg) : mg "is_fraction" = some (.ref (He.ga K "is_fraction")) := c.glo 2
theorem g_need_fraction (c : HH K mg) : mg "need_fraction" = some (.ref (He.ga K "need_fraction")) := c.glo 3
theorem g_next_top (c : HH K mg) : mg "next_top" = some (.ref (He.ga K "next_top")) := c.glo 4
theorem g_bits_of (c : HH K mg) : mg "bits_of" = some (.ref (He.ga K "bits_of")) := c.glo 5
theorem g_ahead_of (c : HH K mg) : mg "ahead_of" = some (.ref (He.ga K "ahead_of")) := c.glo 6
theorem g_need_bits (c : HH K mg) : mg "need_bits" = some (.ref (He.ga K "need_bits")) := c.glo 7
theorem g_value_of (c : HH K mg) : mg "value_of" = some (.ref (He.ga K "value_of")) := c.glo 8
theorem g_power_of_two (c : HH K mg) : mg "power_of_two" = some (.ref (He.ga K "power_of_two")) := c.glo 9
theorem g_length_of (c : HH K mg) : mg "length_of" = some (.ref (He.ga K "length_of")) := c.glo 10
theorem g_need_short (c : HH K mg) : mg "need_short" = some (.ref (He.ga K "need_short")) := c.glo 11
theorem g_one_round (c : HH K mg) : mg "one_round" = some (.ref (He.ga K "one_round")) := c.glo 12
theorem g_need_low (c : HH K mg) : mg "need_low" = some (.ref (He.ga K "need_low")) := c.glo 13
theorem g_least_rest (c : HH K mg) : mg "least_rest" = some (.ref (He.ga K "least_rest")) := c.glo 14
theorem g_tops_by (c : HH K mg) : mg "tops_by" = some (.ref (He.ga K "tops_by")) := c.glo 15
theorem g_tops_with (c : HH K mg) : mg "tops_with" = some (.ref (He.ga K "tops_with")) := c.glo 16
theorem g_kth_top (c : HH K mg) : mg "kth_top" = some (.ref (He.ga K "kth_top")) := c.glo 17
theorem g_first_place (c : HH K mg) : mg "first_place" = some (.ref (He.ga K "first_place")) := c.glo 18
theorem g_windows_of (c : HH K mg) : mg "windows_of" = some (.ref (He.ga K "windows_of")) := c.glo 19
theorem g_places_with (c : HH K mg) : mg "places_with" = some (.ref (He.ga K "places_with")) := c.glo 20
theorem g_window_count (c : HH K mg) : mg "window_count" = some (.ref (He.ga K "window_count")) := c.glo 21
theorem g__law_taken (c : HH K mg) : mg "_law_taken" = some (.ref (He.ga K "_law_taken")) := c.glo 22
theorem g__law_gcd (c : HH K mg) : mg "_law_gcd" = some (.ref (He.ga K "_law_gcd")) := c.glo 23
theorem g__law_least (c : HH K mg) : mg "_law_least" = some (.ref (He.ga K "_law_least")) := c.glo 24
theorem g__law_fraction (c : HH K mg) : mg "_law_fraction" = some (.ref (He.ga K "_law_fraction")) := c.glo 25
theorem g__law_bits (c : HH K mg) : mg "_law_bits" = some (.ref (He.ga K "_law_bits")) := c.glo 26
theorem g__law_bad (c : HH K mg) : mg "_law_bad" = some (.ref (He.ga K "_law_bad")) := c.glo 27
theorem g__law_odd_bits (c : HH K mg) : mg "_law_odd_bits" = some (.ref (He.ga K "_law_odd_bits")) := c.glo 28
theorem g__law_states (c : HH K mg) : mg "_law_states" = some (.ref (He.ga K "_law_states")) := c.glo 29
theorem g__law_at (c : HH K mg) : mg "_law_at" = some (.ref (He.ga K "_law_at")) := c.glo 30
theorem g__law_refused (c : HH K mg) : mg "_law_refused" = some (.ref (He.ga K "_law_refused")) := c.glo 31
theorem g_law (c : HH K mg) : mg "law" = some (.ref (He.ga K "law")) := c.glo 32
theorem g_CarryError (c : HH K mg) : mg "CarryError" = some (.ref (He.ga K "CarryError")) := c.glo 33
theorem g_BadFraction (c : HH K mg) : mg "BadFraction" = some (.ref (He.ga K "BadFraction")) := c.glo 34
theorem g_BadNumber (c : HH K mg) : mg "BadNumber" = some (.ref (He.ga K "BadNumber")) := c.glo 35
theorem g_BadBits (c : HH K mg) : mg "BadBits" = some (.ref (He.ga K "BadBits")) := c.glo 36
theorem g_TooLong (c : HH K mg) : mg "TooLong" = some (.ref (He.ga K "TooLong")) := c.glo 37
theorem g_ValueError (c : HH K mg) : mg "ValueError" = none := c.free 38
theorem g_range (c : HH K mg) : mg "range" = none := c.free 39
theorem g_tuple (c : HH K mg) : mg "tuple" = none := c.free 40
theorem g_enumerate (c : HH K mg) : mg "enumerate" = none := c.free 41
theorem g_reversed (c : HH K mg) : mg "reversed" = none := c.free 42
theorem g_len (c : HH K mg) : mg "len" = none := c.free 43
theorem g_abs (c : HH K mg) : mg "abs" = none := c.free 44
theorem g_min (c : HH K mg) : mg "min" = none := c.free 45
theorem g_isinstance (c : HH K mg) : mg "isinstance" = none := c.free 46
theorem g_int (c : HH K mg) : mg "int" = none := c.free 47
theorem g_set (c : HH K mg) : mg "set" = none := c.free 48
theorem g_bool (c : HH K mg) : mg "bool" = none := c.free 49
theorem g_MOST (c : HH K mg) : ∃ t, mg "MOST" = some (.int (1000000000000000000000000000000) t) := c.int 50
theorem g_MOST_BITS (c : HH K mg) : ∃ t, mg "MOST_BITS" = some (.int (64) t) := c.int 51
theorem g_MOST_LOW (c : HH K mg) : ∃ t, mg "MOST_LOW" = some (.int (10000) t) := c.int 52
theorem m_BadFraction_BadFraction (c : HH K mg) : PySem.W.exmOne K (.ref (He.ga K "BadFraction")) (.ref (He.ga K "BadFraction")) = some true := c.exm 53
theorem m_BadNumber_BadFraction (c : HH K mg) : PySem.W.exmOne K (.ref (He.ga K "BadNumber")) (.ref (He.ga K "BadFraction")) = some false := c.exm 54
theorem m_BadBits_BadFraction (c : HH K mg) : PySem.W.exmOne K (.ref (He.ga K "BadBits")) (.ref (He.ga K "BadFraction")) = some false := c.exm 55
theorem m_TooLong_BadFraction (c : HH K mg) : PySem.W.exmOne K (.ref (He.ga K "TooLong")) (.ref (He.ga K "BadFraction")) = some false := c.exm 56
theorem m_BadFraction_TooLong (c : HH K mg) : PySem.W.exmOne K (.ref (He.ga K "BadFraction")) (.ref (He.ga K "TooLong")) = some false := c.exm 57
theorem m_BadNumber_TooLong (c : HH K mg) : PySem.W.exmOne K (.ref (He.ga K "BadNumber")) (.ref (He.ga K "TooLong")) = some false := c.exm 58
theorem m_BadBits_TooLong (c : HH K mg) : PySem.W.exmOne K (.ref (He.ga K "BadBits")) (.ref (He.ga K "TooLong")) = some false := c.exm 59
theorem m_TooLong_TooLong (c : HH K mg) : PySem.W.exmOne K (.ref (He.ga K "TooLong")) (.ref (He.ga K "TooLong")) = some true := c.exm 60
theorem m_BadFraction_BadBits (c : HH K mg) : PySem.W.exmOne K (.ref (He.ga K "BadFraction")) (.ref (He.ga K "BadBits")) = some false := c.exm 61
theorem m_BadNumber_BadBits (c : HH K mg) : PySem.W.exmOne K (.ref (He.ga K "BadNumber")) (.ref (He.ga K "BadBits")) = some false := c.exm 62
theorem m_BadBits_BadBits (c : HH K mg) : PySem.W.exmOne K (.ref (He.ga K "BadBits")) (.ref (He.ga K "BadBits")) = some true := c.exm 63
theorem m_TooLong_BadBits (c : HH K mg) : PySem.W.exmOne K (.ref (He.ga K "TooLong")) (.ref (He.ga K "BadBits")) = some false := c.exm 64
theorem m_BadFraction_BadNumber (c : HH K mg) : PySem.W.exmOne K (.ref (He.ga K "BadFraction")) (.ref (He.ga K "BadNumber")) = some false := c.exm 65
theorem m_BadNumber_BadNumber (c : HH K mg) : PySem.W.exmOne K (.ref (He.ga K "BadNumber")) (.ref (He.ga K "BadNumber")) = some true := c.exm 66
theorem m_BadBits_BadNumber (c : HH K mg) : PySem.W.exmOne K (.ref (He.ga K "BadBits")) (.ref (He.ga K "BadNumber")) = some false := c.exm 67
theorem m_TooLong_BadNumber (c : HH K mg) : PySem.W.exmOne K (.ref (He.ga K "TooLong")) (.ref (He.ga K "BadNumber")) = some false := c.exm 68
theorem xf_BadNumber (c : HH K mg) : XfC K (He.ga K "BadNumber") := (c.x1 0 (x := "BadNumber") (f := "n")).1.xf
theorem nf_BadNumber (c : HH K mg) : PySem.W.findIn K (.ref (He.ga K "BadNumber")) "n" = some none := (c.x1 0 (x := "BadNumber") (f := "n")).2
theorem xf_BadBits (c : HH K mg) : XfC K (He.ga K "BadBits") := (c.x1 1 (x := "BadBits") (f := "index")).1.xf
theorem nf_BadBits (c : HH K mg) : PySem.W.findIn K (.ref (He.ga K "BadBits")) "index" = some none := (c.x1 1 (x := "BadBits") (f := "index")).2
theorem xf_TooLong (c : HH K mg) : XfC K (He.ga K "TooLong") := (c.x1 2 (x := "TooLong") (f := "most")).1.xf
theorem nf_TooLong (c : HH K mg) : PySem.W.findIn K (.ref (He.ga K "TooLong")) "most" = some none := (c.x1 2 (x := "TooLong") (f := "most")).2
end
theorem sc_is_from : FnScope ["value", "low", "high"] ["value", "low", "high"] (defScope (top 9)) := scB_ok (by decide +kernel)
theorem sc_common : FnScope ["one", "other", "great", "less"] ["one", "other"] (defScope (top 10)) := scB_ok (by decide +kernel)
theorem sc_is_fraction : FnScope ["value"] ["value"] (defScope (top 11)) := scB_ok (by decide +kernel)
theorem sc_need_fraction : FnScope ["value"] ["value"] (defScope (top 12)) := scB_ok (by decide +kernel)
theorem sc_next_top : FnScope ["top", "low"] ["top", "low"] (defScope (top 13)) := scB_ok (by decide +kernel)
theorem sc_bits_of : FnScope ["top", "low", "many", "found", "turn"] ["top", "low", "many"] (defScope (top 14)) := scB_ok (by decide +kernel)
theorem sc_ahead_of : FnScope ["top", "low", "many"] ["top", "low"] (defScope (top 15)) := scB_ok (by decide +kernel)
theorem sc_need_bits : FnScope ["value", "index", "one"] ["value"] (defScope (top 16)) := scB_ok (by decide +kernel)
theorem sc_value_of : FnScope ["told", "found", "one"] ["told"] (defScope (top 18)) := scB_ok (by decide +kernel)
theorem sc_power_of_two : FnScope ["many", "found", "turn"] ["many"] (defScope (top 19)) := scB_ok (by decide +kernel)
theorem sc_length_of : FnScope ["low", "rest", "many"] ["low"] (defScope (top 22)) := scB_ok (by decide +kernel)
theorem sc_need_short : FnScope ["fraction"] ["fraction"] (defScope (top 23)) := scB_ok (by decide +kernel)
theorem sc_one_round : FnScope ["fraction", "many", "top"] ["fraction"] (defScope (top 24)) := scB_ok (by decide +kernel)
theorem sc_need_low : FnScope ["low", "most"] ["low", "most"] (defScope (top 26)) := scB_ok (by decide +kernel)
theorem sc_least_rest : FnScope ["low", "told"] ["low", "told"] (defScope (top 28)) := scB_ok (by decide +kernel)
theorem sc_tops_by : FnScope ["low", "told", "rest"] ["low", "told"] (defScope (top 29)) := scB_ok (by decide +kernel)
theorem sc_tops_with : FnScope ["low", "told"] ["low", "told"] (defScope (top 30)) := scB_ok (by decide +kernel)
theorem sc_kth_top : FnScope ["low", "told", "k", "many"] ["low", "told", "k"] (defScope (top 31)) := scB_ok (by decide +kernel)
theorem sc_first_place : FnScope ["fraction", "told", "top", "low", "whole", "row", "at"] ["fraction", "told"] (defScope (top 32)) := scB_ok (by decide +kernel)
theorem sc_windows_of : FnScope ["fraction", "many", "told", "row", "at"] ["fraction", "many"] (defScope (top 33)) := scB_ok (by decide +kernel)
theorem sc_places_with : FnScope ["fraction", "told"] ["fraction", "told"] (defScope (top 34)) := scB_ok (by decide +kernel)
theorem sc_window_count : FnScope ["fraction", "many"] ["fraction", "many"] (defScope (top 35)) := scB_ok (by decide +kernel)
theorem sc__law_taken : FnScope ["_law_row", "_law_many", "_law_found", "_law_cell"] ["_law_row", "_law_many"] (defScope (top 37)) := scB_ok (by decide +kernel)
theorem sc__law_gcd : FnScope ["_law_one", "_law_other"] ["_law_one", "_law_other"] (defScope (top 38)) := scB_ok (by decide +kernel)
theorem sc__law_least : FnScope ["_law_top", "_law_low", "_law_by"] ["_law_top", "_law_low"] (defScope (top 39)) := scB_ok (by decide +kernel)
theorem sc__law_fraction : FnScope ["_law_row", "_law_most", "_law_low", "_law_size", "_law_top"] ["_law_row", "_law_most"] (defScope (top 40)) := scB_ok (by decide +kernel)
theorem sc__law_bits : FnScope ["_law_top", "_law_low", "_law_many", "_law_found", "_law_turn", "_law_bit_now"] ["_law_top", "_law_low", "_law_many"] (defScope (top 41)) := scB_ok (by decide +kernel)
theorem sc__law_bad : FnScope ["_law_row", "_law_some"] ["_law_row"] (defScope (top 42)) := scB_ok (by decide +kernel)
theorem sc__law_odd_bits : FnScope ["_law_row", "_law_some"] ["_law_row"] (defScope (top 43)) := scB_ok (by decide +kernel)
theorem sc__law_states : FnScope ["_law_top", "_law_low", "_law_seen", "_law_line"] ["_law_top", "_law_low"] (defScope (top 44)) := scB_ok (by decide +kernel)
theorem sc__law_at : FnScope ["_law_told", "_law_place", "_law_line", "_law_begin"] ["_law_told", "_law_place"] (defScope (top 45)) := scB_ok (by decide +kernel)
theorem sc__law_refused : FnScope ["_law_kind", "_law_first", "_law_told", "_law_found", "e"] ["_law_kind", "_law_first", "_law_told"] (defScope (top 46)) := scB_ok (by decide +kernel)
theorem sc_law : FnScope ["_law_script", "_law_row", "_law_top", "_law_low", "_law_line", "_law_begin", "_law_size", "_law_many", "_law_told", "_law_at_here", "_law_some", "_law_places", "_law_tops", "_law_windows", "_law_bits_wrong", "_law_index", "_law_kind", "_law_bad_here", "_law_place", "_law_k", "_law_one"] ["_law_script"] (defScope (top 47)) := scB_ok (by decide +kernel)
theorem sc_i_BadFraction : FnScope ["self"] ["self"] (defScope (meth 2 0)) := scB_ok (by decide +kernel)
theorem sc_i_BadNumber : FnScope ["self", "n"] ["self", "n"] (defScope (meth 3 0)) := scB_ok (by decide +kernel)
theorem sc_i_BadBits : FnScope ["self", "index"] ["self", "index"] (defScope (meth 4 0)) := scB_ok (by decide +kernel)
theorem sc_i_TooLong : FnScope ["self", "most"] ["self", "most"] (defScope (meth 5 0)) := scB_ok (by decide +kernel)
end CR
namespace CR
open PySem PySem.Spec PyProof.Rows L2
local macro_rules
  | `(tactic| walk_at "same") => `(tactic| first | exact Same.refl _ | assumption | (refine Same.trans ?_ (by assumption); walk_at "same"))
local macro_rules
  | `(tactic| walk_at "ifs") => `(tactic| first | rfl | (rw [if_pos (by assumption)]; done) | (rw [if_neg (by assumption)]; done) | (simp only [*, if_true, if_false, Bool.false_eq_true]; done) | (simp_all; done))
local macro_rules
  | `(tactic| walk_at "fin") => do
    let hs := Lean.mkIdent (Lean.Name.mkSimple "hs")
    `(tactic| first | refine fin_rt $hs (by walk_at "same") ?_ | refine fin_xc $hs (by walk_at "same") (by assumption) ?_ | refine fin_rtO $hs (by walk_at "same") ?_ | refine fin_xcO $hs (by walk_at "same") (by assumption) ?_)
local macro_rules
  | `(tactic| walk_at "clo") => `(tactic| first | (decide; done) | exact ⟨by decide, by decide⟩ | exact ⟨by decide, by decide +kernel⟩ | (exfalso; refine absurd ?_ ‹¬ _›; decide +kernel) | (exfalso; refine absurd ‹_ = true› ?_; decide +kernel) | (exfalso; refine absurd ‹_ = false› ?_; decide +kernel) | (exfalso; refine absurd (‹(_ : Int) = _›) ?_; decide +kernel) | (exfalso; refine absurd (‹(_ : Int) < _›) ?_; decide +kernel))
/-- go N=..;C=..;B=..;T=..;I=..;R=.. : one step -/
local macro_rules
  | `(tactic| walk_at $s:str) => do
    let k0 := s.getString
    unless k0.startsWith "go " || k0.startsWith "gor " do Lean.Macro.throwUnsupported
    let rep := k0.startsWith "gor "
    let k := if rep then "go " ++ (k0.splitOn "@").getD 1 "" else k0
    let parts := (k.drop 3).toString.splitOn ";"
    let get (i : Nat) : List String := ((parts.getD i "").splitOn ",").filter fun x => x != ""
    let sl (x : String) := Lean.Syntax.mkStrLit x
    let id (x : String) := Lean.mkIdent (Lean.Name.mkSimple x)
    let c := id "c"
    let hr := id "hr"
    let hO1 := id "hO1"
    let fold (l : List (Lean.TSyntax `tactic)) : Lean.MacroM (Lean.TSyntax `tactic) := do
      let e ← `(tactic| fail)
      l.foldrM (fun t acc => `(tactic| first | $t:tactic | $acc:tactic)) e
    let ns := get 0
    let mut nm : List (Lean.TSyntax `tactic) := []
    let mut st : List (Lean.TSyntax `tactic) := []
    let mut su : List (Lean.TSyntax `tactic) := []
    let mut sr : List (Lean.TSyntax `tactic) := []
    let sc := id ("sc_" ++ (parts.getD 6 ""))
    for (x, i) in ns.zip (List.range ns.length) do
      nm := nm ++ [← `(tactic| ((with_reducible show EvP _ _ (.Name $(sl x) _) _ _ _ _); refine evp_var (i := $(Lean.Syntax.mkNatLit i)) (x := $(sl x)) rfl ?_))]
      st := st ++ [← `(tactic| ((with_reducible show Wp1 _ _ (.Assign [.Name $(sl x) _] _ _) _ _ _ _); refine wp_set (i := $(Lean.Syntax.mkNatLit i)) (x := $(sl x)) ?_ $(sc).nd))]
    for x in get 4 do nm := nm ++ [← `(tactic| ((with_reducible show EvP _ _ (.Name $(sl x) _) _ _ _ _); refine evp_gi (x := $(sl x)) ($(id ("g_" ++ x)) $c) ?_))]
    for x in get 12 do nm := nm ++ [← `(tactic| ((with_reducible show EvP _ _ (.Name $(sl x) _) _ _ _ _); refine evp_gts (x := $(sl x)) ($(id ("g_" ++ x)) $c) ?_))]
    for x in get 3 do nm := nm ++ [← `(tactic| ((with_reducible show EvP _ _ (.Name $(sl x) _) _ _ _ _); refine evp_gty (x := $(sl x)) ($(id ("g_" ++ x)) $c) $(id ("bt_" ++ x)) ?_))]
    for x in get 7 do
      let q := x.splitOn ":"
      let n (i : Nat) := Lean.Syntax.mkNatLit ((q.getD i "0").toNat?.getD 0)
      let t (i : Nat) := sl (q.getD i "")
      if q.length == 4 then
        su := su ++ [← `(tactic| refine wp_par (i := $(n 0)) (x := $(t 1)) (j := $(n 2)) (y := $(t 3)) ?_ rfl $(sc).nd), ← `(tactic| refine wp_unp2 (i := $(n 0)) (x := $(t 1)) (j := $(n 2)) (y := $(t 3)) ?_ rfl $(sc).nd)]
      else if q.length == 8 then
        su := su ++ [← `(tactic| refine wp_unp4 (i := $(n 0)) (x := $(t 1)) (j := $(n 2)) (y := $(t 3)) (l := $(n 4)) (z := $(t 5)) (m := $(n 6)) (w := $(t 7)) ?_ rfl $(sc).nd)]
      else
        su := su ++ [← `(tactic| refine wp_par3 (i := $(n 0)) (x := $(t 1)) (j := $(n 2)) (y := $(t 3)) (l := $(n 4)) (z := $(t 5)) ?_ rfl $(sc).nd), ← `(tactic| refine wp_unp3 (i := $(n 0)) (x := $(t 1)) (j := $(n 2)) (y := $(t 3)) (l := $(n 4)) (z := $(t 5)) ?_ rfl $(sc).nd)]
    for x in get 8 do
      let q := x.splitOn ":"
      if q.length == 1 then
        sr := sr ++ [← `(tactic| refine wp_raise0 (x := $(sl x)) ($(id ("ex_" ++ x)) $c) $hr (by decide) rfl ?_)]
      else
        sr := sr ++ [← `(tactic| refine wp_raise1 (x := $(sl (q.getD 0 ""))) (f := $(sl (q.getD 1 ""))) ($(id ("ex_" ++ q.getD 0 "")) $c) $hr (by decide) rfl ?_)]
    for x in get 5 do nm := nm ++ [← `(tactic| ((with_reducible show EvP _ _ (.Name $(sl x) _) _ _ _ _); refine evp_gref (x := $(sl x)) ($(id ("g_" ++ x)) $c) ?_))]
    let mut cl : List (Lean.TSyntax `tactic) := []
    for x in get 1 do cl := cl ++ [← `(tactic| ((with_reducible show EvP _ _ (.Call (.Name $(sl x) _) _ _ _) _ _ _ _); first | refine evp_call (x := $(sl x)) ($(id ("fc_" ++ x)) $c) $hr (by decide) ?_ | refine evp_call0 (x := $(sl x)) ($(id ("fc_" ++ x)) $c) $hr (by decide) ?_))]
    for x in get 2 do cl := cl ++ [← `(tactic| ((with_reducible show EvP _ _ (.Call (.Name $(sl x) _) _ _ _) _ _ _ _); refine evp_callB (x := $(sl x)) ($(id ("g_" ++ x)) $c) $(id ("bt_" ++ x)) ?_))]
    for x in get 3 do cl := cl ++ [← `(tactic| ((with_reducible show EvP _ _ (.Call (.Name $(sl x) _) _ _ _) _ _ _ _); refine evp_callT (x := $(sl x)) ($(id ("g_" ++ x)) $c) $(id ("bt_" ++ x)) ?_))]
    let mut zc : List (Lean.TSyntax `tactic) := []
    for y in get 9 do
      let mut zd : List (Lean.TSyntax `tactic) := []
      for x in get 10 do
        if x == y || y == "CarryError" then
          zd := zd ++ [← `(tactic| refine zcl_hit ($(id ("m_" ++ x ++ "_" ++ y)) $c) ($(id ("g_" ++ x)) $c) (by assumption) ?_)]
        else
          zd := zd ++ [← `(tactic| refine zcl_miss ($(id ("m_" ++ x ++ "_" ++ y)) $c) ($(id ("g_" ++ x)) $c) (by assumption) ?_)]
      let zdT ← fold zd
      zc := zc ++ [← `(tactic| ((with_reducible show zCl _ _ _ (⟨Value.ref (He.ga $(id "K") $(sl y)), _, _⟩ :: _) _ _ _ _ _); $zdT:tactic))]
    let zcT ← fold zc
    let mut xf : List (Lean.TSyntax `tactic) := []
    for x in get 11 do xf := xf ++ [← `(tactic| refine evp_xf ($(id ("xf_" ++ x)) $c) ($(id ("nf_" ++ x)) $c) (by assumption) (by assumption) (by assumption) rfl ?_)]
    let xfT ← fold xf
    -- own classes: NAME/mode/fields
    let mut fl : List (Lean.TSyntax `tactic) := []
    let mut sf : List (Lean.TSyntax `tactic) := []
    let mut ci : List (Lean.TSyntax `tactic) := []
    let mut oe : List (Lean.TSyntax `tactic) := []
    let mut ol : List (Lean.TSyntax `tactic) := []
    let mut om : List (Lean.TSyntax `tactic) := []
    for x in get 13 do
      let q := x.splitOn "/"
      let n := q.getD 0 ""
      let kcn := id ("kc_" ++ n)
      let cln := id ("cls_" ++ n)
      ci := ci ++ [← `(tactic| ((with_reducible show CallD _ _ [D.ins _ _, _] _ _ _); refine calld_insY ($(id ("ic_" ++ n)) $c) ?_)), ← `(tactic| refine calld_insN ($(id ("ic_" ++ n)) $c) rfl (by decide) ?_)]
      if q.getD 1 "" == "f" then
        cl := cl ++ [← `(tactic| ((with_reducible show EvP _ _ (.Call (.Name $(sl n) _) _ _ _) _ _ _ _); refine EvP.frzI (evp_make ($kcn $c) $hr (by decide) ?_)))]
      else
        cl := cl ++ [← `(tactic| ((with_reducible show EvP _ _ (.Call (.Name $(sl n) _) _ _ _) _ _ _ _); first | refine evp_make0 ($kcn $c) $hr (by decide) ?_ | refine evp_make ($kcn $c) $hr (by decide) ?_))]
      for f0 in q.drop 2 do
       if f0.startsWith "+" then
        let m := (f0.drop 1).toString
        let mtn := id ("mt_" ++ n ++ "_" ++ m)
        let fcn := id ("fc_" ++ n ++ "_" ++ m)
        if m == "__eq__" then
          oe := oe ++ [← `(tactic| ((with_reducible show OpD _ (compareOp .Eq) (D.ins _ _) _ _ _); refine opd_eqo ($mtn $c) ($fcn $c) $hr (by decide) (by first | exact EqTy.ins _ | exact EqTy.tup _ ($(id ("nt_" ++ n)) $c)) ?_))]
        else if m == "__len__" then
          let fcn ← `(Fa.perm ($fcn $c))
          ol := ol ++ [← `(tactic| first | refine calld_lenC (j := 0) ($mtn $c) $fcn $hr (by decide) rfl ?_ | refine calld_lenC (j := 1) ($mtn $c) $fcn $hr (by decide) rfl ?_ | refine calld_lenC (j := 2) ($mtn $c) $fcn $hr (by decide) rfl ?_ | refine calld_lenC (j := 3) ($mtn $c) $fcn $hr (by decide) rfl ?_ | refine calld_lenC (j := 4) ($mtn $c) $fcn $hr (by decide) rfl ?_ | refine calld_lenC (j := 5) ($mtn $c) $fcn $hr (by decide) rfl ?_)]
        else
          om := om ++ [← `(tactic| ((with_reducible show EvP _ _ (.Call (.Attribute _ $(sl m) _) _ _ _) _ _ _ _); first | refine evp_ownM0 ($cln $c) ($mtn $c) (Fa.perm ($fcn $c)) $hr (by decide) ?_ | refine evp_ownM ($cln $c) ($mtn $c) (Fa.perm ($fcn $c)) $hr (by decide) ?_))]
       else if f0.startsWith "^" then
        let f := (f0.drop 1).toString
        fl := fl ++ [← `(tactic| ((with_reducible show EvP _ _ (.Attribute _ $(sl f) _) _ _ _ _); refine evp_last ($cln $c) ($(id ("gl_" ++ n ++ "_" ++ f)) $c) $hr (by decide) ?_))]
       else if f0.startsWith "!" then
        let f := (f0.drop 1).toString
        let gtn := id ("gt_" ++ n ++ "_" ++ f)
        if q.getD 1 "" == "f" then
          fl := fl ++ [← `(tactic| ((with_reducible show EvP _ _ (.Attribute _ $(sl f) _) _ _ _ _); refine evp_prop ($cln $c) ($gtn $c) $hr (by decide) ?_))]
        else
          fl := fl ++ [← `(tactic| ((with_reducible show EvP _ _ (.Attribute _ $(sl f) _) _ _ _ _); refine evp_propO ($cln $c) ($gtn $c) $hr (by decide) ?_))]
       else
        let f := f0
        let nan := id ("na_" ++ n ++ "_" ++ f)
        if q.getD 1 "" == "f" then
          fl := fl ++ [← `(tactic| ((with_reducible show EvP _ _ (.Attribute _ $(sl f) _) _ _ _ _); refine evp_fld ($cln $c) ($nan $c) ?_))]
        else
          fl := fl ++ [← `(tactic| ((with_reducible show EvP _ _ (.Attribute _ $(sl f) _) _ _ _ _); refine evp_fldO ($cln $c) ($nan $c) ?_))]
        sf := sf ++ [← `(tactic| ((with_reducible show Wp1 _ _ (.Assign [.Attribute _ $(sl f) _] _ _) _ _ _ _); refine wp_setF ($cln $c) ($nan $c) ?_))]
    let flT ← fold fl
    let sfT ← fold sf
    let ciT ← fold ci
    let oeT ← fold oe
    let olT ← fold ol
    let omT ← fold om
    let mut fc : List (Lean.TSyntax `tactic) := []
    for x in get 5 do fc := fc ++ [← `(tactic| refine ⟨_, _, _, _, rfl, Fc.fa ($(id ("fc_" ++ x)) $c) ($(id ("g_" ++ x)) $c), by decide, ?_⟩)]
    let fcT ← fold fc
    let mut sp : List (Lean.TSyntax `tactic) := []
    for x in get 1 ++ get 5 ++ get 14 do sp := sp ++ [← `(tactic| with_reducible apply $(id ("u_" ++ x))), ← `(tactic| with_reducible apply $(id ("u2_" ++ x))), ← `(tactic| with_reducible apply $(id ("u3_" ++ x)))]
    let spT ← fold sp
    let nmT ← fold nm
    let stT ← fold st
    let clT ← fold cl
    let suT ← fold su
    let srT ← fold sr
    let body ← `(tactic| first
      | ((with_reducible show EvP _ _ _ _ _ _ _)
         first
           | ((with_reducible show EvP _ _ (.Name _ _) _ _ _ _); $nmT:tactic)
           | ((with_reducible show EvP _ _ (.Constant _ _ _) _ _ _ _); first | refine evp_int ?_ | refine evp_str ?_ | refine evp_bl ?_ | refine evp_non ?_)
           | ((with_reducible show EvP _ _ (.BinOp _ _ _ _) _ _ _ _); refine evp_bin ?_)
           | ((with_reducible show EvP _ _ (.Call _ _ _ _) _ _ _ _)
              first
                | ((with_reducible show EvP _ _ (.Call (.Name _ _) _ _ _) _ _ _ _); $clT:tactic)
                | ((with_reducible show EvP _ _ (.Call (.Attribute _ _ _) _ _ _) _ _ _ _); $omT:tactic)
                | ((with_reducible show EvP _ _ (.Call (.Attribute (.Name "pattern" _) "count" _) [_] [] _) _ _ _ _); refine evp_scount ?_)
                | ((with_reducible show EvP _ _ (.Call (.Attribute _ "join" _) [_] [] _) _ _ _ _); refine evp_join ?_)
                | ((with_reducible show EvP _ _ (.Call (.Attribute _ "split" _) [_] [] _) _ _ _ _); refine evp_split ?_)
                | ((with_reducible show EvP _ _ (.Call (.Attribute _ _ _) [_] [] _) _ _ _ _); first | refine evp_count ?_ | refine evp_index ?_)
                | ((with_reducible show EvP _ _ (.Call (.Attribute _ _ _) [] [] _) _ _ _ _); refine evp_pop ?_)
                | refine evp_callE $hr ?_)
           | ((with_reducible show EvP _ _ (.Subscript _ _ _) _ _ _ _)
              first
                | ((with_reducible show EvP _ _ (.Subscript _ (.Slice _ _ none _) _) _ _ _ _); refine evp_slice ?_)
                | ((with_reducible show EvP _ _ (.Subscript _ (.Slice none none (some _) _) _) _ _ _ _); refine evp_revT ?_)
                | refine evp_ix ?_)
           | ((with_reducible show EvP _ _ (.Tuple _ _ _) _ _ _ _); refine evp_tup ?_)
           | ((with_reducible show EvP _ _ (.Compare _ _ _ _) _ _ _ _)
              first | ((with_reducible show EvP _ _ (.Compare _ [.In] _ _) _ _ _ _); refine evp_in ?_) | ((with_reducible show EvP _ _ (.Compare _ [.NotIn] _ _) _ _ _ _); refine evp_notin ?_) | ((with_reducible show EvP _ _ (.Compare _ [_] [.List [] _] _) _ _ _ _); refine evp_cmpN ?_) | ((with_reducible show EvP _ _ (.Compare _ [_] _ _) _ _ _ _); refine evp_cmp ?_) | refine evp_chain ?_)
           | ((with_reducible show EvP _ _ (.List _ _) _ _ _ _)
              first | ((with_reducible show EvP _ _ (.List [] _) _ _ _ _); refine evp_lstO ?_) | refine evp_lst ?_)
           | ((with_reducible show EvP _ _ (.UnaryOp _ _ _) _ _ _ _); first | refine evp_not ?_ | refine evp_un ?_)
           | ((with_reducible show EvP _ _ (.BoolOp _ _ _) _ _ _ _); first | refine evp_and ?_ | refine evp_or ?_ | refine evp_one ?_)
           | ((with_reducible show EvP _ _ (.IfExp _ _ _ _) _ _ _ _); refine evp_if ?_)
           | ((with_reducible show EvP _ _ (.Attribute _ _ _) _ _ _ _); first | $xfT:tactic | $flT:tactic)
           | ((with_reducible show EvP _ _ (.Dict [] [] _) _ _ _ _); refine evp_emp ?_)
           | ((with_reducible show EvP _ _ (.Dict _ _ _) _ _ _ _); first | refine evp_disp (ks := [_, _, _]) rfl fun _ => ?_ | refine evp_disp (ks := [_]) rfl fun _ => ?_ | refine evp_disp (ks := [_, _]) rfl fun _ => ?_))
      | ((with_reducible show OpD _ _ _ _ _ _)
         first
           | ((with_reducible show OpD _ (binaryOp .Add) _ _ _ _); first | with_reducible refine opd_add ?_ | with_reducible refine opd_cat1 ?_ ?_ | with_reducible refine opd_catT ?_ ?_ | with_reducible refine opd_catL ?_ ?_ | with_reducible refine opd_catS ?_ ?_)
           | ((with_reducible show OpD _ (binaryOp .Mult) _ _ _ _); first | with_reducible refine opd_mul ?_ ?_ | ((with_reducible show OpD _ (binaryOp .Mult) (.str _) (.int _) _ _); refine opd_mulS (by decide +kernel) ?_) | ((with_reducible show OpD _ (binaryOp .Mult) (.tup _) (.int _) _ _); refine opd_repT (by first | (simp; done) | fail) (by first | decide | omega) (by first | decide | omega) (by first | (simp only [List.length_cons, List.length_nil]; omega) | (simp only [List.length_map]; omega)) ?_) | ((with_reducible show OpD _ (binaryOp .Mult) (.tup [_]) (.int _) _ _); refine opd_repA (by simp) (by first | decide | omega) (by first | decide | omega) (by decide) ?_) | ((with_reducible show OpD _ (binaryOp .Mult) (.lst [_]) (.int _) _ _); refine opd_repL (by first | decide | omega) (by first | decide | omega) (by rw [sizeLine_eq]; simp only [List.length_cons, List.length_nil]; omega) ?_) | fail)
           | ((with_reducible show OpD _ (binaryOp .Sub) _ _ _ _); with_reducible refine opd_sub ?_)
           | ((with_reducible show OpD _ (compareOp .NotEq) _ _ _ _); first | with_reducible refine opd_neS $hr (by first | rfl | assumption | decide +kernel) (by first | rfl | assumption | decide +kernel) ?_ | with_reducible refine opd_neI ?_ | with_reducible refine opd_neN $hr (by first | exact okD_ints _ _ | exact okD_tupIs _ | assumption | decide +kernel) ?_ | with_reducible refine opd_neNT $hr (by first | exact okD_ints _ _ | assumption | decide +kernel) ?_ | with_reducible refine opd_neP $hr ?_ | with_reducible refine opd_neTs $hr ?_ | with_reducible refine opd_neLs $hr ?_ | ((with_reducible show OpD _ (compareOp .NotEq) .non .non _ _); refine opd_neR $hr rfl ?_))
           | ((with_reducible show OpD _ (compareOp .Eq) (D.ins _ _) _ _ _); $oeT:tactic)
           | ((with_reducible show OpD _ (compareOp .Eq) _ _ _ _); first | with_reducible refine opd_eqS $hr (by first | rfl | assumption | decide +kernel) (by first | rfl | assumption | decide +kernel) ?_ | with_reducible refine opd_eqI ?_ | with_reducible refine opd_eqN $hr (by first | exact okD_ints _ _ | assumption | decide +kernel) ?_ | with_reducible refine opd_eqNT $hr (by first | exact okD_ints _ _ | assumption | decide +kernel) ?_ | with_reducible refine opd_eqP $hr ?_ | with_reducible refine opd_eqTs $hr ?_ | with_reducible refine opd_eqLs $hr ?_ | ((with_reducible show OpD _ (compareOp .Eq) .non .non _ _); refine opd_eqR $hr rfl ?_))
           | ((with_reducible show OpD _ (binaryOp .Mod) _ _ _ _); with_reducible refine opd_mod ?_ ?_)
           | ((with_reducible show OpD _ (binaryOp .FloorDiv) _ _ _ _); with_reducible refine opd_fdiv ?_ ?_)
           | ((with_reducible show OpD _ (compareOp .Lt) _ _ _ _); with_reducible refine opd_lt ?_)
           | ((with_reducible show OpD _ (compareOp .LtE) _ _ _ _); with_reducible refine opd_le ?_)
           | ((with_reducible show OpD _ (compareOp .Gt) _ _ _ _); with_reducible refine opd_gt ?_)
           | ((with_reducible show OpD _ (compareOp .GtE) _ _ _ _); with_reducible refine opd_ge ?_)
           | ((with_reducible show OpD _ (binaryOp .Pow) _ _ _ _); (with_reducible refine opd_powL (v := ?_) ?_ ?_ ?_); rotate_left 1; focus (first | (simp only [Int.reduceToNat, Int.reducePow]; exact rfl) | exact rfl))
           | ((with_reducible show OpD _ (compareOp .Is) _ .non _ _); first | with_reducible refine opd_is0 ?_ | refine opd_is1 rfl (by intro _ q; cases q) ?_)
           | ((with_reducible show OpD _ (compareOp .IsNot) _ .non _ _); first | with_reducible refine opd_isnt0 ?_ | refine opd_isnt1 rfl (by intro _ q; cases q) ?_))
      | ((with_reducible show ArP _ _ _ _ _ _ _); first | refine arp_cons ?_ | refine arp_nil ?_)
      | ((with_reducible show DsP _ _ _ _ _ _ _ _); first | refine dsp_str ?_ | refine dsp_nil ?_)
      | ((with_reducible show Wp1 _ _ _ _ _ _ _)
         first
           | ((with_reducible show Wp1 _ _ (.Assign [.Name _ _] _ _) _ _ _ _); $stT:tactic)
           | ((with_reducible show Wp1 _ _ (.Return (some _) _) _ _ _ _); refine wp_ret ?_)
           | ((with_reducible show Wp1 _ _ (.If _ _ _ _) _ _ _ _); refine wp_if ?_)
           | ((with_reducible show Wp1 _ _ (.Assign [.Attribute _ _ _] _ _) _ _ _ _); $sfT:tactic)
           | ((with_reducible show Wp1 _ _ (.Assign [.Tuple _ _ _] _ _) _ _ _ _); $suT:tactic)
           | ((with_reducible show Wp1 _ _ (.Raise _ _ _) _ _ _ _); $srT:tactic)
           | ((with_reducible show Wp1 _ _ (.Expr (.Call (.Attribute _ _ _) _ _ _) _) _ _ _ _); first | refine wp_append ?_ | refine wp_extend ?_ | refine wp_reverse ?_ | refine wp_drop ?_)
           | ((with_reducible show Wp1 _ _ (.Expr _ _) _ _ _ _); refine wp_drop ?_)
           | ((with_reducible show Wp1 _ _ (.Assign [.Subscript _ _ _] _ _) _ _ _ _); refine wp_setS $hr ?_)
           | refine wp_retN ?_
           | refine wp_pass ?_)
      | ((with_reducible show WpS _ _ _ _ _ _ _); first | refine wps_one ?_ | refine wps_cons ?_ | refine wps_nil ?_)
      | ((with_reducible show _ ∧ _)
         first
           | ((with_reducible show (_ = true → _) ∧ (_ = false → _))
              first | with_reducible refine bs_t ?_ | with_reducible refine bs_nt ?_ | with_reducible refine bs_nf ?_ | with_reducible refine bs_f ?_ | (with_reducible refine bs_d ?_ ?_ <;> intro) | (with_reducible refine bs_nd ?_ ?_ <;> intro) | (with_reducible refine bs_n ?_ ?_ <;> intro) | (with_reducible refine bs_b ?_ ?_ <;> intro))
           | ((with_reducible show List.length _ ≤ sizeLine ∧ _)
              first | ((with_reducible show List.length _ ≤ sizeLine ∧ (∀ p : Addr, _)); refine ⟨Nat.le_of_ble_eq_true rfl, fun _ => ?_⟩) | refine ⟨Nat.le_of_ble_eq_true rfl, ?_⟩)
           | ((with_reducible show List.length _ ≤ 15 ∧ ∃ O2, _); refine ⟨Nat.le_of_ble_eq_true rfl, _, rfl, ?_⟩)
           | ((with_reducible show D.raw _ = D.raw _ ∧ _); refine ⟨rfl, ?_⟩)
           | ((with_reducible show (_ : OW) = _ ∧ (∃ b, D.bl _ = D.bl b) ∧ _); refine ⟨rfl, ⟨_, rfl⟩, ?_⟩)
           | ((with_reducible show (_ : OW) = _ ∧ (∃ n : Nat, D.int _ = D.int n ∧ _) ∧ _); refine ⟨rfl, ⟨_, rfl, ?_⟩, ?_⟩)
           | ((with_reducible show D.non = D.non ∧ _); refine ⟨rfl, ?_⟩)
           | ((with_reducible show TyD _ _ _ ∧ _); first | refine ⟨.lst _, ?_⟩ | refine ⟨.str _, ?_⟩ | refine ⟨.own (j := 0) rfl, ?_⟩ | refine ⟨.own (j := 1) rfl, ?_⟩ | refine ⟨.own (j := 2) rfl, ?_⟩)
           | ((with_reducible show pl1 _ = true ∧ pl1 _ = true); exact ⟨rfl, rfl⟩)
           | ((with_reducible show pl1 _ = true ∧ _); refine ⟨?_, ?_⟩)
           | ((with_reducible show isFr _ = true ∧ _); refine ⟨?_, ?_⟩)
           | ((with_reducible show 0 < _ ∧ _ ≤ lim); first | (simp only [lim, List.length_map, List.length_cons, List.length_nil, bitsM_length]; omega) | (simp only [lim, List.length_map, List.length_cons, List.length_nil, bitsM_length] at *; omega))
           | ((with_reducible show (0 : Int) ≤ _ ∧ _ ≤ 64); omega)
           | ((with_reducible show (0 : Int) ≤ _ ∧ _ ≤ mst); simp only [mst]; omega)
           | ((with_reducible show (∀ b ∈ bitsM _ _ _, _) ∧ _); exact ⟨bitsM_bit _ _ _, by rw [bitsM_length]; first | decide | omega⟩)
           | ((with_reducible show _ < 2 ^ 8000 ∧ -(2 ^ 62) ≤ _ ∧ _); exact ⟨by assumption, by first | decide | omega, by first | decide | omega⟩)
           | ((with_reducible show 1 ≤ _ ∧ _ ≤ (1000000000000000000000000000000 : Int)); first | omega | (simp only [sel2, sel3, sel4]; (repeat' split) <;> omega)))
      | ((with_reducible show ∀ x, _)
         first
           | ((with_reducible show ∀ F2 : Hp, Same _ F2 → _)
              first | ((with_reducible show ∀ F2 c, Same _ F2 → _ = some c → _); intro _ _ _ _) | intro _ _)
           | ((with_reducible show ∀ F2 c, Same _ F2 → _ = some c → _); intro _ _ _ _)
           | ((with_reducible show ∀ (x : Int) (r2 : List D), 0 ≤ x → _ < _ → _); intro _ _ _ _ _ _ _)
           | ((with_reducible show ∀ (s : Shared) (H : Hp) (C : Addr) (cl : List (Str × Addr)) (fp : List Addr), EvP _ _ _ _ _ _ _); intro _ _ _ _ _)
           | ((with_reducible show ∀ (s : Shared) (H : Hp) (C : Addr) (cl : List (Str × Addr)) (fp : List Addr), TtP _ _ _ _ _ _ _); intro _ _ _ _ _)
           | ((with_reducible show ¬ _ → _)
              first
                | ((with_reducible show ¬ (_ ∧ _) → _); exact fun q => absurd ⟨by assumption, by assumption⟩ q)
                | exact fun q => absurd (by assumption) q
                | ((with_reducible show ¬ _ → ∀ F2 c, Same _ F2 → _ = some c → _); intro _ _ _ _ _)
                | intro _)
           | ((with_reducible show _ = true → _)
              first | ((with_reducible show _ = true → ∀ F2 : Hp, Same _ F2 → _); intro _ _ _) | intro _)
           | ((with_reducible show _ ∧ _ → ∀ F2 : Hp, Same _ F2 → _); intro _ _ _)
           | ((with_reducible show ∀ (ad : Addr) (oe : Obj) (d : Option Addr) (pn : List (Addr × Obj)), Zc _ d oe → _); intro _ _ _ _ _ _ _)
           | ((with_reducible show ∀ (p dx : Addr), Spec.s _ _ _ _ _ _); intro _ _)
           | ((with_reducible show ∀ (O : OW), Spec.s _ _ _ _ _ _); intro _)
           | ((with_reducible show ∀ c, _ = some c → _); intro _ _)
           | ((with_reducible show ∀ n : Nat, n ≤ 1001 → _); intro _ _ _ _ _ _ _)
           | ((with_reducible show ∀ (a b : Int) (r2 : List D), _ → RowOk r2 → _); intro _ _ _ _ _ _ _)
           | ((with_reducible show ∀ (ts : List Int) (r2 : List D), Bits ts ∧ _ → RowOk r2 → _); intro _ _ _ _ _ _)
           | ((with_reducible show ∀ (v : D) (r2 : List D), _ = true → RowOk r2 → _); intro _ _ _ _ _ _)
           | ((with_reducible show ∀ (r2 : List D), RowOk r2 → _); intro _ _ _ _)
           | ((with_reducible show ∀ (v due : D) (r2 : List D), _ → RowOk r2 → _); intro _ _ _ _ _ _ _))
      | ((with_reducible show Spec.s _ _ _ _ _ _); $spT:tactic)
      | ((with_reducible show Exists _)
         first
           | ((with_reducible show ∃ k, D.bl _ = D.bl k ∧ _); refine ⟨_, rfl, ?_⟩)
           | ((with_reducible show ∃ (a : Addr) (k' : Nat) (ps : List Str) (S : Spec), D.raw _ = _ ∧ _)
              $fcT:tactic)
           | ((with_reducible show ∃ p, D.raw (V.ref _) = D.raw (V.ref p) ∧ (∃ xs, _ ∈ _) ∧ _)
              refine ⟨_, rfl, ?_, ?_⟩
              focus (first | exact ⟨_, List.mem_cons_self⟩ | exact ⟨_, List.mem_cons_of_mem _ List.mem_cons_self⟩ | exact ⟨_, List.mem_cons_of_mem _ (List.mem_cons_of_mem _ List.mem_cons_self)⟩ | exact ⟨_, List.mem_cons_of_mem _ (List.mem_cons_of_mem _ (List.mem_cons_of_mem _ List.mem_cons_self))⟩))
           | ((with_reducible show ∃ j xs, _ = some (_, OE.lst xs) ∧ _ < sizeLine ∧ _)
              first | refine ⟨0, _, rfl, ?_, ?_⟩ | refine ⟨1, _, rfl, ?_, ?_⟩ | refine ⟨2, _, rfl, ?_, ?_⟩ | refine ⟨3, _, rfl, ?_, ?_⟩)
           | ((with_reducible show ∃ a b, (_ = D.tup [a, b] ∨ _ = D.lst [a, b]) ∧ _)
              first | refine ⟨_, _, .inl rfl, ?_⟩ | refine ⟨_, _, .inr rfl, ?_⟩)
           | ((with_reducible show ∃ xs, WalkOf _ xs ∧ _)
              first | refine ⟨_, .tup _, ?_⟩ | refine ⟨_, .lst _, ?_⟩ | refine ⟨_, .frl _, ?_⟩ | refine ⟨_, .str _, ?_⟩)
           | ((with_reducible show ∃ a b c, D.tup _ = D.tup [a, b, c] ∧ _); refine ⟨_, _, _, rfl, ?_⟩)
           | ((with_reducible show ∃ a b c d, D.tup _ = D.tup [a, b, c, d] ∧ _); refine ⟨_, _, _, _, rfl, ?_⟩)
           | ((with_reducible show ∃ fs y, _ = D.ins _ fs ∧ _); refine ⟨_, _, rfl, rfl, ?_⟩)
           | ((with_reducible show ∃ p C dx fs O', D.raw (V.ref _) = D.raw (V.ref p) ∧ _ = (p, OE.ins C dx fs) :: O' ∧ _); refine ⟨_, _, _, _, _, rfl, rfl, ?_⟩)
           | ((with_reducible show ∃ (j : Nat) (p dx : Addr) (fs : List (Str × D)) (y : D), D.raw _ = D.raw (V.ref p) ∧ _); first | refine ⟨0, _, _, _, _, rfl, rfl, rfl, ?_⟩ | refine ⟨1, _, _, _, _, rfl, rfl, rfl, ?_⟩ | refine ⟨2, _, _, _, _, rfl, rfl, rfl, ?_⟩ | refine ⟨3, _, _, _, _, rfl, rfl, rfl, ?_⟩ | refine ⟨4, _, _, _, _, rfl, rfl, rfl, ?_⟩ | refine ⟨5, _, _, _, _, rfl, rfl, rfl, ?_⟩ | refine ⟨6, _, _, _, _, rfl, rfl, rfl, ?_⟩)
           | ((with_reducible show ∃ (j : Nat) (p dx : Addr) (fs : List (Str × D)) (q : Addr) (j2 : Nat) (xs : List D) (y : D), D.raw _ = D.raw (V.ref p) ∧ _); first | refine ⟨1, _, _, _, _, 0, _, _, rfl, rfl, rfl, rfl, (by first | exact szsM_at _ | exact L2.atI_last _ _ | assumption), ?_⟩ | refine ⟨2, _, _, _, _, 1, _, _, rfl, rfl, rfl, rfl, (by first | exact szsM_at _ | exact L2.atI_last _ _ | assumption), ?_⟩ | refine ⟨3, _, _, _, _, 2, _, _, rfl, rfl, rfl, rfl, (by first | exact szsM_at _ | exact L2.atI_last _ _ | assumption), ?_⟩ | refine ⟨4, _, _, _, _, 3, _, _, rfl, rfl, rfl, rfl, (by first | exact szsM_at _ | exact L2.atI_last _ _ | assumption), ?_⟩ | refine ⟨5, _, _, _, _, 4, _, _, rfl, rfl, rfl, rfl, (by first | exact szsM_at _ | exact L2.atI_last _ _ | assumption), ?_⟩ | refine ⟨6, _, _, _, _, 5, _, _, rfl, rfl, rfl, rfl, (by first | exact szsM_at _ | exact L2.atI_last _ _ | assumption), ?_⟩)
           | ((with_reducible show ∃ (j : Nat) (p dx : Addr) (fs : List (Str × D)), D.raw _ = D.raw (V.ref p) ∧ _); first | refine ⟨0, _, _, _, rfl, rfl, Nat.le_of_ble_eq_true rfl, ?_⟩ | refine ⟨1, _, _, _, rfl, rfl, Nat.le_of_ble_eq_true rfl, ?_⟩ | refine ⟨2, _, _, _, rfl, rfl, Nat.le_of_ble_eq_true rfl, ?_⟩ | refine ⟨0, _, _, _, rfl, rfl, rfl, ?_⟩ | refine ⟨1, _, _, _, rfl, rfl, rfl, ?_⟩ | refine ⟨2, _, _, _, rfl, rfl, rfl, ?_⟩ | refine ⟨3, _, _, _, rfl, rfl, rfl, ?_⟩ | refine ⟨4, _, _, _, rfl, rfl, rfl, ?_⟩ | refine ⟨5, _, _, _, rfl, rfl, rfl, ?_⟩)
           | ((with_reducible show ∃ a, D.str _ = D.str a ∧ _); refine ⟨_, rfl, ?_⟩)
           | ((with_reducible show ∃ xs, D.tup _ = D.tup xs ∧ _); refine ⟨_, rfl, ?_⟩)
           | ((with_reducible show ∃ xs, D.lst _ = D.lst xs ∧ _); refine ⟨_, rfl, ?_⟩))
      | ((with_reducible show TsP _ _ _ _ _ _ _)
         first | (with_reducible show TsP _ _ (.Compare _ [.In] _ _) _ _ _ _; refine tsp_in ?_) | (with_reducible show TsP _ _ (.Compare _ [.NotIn] _ _) _ _ _ _; refine tsp_notin ?_) | (with_reducible show TsP _ _ (.Compare _ [_] [.List [] _] _) _ _ _ _; refine tsp_cmpN ?_) | refine tsp_cmp ?_ | refine tsp_not ?_ | refine tsp_chain ?_ | (with_reducible show TsP _ _ (.BoolOp _ _ _) _ _ _ _; refine tsp_w ?_) | refine tsp_val ?_)
      | ((with_reducible show CallD _ _ _ _ _ _)
         first
           | ((with_reducible show CallD _ (.builtin "len") _ _ _ _); first | (with_reducible refine calld_len_str (by first | assumption | (rw [sizeLine_eq]; omega)) ?_) | with_reducible refine calld_len_tup ?_ | with_reducible refine calld_len_lst ?_ | with_reducible refine calld_len_frl ?_ | refine calld_len_own (j := 0) rfl ?_ | refine calld_len_own (j := 1) rfl ?_ | refine calld_len_own (j := 2) rfl ?_ | refine calld_len_own (j := 3) rfl ?_ | $olT:tactic)
           | ((with_reducible show CallD _ (.builtin "isinstance") _ _ _ _); first | refine calld_isi (b := true) rfl (by decide +kernel) ?_ | refine calld_isi (b := false) rfl (by decide +kernel) ?_ | $ciT:tactic)
           | ((with_reducible show CallD _ (.builtin "abs") _ _ _ _); with_reducible refine calld_abs ?_)
           | ((with_reducible show CallD _ (.type "int") _ _ _ _); first | with_reducible refine calld_int ?_ | with_reducible refine calld_intB ?_)
           | ((with_reducible show CallD _ (.builtin "max") _ _ _ _); first | with_reducible refine calld_max2 rfl ?_ | with_reducible refine calld_maxI rfl ?_ ?_)
           | ((with_reducible show CallD _ (.builtin "min") _ _ _ _); first | with_reducible refine calld_min2 rfl ?_ | with_reducible refine calld_minI rfl ?_ ?_)
           | ((with_reducible show CallD _ (.type "tuple") _ _ _ _); first | with_reducible refine calld_tuple ?_ | refine calld_tupleO (j := 0) rfl ?_ | refine calld_tupleO (j := 1) rfl ?_)
           | ((with_reducible show CallD _ (.builtin "sum") _ _ _ _); first | with_reducible refine calld_sum rfl ?_ | with_reducible refine calld_sumT rfl ?_)
           | ((with_reducible show CallD _ (.builtin "any") _ _ _ _); with_reducible refine calld_any rfl ?_)
           | ((with_reducible show CallD _ (.builtin "all") _ _ _ _); with_reducible refine calld_all rfl ?_)
           | ((with_reducible show CallD _ (.type "set") _ _ _ _); refine calld_setL rfl ?_ ?_)
           | ((with_reducible show CallD _ (.type "str") [.int _] _ _ _); refine calld_str ?_ ?_)
           | ((with_reducible show CallD _ (.type "list") _ _ _ _); first | with_reducible refine calld_list_tup ?_ | with_reducible refine calld_list_lst ?_ | with_reducible refine calld_listS rfl ?_ ?_))
      | ((with_reducible show IxD _ _ _ _ _ _)
         first | (with_reducible show IxD _ (.lst (List.map tupI _)) _ _ _ _; refine ixd_lst (by assumption) ?_) | (with_reducible show IxD _ (.tup (List.map .int _)) (.int _) _ _ _; refine ixd_intsT (by first | assumption | omega) (by first | assumption | omega | (simp only [List.length_map, bitsM_length]; omega) | (simp only [List.length_map, bitsM_length] at *; omega)) ?_) | (with_reducible show IxD _ (.lst (List.map .int _)) (.int _) _ _ _; refine ixd_intsL (by first | assumption | omega) (by first | assumption | omega | (simp only [List.length_map, bitsM_length]; omega) | (simp only [List.length_map, bitsM_length] at *; omega)) ?_) | (with_reducible show IxD _ (.tup _) _ _ _ _; refine ixd_tup rfl ?_) | (with_reducible show IxD _ (.lst [_]) _ _ _ _; refine ixd_lst rfl ?_) | (with_reducible show IxD _ (.lst _) (.int (OfNat.ofNat _)) _ _ _; refine ixd_lst rfl ?_) | (with_reducible show IxD _ (.lst _) (.int (Nat.cast _)) _ _ _; refine ixd_lst rfl ?_) | with_reducible refine ixd_i3 (by assumption) (by assumption) ?_ | with_reducible refine ixd_i4 (by assumption) (by assumption) ?_ | with_reducible refine ixd_i2 (by assumption) (by assumption) ?_ | (with_reducible show IxD _ (.raw _) (.str _) _ _ _; first | refine ixd_dicS $hr (j := 0) rfl rfl ?_ | refine ixd_dicS $hr (j := 1) rfl rfl ?_) | (with_reducible show IxD _ (.raw _) _ _ _ _; first | refine ixd_own (by assumption) rfl ?_ | refine ixd_own ($hO1 _) rfl ?_ | (rw [List.set_set]; refine ixd_own ($hO1 _) rfl ?_) | refine ixd_dic $hr (j := 0) rfl (by assumption) ?_ | refine ixd_dic $hr (j := 1) rfl (by assumption) ?_ | refine ixd_dic $hr (j := 2) rfl (by assumption) ?_ | refine ixd_dic $hr (j := 3) rfl (by assumption) ?_ | refine ixd_own (j := 0) rfl rfl ?_ | refine ixd_ownI (j := 0) rfl (by first | assumption | omega) (by first | assumption | omega | (simp only [List.length_map, bitsM_length]; omega) | (simp only [List.length_map, bitsM_length] at *; omega)) ?_ | refine ixd_ownI (j := 1) rfl (by first | assumption | omega) (by first | assumption | omega | (simp only [List.length_map, bitsM_length]; omega) | (simp only [List.length_map, bitsM_length] at *; omega)) ?_ | refine ixd_ownI (j := 2) rfl (by first | assumption | omega) (by first | assumption | omega | (simp only [List.length_map, bitsM_length]; omega) | (simp only [List.length_map, bitsM_length] at *; omega)) ?_ | refine ixd_ownI (j := 3) rfl (by first | assumption | omega) (by first | assumption | omega | (simp only [List.length_map, bitsM_length]; omega) | (simp only [List.length_map, bitsM_length] at *; omega)) ?_) | (with_reducible show IxD _ (.lst _) _ _ _ _; refine ixd_lst rfl ?_))
      | ((with_reducible show TwP _ _ _ _ _ _ _)
         first | refine twp_and ?_ | refine twp_or ?_ | refine twp_and1 ?_ | refine twp_or1 ?_)
      | ((with_reducible show outS _ _ _ _ _ _)
         first | ((with_reducible show outS _ (Res.ret _) _ _ _ _); refine outS_ret ?_) | ((with_reducible show outS _ (Res.exc _ _) _ _ _ _); refine outS_exc ?_) | ((with_reducible show outS _ (if _ then _ else _) _ _ _ _); refine outS_if ?_ ?_ <;> intro))
      | ((with_reducible show UnD _ _ _ _ _); refine und_neg ?_)
      | ((with_reducible show (0 : Int) ≤ _); first | assumption | omega)
      | ((with_reducible show (0 : Int) < _); first | assumption | decide | omega)
      | ((with_reducible show CMulW _ _); exact mul_c (a := 400) (b := 400) (by omega) (by omega))
      | ((with_reducible show CDivW _ _); exact div_c (b := 100) (by decide) (by decide))
      | ((with_reducible show CPow _ _); exact ⟨by decide, by decide, by decide⟩)
      | ((with_reducible show SrP _ _ _ _ _ _ _ _)
         first
           | ((with_reducible show SrP _ _ _ (.Call (.Name _ _) [_] _ _) _ _ _ _); first | refine srp_rng1 ($(id "g_range") $c) ?_ | refine srp_any ?_)
           | ((with_reducible show SrP _ _ _ (.Name _ _) _ _ _ _); refine srp_any ?_)
           | ((with_reducible show SrP _ _ _ (.Subscript _ _ _) _ _ _ _); refine srp_any ?_)
           | ((with_reducible show SrP _ _ _ (.Call (.Name _ _) [_, _] _ _) _ _ _ _); first | refine srp_rng2 ($(id "g_range") $c) ?_ | refine srp_zip ($(id "g_zip") $c) ?_ | refine srp_any ?_)
           | ((with_reducible show SrP _ _ _ (.Call (.Name _ _) [_, _, _] _ _) _ _ _ _); first | refine srp_rng3 ($(id "g_range") $c) ?_ | refine srp_any ?_))
      | ((with_reducible show TtP _ _ _ _ _ _ _); refine ttp_one ?_)
      | ((with_reducible show zCl _ _ _ (_ :: _) _ _ _ _ _); $zcT:tactic)
      | ((with_reducible show MtD _ _ _ _ _ _ _)
         first
           | ((with_reducible show MtD _ "list.count" _ _ _ _ _); refine mtd_count $hr (by first | exact okD_lsts _ | exact okD_prs 7 _ | rfl | assumption | decide +kernel) (by first | rfl | exact okD_tups _ | assumption | decide +kernel) ?_)
           | ((with_reducible show MtD _ "list.index" (.lst (List.map .int _)) [.int _] _ _ _); refine mtd_indexI $hr ?_ ?_))
      | ((with_reducible show PrP _ _ none _ _ _ _); refine prp_none ?_)
      | ((with_reducible show PrP _ _ (some _) _ _ _ _); refine prp_int ?_)
      | ((with_reducible show AsInt (D.int _) _); refine ⟨_, rfl, ?_⟩)
      | ((with_reducible show SlD _ _ _ _ _ _ _)
         first | with_reducible refine sld_tup ?_ | with_reducible refine sld_lst ?_ | with_reducible refine sld_str ?_ ?_ | refine sld_own (j := 0) rfl ?_ | refine sld_own (j := 1) rfl ?_ | refine sld_own (j := 2) rfl ?_)
      | ((with_reducible show InD _ _ _ _ _ _ _)
         first | (with_reducible show InD _ false (.str ⟨#[_]⟩) (.str _) _ _ _; refine ind_sign ?_) | (with_reducible show InD _ _ _ (.raw _) _ _ _; first | refine ind_none $hr (j := 0) rfl (by assumption) ?_ | refine ind_none $hr (j := 1) rfl (by assumption) ?_ | refine ind_none $hr (j := 2) rfl (by assumption) ?_ | refine ind_none $hr (j := 3) rfl (by assumption) ?_ | refine ind_some $hr (j := 0) rfl (by assumption) ?_ | refine ind_some $hr (j := 1) rfl (by assumption) ?_ | refine ind_some $hr (j := 2) rfl (by assumption) ?_ | refine ind_some $hr (j := 3) rfl (by assumption) ?_ | refine ind_dic $hr (j := 0) rfl ?_ | refine ind_dic $hr (j := 1) rfl ?_ | refine ind_dic $hr (j := 2) rfl ?_ | refine ind_dic $hr (j := 3) rfl ?_) | (with_reducible show InD _ _ _ (.tup _) _ _ _; refine ind_tup $hr (by first | rfl | assumption | decide +kernel) (by first | rfl | assumption | decide +kernel) ?_) | refine ind_lst $hr (by first | rfl | exact okD_tups _ | exact okD_lsts _ | assumption | decide +kernel) (by first | rfl | exact okD_tups _ | exact okD_lsts _ | assumption | decide +kernel) ?_)
      | ((with_reducible show (∃ j p xs k n, D.raw _ = _ ∧ _) ∨ _)
         first
           | (refine .inl ⟨?_, _, ?_, _, ?_, rfl, rfl, ?_, ?_, ?_⟩
              rotate_left 3
              focus (first | assumption | exact $hO1 _ | (rw [List.set_set]; exact $hO1 _) | exact rfl)
              focus rfl)
           | refine .inr ⟨0, _, _, _, rfl, rfl, rfl, ?_, ?_⟩
           | refine .inr ⟨1, _, _, _, rfl, rfl, rfl, ?_, ?_⟩
           | refine .inr ⟨2, _, _, _, rfl, rfl, rfl, ?_, ?_⟩
           | refine .inr ⟨3, _, _, _, rfl, rfl, rfl, ?_, ?_⟩)
      | ((with_reducible show _ = true)
         first | ((with_reducible show pl1 _ = true); first | assumption | exact rfl | exact pl1_ints _) | ((with_reducible show isFr _ = true); first | assumption | exact rfl))
      | ((with_reducible show kindD _ ≠ none); assumption)
      | ((with_reducible show Bits _); assumption)
      | ((with_reducible show _ + _ ≤ sizeLine)
         simp only [List.length_map, List.length_append, List.length_cons, List.length_nil, cutX_len, bitsM_length, sizeLine_eq]
         omega)
      | ((with_reducible show _ < ((List.length _ : Nat) : Int)); first | assumption | omega | (simp only [List.length_map, bitsM_length]; omega) | (simp only [List.length_map, bitsM_length] at *; omega))
      | ((with_reducible show _ ≤ (10000 : Int)); first | assumption | omega)
      | ((with_reducible show RowOk _); assumption)
      | ((with_reducible show (_ : OW) = (_, OE.lst _) :: _); exact rfl))
    unless rep do return body
    let mut all : List (Lean.TSyntax `tactic) := [body]
    for x in ((((k0.drop 4).toString.splitOn "@").getD 0 "").splitOn ",").reverse do
      if x != "" then
        if x.endsWith "~" then all := (← `(tactic| with_reducible exact $(id (x.dropEnd 1).toString) _)) :: all
        else all := (← `(tactic| with_reducible exact $(id x))) :: all
    let one ← all.dropLast.foldrM (fun t acc => `(tactic| first | $t:tactic | $acc:tactic)) body
    `(tactic| repeat' $one:tactic)
section
variable {P : Program} {w : World} {K : PySem.W.Frag} {mg : Str → Option Value} {base : Heap}
theorem ex_BadFraction (c : HH K mg) : Ec0 P w K mg base "BadFraction" := by
  obtain ⟨fd, F⟩ := c.d.def_ 33 rfl
  have e := c.x0 0 (x := "BadFraction")
  exact ⟨_, _, fd, e.oex, g_BadFraction c, e.ini, e.ty, ok_init0 F sc_i_BadFraction (g_CarryError c) c.bas rfl rfl (fun _ _ _ => rfl), F.bindsN fun _ _ _ _ _ _ us hl => match us, hl with | [_], _ => rfl⟩
theorem ex_BadNumber (c : HH K mg) : Ec1 P w K mg base "BadNumber" "n" := by
  obtain ⟨fd, F⟩ := c.d.def_ 34 rfl
  obtain ⟨e, nf⟩ := c.x1 0 (x := "BadNumber") (f := "n")
  exact ⟨_, _, fd, e.oex, g_BadNumber c, e.ini, e.ty, ok_init1 F sc_i_BadNumber (g_CarryError c) c.bas rfl rfl rfl (by decide) (by decide) (fun _ _ _ => rfl) (fun _ _ _ => rfl), (F.bindsN fun _ _ _ _ _ _ us hl => match us, hl with | [_, _], _ => rfl), nf⟩
theorem ex_BadBits (c : HH K mg) : Ec1 P w K mg base "BadBits" "index" := by
  obtain ⟨fd, F⟩ := c.d.def_ 35 rfl
  obtain ⟨e, nf⟩ := c.x1 1 (x := "BadBits") (f := "index")
  exact ⟨_, _, fd, e.oex, g_BadBits c, e.ini, e.ty, ok_init1 F sc_i_BadBits (g_CarryError c) c.bas rfl rfl rfl (by decide) (by decide) (fun _ _ _ => rfl) (fun _ _ _ => rfl), (F.bindsN fun _ _ _ _ _ _ us hl => match us, hl with | [_, _], _ => rfl), nf⟩
theorem ex_TooLong (c : HH K mg) : Ec1 P w K mg base "TooLong" "most" := by
  obtain ⟨fd, F⟩ := c.d.def_ 36 rfl
  obtain ⟨e, nf⟩ := c.x1 2 (x := "TooLong") (f := "most")
  exact ⟨_, _, fd, e.oex, g_TooLong c, e.ini, e.ty, ok_init1 F sc_i_TooLong (g_CarryError c) c.bas rfl rfl rfl (by decide) (by decide) (fun _ _ _ => rfl) (fun _ _ _ => rfl), (F.bindsN fun _ _ _ _ _ _ us hl => match us, hl with | [_, _], _ => rfl), nf⟩
end
def sIsFrom (mg : Str → Option Value) : Spec := puS mg (fun g : D × Int × Int => [g.1, .int g.2.1, .int g.2.2]) (fun g => kindD g.1 ≠ none) (fun g => .ret (.bl (isFrom g.1 g.2.1 g.2.2)))
theorem u_is_from {mg : Str → Option Value} {F : Hp} {O : OW} {RT : Hp → OW → D → Prop} {XC : Hp → OW → Value → List (Str × D) → Prop} {d : D} {lo hi : Int} (hk : kindD d ≠ none) (h0 : ∀ F2, Same F F2 → RT F2 O (.bl (isFrom d lo hi))) : (sIsFrom mg).s F O [d, .int lo, .int hi] RT XC := ⟨(d, lo, hi), rfl, hk, outS_ret h0⟩
section
variable {P : Program} {w : World} {K : PySem.W.Frag} {mg : Str → Option Value} {base : Heap}
theorem fc_is_from (c : HH K mg) : Fc P w K mg base "is_from" 1 ["value", "low", "high"] (sIsFrom mg) := by
  refine fc_go c 0 0 sc_is_from (fun F O ds RT XC ⟨g, e, _⟩ => by rw [e]; rfl) (fun cdv f A outer s H E F O ds RT XC hr hs => ?_) (fun _ _ _ _ _ _ us hl => match us, hl with | [_, _, _], _ => rfl)
  obtain ⟨⟨d, lo, hi⟩, rfl, hk, hs⟩ := hs
  try dsimp only at hs ⊢
  cases d <;> (try exact absurd rfl hk)
  all_goals walk_at "gor @value,low,high;;isinstance;int,bool;;;is_from;;;;;"
  all_goals walk_at "fin"
  all_goals simp_all [isFrom] <;> omega
end
def sCommon (mg : Str → Option Value) : Spec := puS mg (fun g : Int × Int => [.int g.1, .int g.2]) (fun _ => True) (fun g => .ret (.int (Int.gcd g.1 g.2)))
theorem gcd_abs (a b : Int) : Int.gcd (a.natAbs : Int) (b.natAbs : Int) = Int.gcd a b := by simp [Int.gcd]
theorem gcd_mod (g l : Int) : Int.gcd l (g % l) = Int.gcd g l := by rw [Int.emod_def, Int.mul_comm, Int.gcd_sub_mul_right_right, Int.gcd_comm]
theorem u_common {mg : Str → Option Value} {F : Hp} {O : OW} {RT : Hp → OW → D → Prop} {XC : Hp → OW → Value → List (Str × D) → Prop} {a b : Int} (h0 : ∀ F2, Same F F2 → RT F2 O (.int (Int.gcd a b))) : (sCommon mg).s F O [.int a, .int b] RT XC := ⟨(a, b), rfl, trivial, outS_ret h0⟩
section
variable {P : Program} {w : World} {K : PySem.W.Frag} {mg : Str → Option Value} {base : Heap}
theorem fc_common (c : HH K mg) : Fc P w K mg base "common" 1 ["one", "other"] (sCommon mg) := by
  refine fc_go c 1 1 sc_common (fun F O ds RT XC ⟨g, e, _⟩ => by rw [e]; rfl) (fun cdv f A outer s H E F O ds RT XC hr hs => ?_) (fun _ _ _ _ _ _ us hl => match us, hl with | [_, _], _ => rfl)
  obtain ⟨⟨a, b⟩, rfl, _, hs⟩ := hs
  try dsimp only at hs ⊢
  walk_at "gor @one,other,great,less;;abs;;;;common;2:great:3:less;;;;"
  refine wp_while (fun m F1 O1 ρ1 => O1 = O ∧ ∃ g l : Int, ρ1 = [some (.int a), some (.int b), some (.int g), some (.int l)] ∧ 0 ≤ g ∧ 0 ≤ l ∧ Int.gcd g l = Int.gcd a b ∧ m = l.toNat) ⟨_, rfl, _, _, rfl, by omega, by omega, gcd_abs a b, rfl⟩ ?_ owns_cx
  rintro m F1 O1 ρ1 e1 ⟨rfl, g, l, rfl, hg, hl, hd, rfl⟩
  walk_at "gor @one,other,great,less;;abs;;;;common;2:great:3:less;;;;"
  · rename_i hp
    have hp : 0 < l := hp
    have := Int.emod_lt_of_pos g hp
    have := Int.emod_nonneg g (Int.ne_of_gt hp)
    exact ⟨(g % l).toNat, by omega, rfl, _, _, rfl, by omega, by omega, by rw [gcd_mod, hd], rfl⟩
  · walk_at "fin"
    have e : l = 0 := by omega
    subst e
    simp at hd
    simp only [Res.ret.injEq, D.int.injEq]
    omega
end
def sIsFr (mg : Str → Option Value) : Spec := puS mg (fun d : D => [d]) (fun d => pl1 d = true) (fun d => .ret (.bl (isFr d)))
theorem u_is_fraction {mg : Str → Option Value} {F : Hp} {O : OW} {RT : Hp → OW → D → Prop} {XC : Hp → OW → Value → List (Str × D) → Prop} {d : D} (hk : pl1 d = true) (h0 : ∀ F2, Same F F2 → RT F2 O (.bl (isFr d))) : (sIsFr mg).s F O [d] RT XC := ⟨d, rfl, hk, outS_ret h0⟩
section
variable {P : Program} {w : World} {K : PySem.W.Frag} {mg : Str → Option Value} {base : Heap}
theorem fc_is_fraction (c : HH K mg) : Fc P w K mg base "is_fraction" 2 ["value"] (sIsFr mg) := by
  refine fc_go c 2 2 sc_is_fraction (fun F O ds RT XC ⟨g, e, _⟩ => by rw [e]; rfl) (fun cdv f A outer s H E F O ds RT XC hr hs => ?_) (fun _ _ _ _ _ _ us hl => match us, hl with | [_], _ => rfl)
  obtain ⟨d, rfl, hk, hs⟩ := hs
  try dsimp only at hs ⊢
  rcases isFr_kinds hk with ⟨x, y, rfl, kx, ky⟩ | ⟨xs, rfl, hl⟩ | hn
  · by_cases hx : isFrom x (-mst) mst = true
    · obtain ⟨a, rfl, a1, a2⟩ := isFrom_int hx
      by_cases hy : isFrom y 1 mst = true
      · obtain ⟨b, rfl, b1, b2⟩ := isFrom_int hy
        walk_at "gor @value;is_from,common;isinstance,len;tuple;MOST;;is_fraction;;;;;"
        all_goals try walk_at "fin"
        all_goals simp_all [isFr, isFrom, kindD] <;> omega
      · have hy : isFrom y 1 mst = false := by simpa using hy
        walk_at "gor @value;is_from,common;isinstance,len;tuple;MOST;;is_fraction;;;;;"
        all_goals try walk_at "fin"
        all_goals simp_all [isFr]
    · have hx : isFrom x (-mst) mst = false := by simpa using hx
      walk_at "gor @value;is_from,common;isinstance,len;tuple;MOST;;is_fraction;;;;;"
      all_goals try walk_at "fin"
      all_goals simp_all [isFr]
  · have hr := isFr_len hl
    walk_at "gor @value;is_from,common;isinstance,len;tuple;MOST;;is_fraction;;;;;"
    all_goals try walk_at "fin"
    all_goals simp_all
    all_goals omega
  · have hf : isFr d = false := by
      cases d <;> first | rfl | exact absurd rfl (hn _)
    cases d <;> first | exact absurd rfl (hn _) | (simp [pl1, pl0, kindD] at hk; done) | skip
    all_goals walk_at "gor @value;is_from,common;isinstance,len;tuple;MOST;;is_fraction;;;;;"
    all_goals try walk_at "fin"
    all_goals simp_all
end
def sNeedFr (mg : Str → Option Value) : Spec := puS mg (fun d : D => [d]) (fun d => pl1 d = true) (fun d => if isFr d = true then .ret .non else .exc "BadFraction" [])
theorem u_need_fraction {mg : Str → Option Value} {F : Hp} {O : OW} {RT : Hp → OW → D → Prop} {XC : Hp → OW → Value → List (Str × D) → Prop} {d : D} (hk : pl1 d = true) (h0 : (isFr d = true) → ∀ F2, Same F F2 → RT F2 O (.non)) (h1 : (¬ (isFr d = true)) → ∀ F2 c, Same F F2 → mg "BadFraction" = some c → XC F2 O c []) : (sNeedFr mg).s F O [d] RT XC := ⟨d, rfl, hk, outS_if (fun q => outS_ret (h0 q)) (fun q => outS_exc (h1 q))⟩
section
variable {P : Program} {w : World} {K : PySem.W.Frag} {mg : Str → Option Value} {base : Heap}
theorem fc_need_fraction (c : HH K mg) : Fc P w K mg base "need_fraction" 3 ["value"] (sNeedFr mg) := by
  refine fc_go c 3 3 sc_need_fraction (fun F O ds RT XC ⟨g, e, _⟩ => by rw [e]; rfl) (fun cdv f A outer s H E F O ds RT XC hr hs => ?_) (fun _ _ _ _ _ _ us hl => match us, hl with | [_], _ => rfl)
  obtain ⟨d, rfl, hk, hs⟩ := hs
  try dsimp only at hs ⊢
  walk_at "gor @value;is_fraction;;;;;need_fraction;;BadFraction;;;"
  all_goals first
    | exact hk
    | (walk_at "fin"; simp_all; done)
end
def sNextTop (mg : Str → Option Value) : Spec := puS mg (fun g : Int × Int => [.int g.1, .int g.2]) (fun g => g.2.natAbs < 2 ^ 8000) (fun g => .ret (.int (nxt g.1 g.2)))
theorem u_next_top {mg : Str → Option Value} {F : Hp} {O : OW} {RT : Hp → OW → D → Prop} {XC : Hp → OW → Value → List (Str × D) → Prop} {t l : Int} (hk : l.natAbs < 2 ^ 8000) (h0 : ∀ F2, Same F F2 → RT F2 O (.int (nxt t l))) : (sNextTop mg).s F O [.int t, .int l] RT XC := ⟨(t, l), rfl, hk, outS_ret h0⟩
section
variable {P : Program} {w : World} {K : PySem.W.Frag} {mg : Str → Option Value} {base : Heap}
theorem fc_next_top (c : HH K mg) : Fc P w K mg base "next_top" 1 ["top", "low"] (sNextTop mg) := by
  refine fc_go c 4 4 sc_next_top (fun F O ds RT XC ⟨g, e, _⟩ => by rw [e]; rfl) (fun cdv f A outer s H E F O ds RT XC hr hs => ?_) (fun _ _ _ _ _ _ us hl => match us, hl with | [_, _], _ => rfl)
  obtain ⟨⟨t, l⟩, rfl, hl, hs⟩ := hs
  try dsimp only at hs hl ⊢
  walk_at "gor @top,low;;;;;;next_top;;;;;"
  all_goals first
    | exact mul_c (a := 2) (b := 8000) (by omega) hl
    | (walk_at "fin"; rfl)
end
def sBitsOf (mg : Str → Option Value) : Spec := puS mg (fun g : Int × Int × Int => [.int g.1, .int g.2.1, .int g.2.2]) (fun g => g.2.1.natAbs < 2 ^ 8000 ∧ -(2 ^ 62) ≤ g.2.2 ∧ g.2.2 ≤ 1000000) (fun g => .ret (.tup ((bitsM g.2.2.toNat g.1 g.2.1).map .int)))
theorem u_bits_of {mg : Str → Option Value} {F : Hp} {O : OW} {RT : Hp → OW → D → Prop} {XC : Hp → OW → Value → List (Str × D) → Prop} {t l n : Int} (hk : l.natAbs < 2 ^ 8000 ∧ -(2 ^ 62) ≤ n ∧ n ≤ 1000000) (h0 : ∀ F2, Same F F2 → RT F2 O (.tup ((bitsM n.toNat t l).map .int))) : (sBitsOf mg).s F O [.int t, .int l, .int n] RT XC := ⟨(t, l, n), rfl, hk, outS_ret h0⟩
section
variable {P : Program} {w : World} {K : PySem.W.Frag} {mg : Str → Option Value} {base : Heap}
theorem fc_bits_of (c : HH K mg) : Fc P w K mg base "bits_of" 2 ["top", "low", "many"] (sBitsOf mg) := by
  refine fc_go c 5 5 sc_bits_of (fun F O ds RT XC ⟨g, e, _⟩ => by rw [e]; rfl) (fun cdv f A outer s H E F O ds RT XC hr hs => ?_) (fun _ _ _ _ _ _ us hl => match us, hl with | [_, _, _], _ => rfl)
  obtain ⟨⟨t, l, n⟩, rfl, ⟨hl, h0, hn⟩, hs⟩ := hs
  try dsimp only at hs hl h0 hn ⊢
  refine wps_cons (wp_set (i := 3) (x := "found") ?_ sc_bits_of.nd)
  walk_at "gor @top,low,many,found,turn;next_top;;tuple;;;bits_of;;;;;"
  rename_i p
  refine wp_forR1 (i := 4) (x := "turn") (fun k F1 O1 ρ1 => O1 = (p, .lst ((bitsM k t l).map .int)) :: O ∧ ∃ x, ρ1 = [some (.int (topM k t l)), some (.int l), some (.int n), some (.raw (.ref p)), x]) ?_ owns_cx rfl rfl (g_range c) sc_bits_of.nd
  walk_at "gor @top,low,many,found,turn;next_top;;tuple;;;bits_of;;;;;"
  refine ⟨n, rfl, ⟨h0, by omega⟩, ⟨rfl, none, rfl⟩, ?_, ?_⟩
  · rintro k F1 O1 ρ1 e1 hk ⟨rfl, x, rfl⟩
    walk_at "gor @top,low,many,found,turn;next_top;;tuple;;;bits_of;;;;;"
    all_goals first
      | (rw [List.length_map, bitsM_length, sizeLine_eq]; omega)
      | exact hl
      | skip
    refine ⟨?_, _, by rw [topM_snoc]; rfl⟩
    rw [bitsM_snoc, List.map_append]
    rfl
  · rintro F1 O1 ρ1 e1 ⟨rfl, x, rfl⟩
    refine wps_one (wp_ret (EvP.drop 0 ?_))
    walk_at "gor @top,low,many,found,turn;next_top;;tuple;;;bits_of;;;;;"
    walk_at "fin"
    rfl
end
/-- into the low: every step halves what lies outside -/
def sAhead : Spec where
  s := fun F O ds RT XC => ∃ t l : Int, ds = [.int t, .int l] ∧ 1 ≤ l ∧ l % 2 = 1 ∧ l.natAbs < 2 ^ 8000 ∧ t.natAbs < 2 ^ 1000 ∧
    ∀ n : Nat, n ≤ 1001 → -l ≤ topM n t l → topM n t l ≤ 0 → (∀ j, j < n → ¬ (-l ≤ topM j t l ∧ topM j t l ≤ 0)) → ∀ F2, Same F F2 → RT F2 O (.tup [.int n, .int (topM n t l)])
  mono := fun F O ds RT XC RT' XC' h1 h2 ⟨t, l, e, a, b, c, d, q⟩ => ⟨t, l, e, a, b, c, d, fun n x y z u F2 e2 => h1 _ _ _ e2 (q n x y z u F2 e2)⟩
theorem u_ahead_of {F : Hp} {O : OW} {RT : Hp → OW → D → Prop} {XC : Hp → OW → Value → List (Str × D) → Prop} {t l : Int} (hl : 1 ≤ l ∧ l % 2 = 1 ∧ l.natAbs < 2 ^ 8000 ∧ t.natAbs < 2 ^ 1000)
    (h : ∀ F2, Same F F2 → RT F2 O (.tup [.int (aheadM t l : Int), .int (topM (aheadM t l) t l)])) : sAhead.s F O [.int t, .int l] RT XC := ⟨t, l, rfl, hl.1, hl.2.1, hl.2.2.1, hl.2.2.2, fun n h1 h2 h3 h4 F2 e2 => by rw [← ahead_eq h1 h2 h3 h4]; exact h F2 e2⟩
section
variable {P : Program} {w : World} {K : PySem.W.Frag} {mg : Str → Option Value} {base : Heap}
theorem fc_ahead_of (c : HH K mg) : Fc P w K mg base "ahead_of" 2 ["top", "low"] sAhead := by
  refine fc_go c 6 6 sc_ahead_of (fun F O ds RT XC ⟨t, l, e, _⟩ => by rw [e]; rfl) (fun cdv f A outer s H E F O ds RT XC hr hs => ?_) (fun _ _ _ _ _ _ us hl => match us, hl with | [_, _], _ => rfl)
  obtain ⟨t, l, rfl, hl1, hl2, hl, ht, hs⟩ := hs
  refine wps_seq (fun F2 O2 ρ2 => O2 = O ∧ ρ2 = [some (.int t), some (.int l), some (.int 0)]) ?_ ?_
  · walk_at "gor @top,low,many;next_top;;;;;ahead_of;0:top:2:many;;;;"
    exact ⟨rfl, rfl⟩
  rintro F0 O0 ρ0 e0 ⟨rfl, rfl⟩
  refine wps_cons ?_
  refine wp_while (fun m F1 O1 ρ1 => O1 = O0 ∧ ∃ n : Nat, ρ1 = [some (.int (topM n t l)), some (.int l), some (.int n)] ∧ (0 < topM n t l → topM n t l * 2 ^ n ≤ (t.natAbs : Int)) ∧ (topM n t l < -l → (-(topM n t l) - l) * 2 ^ n ≤ (t.natAbs : Int)) ∧ (∀ j, j < n → ¬ (-l ≤ topM j t l ∧ topM j t l ≤ 0)) ∧ n ≤ 1000 ∧ m = aheadMs (topM n t l) l) ⟨_, rfl, 0, rfl, by simp only [topM]; omega, by simp only [topM]; omega, by intro j hj; omega, by omega, rfl⟩ ?_ owns_cx
  rintro m F1 O1 ρ1 e1 ⟨rfl, n, rfl, hp, hn, hj, hn2, rfl⟩
  have hB : (t.natAbs : Int) < 2 ^ 1000 := by
    have e : ((2 ^ 1000 : Nat) : Int) = (2 : Int) ^ 1000 := by simp
    rw [← e]
    omega
  have step : ¬ (-l ≤ topM n t l ∧ topM n t l ≤ 0) → ∃ m', m' < aheadMs (topM n t l) l ∧ O1 = O1 ∧ ∃ n2 : Nat, [some (D.int (nxt (topM n t l) l)), some (D.int l), some (D.int ((n : Int) + 1))] = [some (.int (topM n2 t l)), some (.int l), some (.int n2)] ∧ (0 < topM n2 t l → topM n2 t l * 2 ^ n2 ≤ (t.natAbs : Int)) ∧ (topM n2 t l < -l → (-(topM n2 t l) - l) * 2 ^ n2 ≤ (t.natAbs : Int)) ∧ (∀ j, j < n2 → ¬ (-l ≤ topM j t l ∧ topM j t l ≤ 0)) ∧ n2 ≤ 1000 ∧ m' = aheadMs (topM n2 t l) l := by
    intro hno
    have hk : n < 1000 := by
      by_cases h0 : 0 < topM n t l
      · exact ahead_k (hp h0) (by omega) hB
      · exact ahead_k (hn (by omega)) (by omega) hB
    refine ⟨_, ahead_ms hl1 hl2 hno, rfl, n + 1, by rw [topM_snoc]; rfl, ?_, ?_, ?_, by omega, by rw [topM_snoc]⟩
    · intro h
      rw [topM_snoc] at h ⊢
      exact (ahead_pos hl1 hp h).2
    · intro h
      rw [topM_snoc] at h ⊢
      exact (ahead_neg hl1 hl2 hn h).2
    · intro j hjn
      rcases Nat.lt_or_ge j n with q | q
      · exact hj j q
      · have e : j = n := by omega
        rw [e]
        exact hno
  walk_at "gor @top,low,many;next_top;;;;;ahead_of;0:top:2:many;;;;"
  all_goals first
    | exact hl
    | exact step (fun q => absurd q.1 (by assumption))
    | exact step (fun q => absurd q.2 (by assumption))
    | exact hs n (by omega) (by assumption) (by assumption) hj _ (by walk_at "same")
end
def sNeedBits (mg : Str → Option Value) : Spec := puS mg (fun d : D => [d]) (fun d => pl1 d = true) (fun d => if isBits d = true then .ret .non else .exc "BadBits" [("index", badIx d)])
theorem u_need_bits {mg : Str → Option Value} {F : Hp} {O : OW} {RT : Hp → OW → D → Prop} {XC : Hp → OW → Value → List (Str × D) → Prop} {d : D} (hk : pl1 d = true) (h0 : (isBits d = true) → ∀ F2, Same F F2 → RT F2 O (.non)) (h1 : (¬ (isBits d = true)) → ∀ F2 c, Same F F2 → mg "BadBits" = some c → XC F2 O c [("index", badIx d)]) : (sNeedBits mg).s F O [d] RT XC := ⟨d, rfl, hk, outS_if (fun q => outS_ret (h0 q)) (fun q => outS_exc (h1 q))⟩
section
variable {P : Program} {w : World} {K : PySem.W.Frag} {mg : Str → Option Value} {base : Heap}
theorem fc_need_bits (c : HH K mg) : Fc P w K mg base "need_bits" 3 ["value"] (sNeedBits mg) := by
  refine fc_go c 7 7 sc_need_bits (fun F O ds RT XC ⟨g, e, _⟩ => by rw [e]; rfl) (fun cdv f A outer s H E F O ds RT XC hr hs => ?_) (fun _ _ _ _ _ _ us hl => match us, hl with | [_], _ => rfl)
  obtain ⟨d, rfl, hk, hs⟩ := hs
  try dsimp only at hs hk ⊢
  cases d
  case tup xs =>
    refine wps_seq (fun F2 O2 ρ2 => O2 = O ∧ xs.length ≤ 64 ∧ ρ2 = [some (.tup xs), none, none]) ?_ ?_
    · walk_at "gor @value,index,one;is_from;isinstance,len;tuple;MOST_BITS;;need_bits;;BadBits:index;;;"
      · walk_at "fin"
        have h : (64 : Int) < (xs.length : Int) := by assumption
        have h2 : ¬ xs.length ≤ 64 := by omega
        have h3 : 64 < xs.length := by omega
        simp [isBits, badIx, h2, h3]
      · have h : ¬ (64 : Int) < (xs.length : Int) := by assumption
        exact ⟨rfl, by omega, rfl⟩
    rintro F0 O0 ρ0 e0 ⟨rfl, hl, rfl⟩
    refine wps_one ?_
    refine wp_for (pg_tup rfl (pgs_cons (pg_name (i := 1) sc_need_bits.nd rfl (by first | exact Or.inl rfl | exact Or.inr rfl) (by first | exact .inl rfl | exact .inr rfl)) (pgs_cons (pg_name (i := 2) sc_need_bits.nd rfl (by first | exact Or.inl rfl | exact Or.inr rfl) (by first | exact .inl rfl | exact .inr rfl)) pgs_nil rfl) rfl) rfl rfl) (tgd_tup (i := 1) (j := 2) (vs := [1, 2]) (by simp) (by simp)) (fun k F1 O1 ρ1 => O1 = O0 ∧ (∀ (j : Nat) x, j < k → xs[j]? = some x → isBit x = true) ∧ ∃ a b, ρ1 = [some (.tup xs), a, b]) ?_ owns_cx rfl
    refine srp_enumT (g_enumerate c) ?_
    walk_at "gor @value,index,one;is_from;isinstance,len;tuple;MOST_BITS;;need_bits;;BadBits:index;;;"
    refine ⟨⟨rfl, fun j x hj => absurd hj (Nat.not_lt_zero j), none, none, rfl⟩, ?_, ?_⟩
    · rintro k d F1 O1 ρ1 e1 hd ⟨rfl, hb, a, b, rfl⟩ F3 e3
      obtain ⟨x, hx, rfl⟩ := enumD_at hd
      refine ⟨_, rfl, ?_⟩
      have hkx := pl1_at hk hx
      walk_at "gor @value,index,one;is_from;isinstance,len;tuple;MOST_BITS;;need_bits;;BadBits:index;;;"
      · walk_at "fin"
        have h : isFrom x 0 1 = false := by assumption
        have h2 := findIdx_at hb hx h
        have h3 : ¬ 64 < xs.length := by omega
        have h4 : xs.all isBit = false := by
          rw [List.all_eq_false]
          exact ⟨x, List.mem_of_getElem? hx, by simp [isBit, h]⟩
        simp [isBits, badIx, h3, h4, h2]
      · have h : isFrom x 0 1 = true := by assumption
        refine ⟨rfl, fun j y hj hy => ?_, _, _, rfl⟩
        rcases Nat.lt_or_ge j k with q | q
        · exact hb j y q hy
        · have ej : j = k := by omega
          subst ej
          rw [hx] at hy
          cases hy
          exact h
    · rintro F1 O1 ρ1 e1 ⟨rfl, hb, a, b, rfl⟩
      walk_at "fin"
      have h4 : xs.all isBit = true := by
        rw [List.all_eq_true]
        intro x hx
        obtain ⟨j, hj⟩ := List.mem_iff_getElem?.mp hx
        refine hb j x ?_ hj
        rw [enumD_length]
        rcases Nat.lt_or_ge j xs.length with q | q
        · exact q
        · rw [List.getElem?_eq_none q] at hj; cases hj
      have h5 : isBits (.tup xs) = true := by simp [isBits, h4, hl]
      rw [if_pos h5]
  all_goals first | (exfalso; simp [pl1, pl0, kindD] at hk; done) | skip
  all_goals walk_at "gor @value,index,one;is_from;isinstance,len;tuple;MOST_BITS;;need_bits;;BadBits:index;;;"
  all_goals walk_at "fin"
  all_goals rfl
end
def sValueOf (mg : Str → Option Value) : Spec := puS mg (fun g : List Int => [.tup (g.map .int)]) (fun g => (∀ b ∈ g, b = 0 ∨ b = 1) ∧ g.length ≤ 100000) (fun g => .ret (.int (valM g)))
theorem u_value_of {mg : Str → Option Value} {F : Hp} {O : OW} {RT : Hp → OW → D → Prop} {XC : Hp → OW → Value → List (Str × D) → Prop} {g : List Int} (hk : (∀ b ∈ g, b = 0 ∨ b = 1) ∧ g.length ≤ 100000) (h0 : ∀ F2, Same F F2 → RT F2 O (.int (valM g))) : (sValueOf mg).s F O [.tup (g.map .int)] RT XC := ⟨g, rfl, hk, outS_ret h0⟩
theorem valM_drop {g : List Int} {k : Nat} (hk : k < g.length) : ∃ b, g[g.length - 1 - k]? = some b ∧ g.drop (g.length - (k + 1)) = b :: g.drop (g.length - k) := by
  have h1 : g.length - (k + 1) < g.length := by omega
  refine ⟨g[g.length - (k + 1)], ?_, ?_⟩
  · rw [show g.length - 1 - k = g.length - (k + 1) by omega, List.getElem?_eq_getElem h1]
  · rw [List.drop_eq_getElem_cons h1, show g.length - (k + 1) + 1 = g.length - k by omega]
theorem valM_big {g : List Int} (h : ∀ b ∈ g, b = 0 ∨ b = 1) (hl : g.length ≤ 100000) (k : Nat) : (valM (g.drop k)).natAbs < 2 ^ 100000 := by
  have hv := valM_lt (g.drop k) fun c hc => h c (List.mem_of_mem_drop hc)
  have h5 : (2 : Int) ^ (g.drop k).length ≤ 2 ^ 100000 := pow_le2 (by rw [List.length_drop]; omega)
  exact le2 (by have := hv.1; have h6 : (0 : Int) < 2 ^ 100000 := Int.pow_pos (by decide); omega) (Int.lt_of_lt_of_le hv.2 h5)
section
variable {P : Program} {w : World} {K : PySem.W.Frag} {mg : Str → Option Value} {base : Heap}
theorem fc_value_of (c : HH K mg) : Fc P w K mg base "value_of" 1 ["told"] (sValueOf mg) := by
  refine fc_go c 8 8 sc_value_of (fun F O ds RT XC ⟨g, e, _⟩ => by rw [e]; rfl) (fun cdv f A outer s H E F O ds RT XC hr hs => ?_) (fun _ _ _ _ _ _ us hl => match us, hl with | [_], _ => rfl)
  obtain ⟨g, rfl, ⟨hb, hl⟩, hs⟩ := hs
  try dsimp only at hs hb hl ⊢
  walk_at "gor @told,found,one;;;;;;value_of;;;;;"
  refine wp_for (pg_name (i := 2) sc_value_of.nd rfl (by first | exact Or.inl rfl | exact Or.inr rfl) (by first | exact .inl rfl | exact .inr rfl)) (tgd_name (i := 2) (vs := [2]) (by simp)) (fun k => (fun F1 O1 ρ1 => ∃ (z2 : Option D), O = O1 ∧ ρ1 = [some (.tup (g.map .int)), some (.int (valM (g.drop (g.length - k)))), z2])) ?_ owns_cx rfl
  refine srp_revT (g_reversed c) ?_
  walk_at "gor @told,found,one;;;;;;value_of;;;;;"
  refine ⟨⟨none, rfl, ?_⟩, ?_, ?_⟩
  · rw [Nat.sub_zero, List.drop_length]
    rfl
  · rintro k d F1 O1 ρ1 e1 hd ⟨z2, rfl, rfl⟩ F3 e3
    have hk : k < g.length := by
      rcases Nat.lt_or_ge k g.length with q | q
      · exact q
      · rw [List.getElem?_eq_none (by simpa using q)] at hd; cases hd
    obtain ⟨b, hbb, e1⟩ := valM_drop hk
    have ed : d = .int b := by
      rw [← List.map_reverse, List.getElem?_map, List.getElem?_reverse hk, hbb] at hd
      cases hd
      rfl
    subst ed
    refine ⟨_, rfl, ?_⟩
    walk_at "gor @told,found,one;;;;;;value_of;;;;;"
    · exact mul_c (a := 2) (b := 100000) (by decide) (valM_big hb hl _)
    · refine ⟨some (.int b), rfl, ?_⟩
      rw [e1, valM, Int.add_comm b]
      rfl
  · rintro F1 O1 ρ1 e1 ⟨z2, rfl, rfl⟩
    walk_at "gor @told,found,one;;;;;;value_of;;;;;"
    walk_at "fin"
    simp
end
def sPow2 (mg : Str → Option Value) : Spec := puS mg (fun n : Int => [.int n]) (fun n => -(2 ^ 62) ≤ n ∧ n ≤ 100000) (fun n => .ret (.int (2 ^ n.toNat)))
theorem u_power_of_two {mg : Str → Option Value} {F : Hp} {O : OW} {RT : Hp → OW → D → Prop} {XC : Hp → OW → Value → List (Str × D) → Prop} {n : Int} (hk : -(2 ^ 62) ≤ n ∧ n ≤ 100000) (h0 : ∀ F2, Same F F2 → RT F2 O (.int (2 ^ n.toNat))) : (sPow2 mg).s F O [.int n] RT XC := ⟨n, rfl, hk, outS_ret h0⟩
section
variable {P : Program} {w : World} {K : PySem.W.Frag} {mg : Str → Option Value} {base : Heap}
theorem fc_power_of_two (c : HH K mg) : Fc P w K mg base "power_of_two" 1 ["many"] (sPow2 mg) := by
  refine fc_go c 9 9 sc_power_of_two (fun F O ds RT XC ⟨g, e, _⟩ => by rw [e]; rfl) (fun cdv f A outer s H E F O ds RT XC hr hs => ?_) (fun _ _ _ _ _ _ us hl => match us, hl with | [_], _ => rfl)
  obtain ⟨n, rfl, ⟨h0, hl⟩, hs⟩ := hs
  try dsimp only at hs h0 hl ⊢
  walk_at "gor @many,found,turn;;;;;;power_of_two;;;;;"
  refine wp_forR1 (i := 2) (x := "turn") (fun k => (fun F1 O1 ρ1 => ∃ (z2 : Option D), O = O1 ∧ ρ1 = [some (.int n), some (.int (2 ^ k)), z2])) ?_ owns_cx rfl rfl (g_range c) sc_power_of_two.nd
  walk_at "gor @many,found,turn;;;;;;power_of_two;;;;;"
  refine ⟨_, rfl, ⟨h0, by omega⟩, ⟨_, rfl, rfl⟩, ?_, ?_⟩
  · rintro k F1 O1 ρ1 e1 hk ⟨z2, rfl, rfl⟩
    walk_at "gor @many,found,turn;;;;;;power_of_two;;;;;"
    · exact mul_c (a := 2) (b := 100001) (by decide) (two_bd (by omega))
    · rw [Int.mul_comm 2, ← Int.pow_succ]
      exact ⟨_, rfl, rfl⟩
  · rintro F1 O1 ρ1 e1 ⟨z2, rfl, rfl⟩
    walk_at "gor @many,found,turn;;;;;;power_of_two;;;;;"
    walk_at "fin"
    rfl
end
def sLengthOf (mg : Str → Option Value) : Spec := puS mg (fun l : Int => [.int l]) (fun l => 1 ≤ l ∧ l % 2 = 1 ∧ l.natAbs < 2 ^ 300) (fun l => .ret (.int (ordM l : Int)))
theorem u_length_of {mg : Str → Option Value} {F : Hp} {O : OW} {RT : Hp → OW → D → Prop} {XC : Hp → OW → Value → List (Str × D) → Prop} {l : Int} (hk : 1 ≤ l ∧ l % 2 = 1 ∧ l.natAbs < 2 ^ 300) (h0 : ∀ F2, Same F F2 → RT F2 O (.int (ordM l : Int))) : (sLengthOf mg).s F O [.int l] RT XC := ⟨l, rfl, hk, outS_ret h0⟩
section
variable {P : Program} {w : World} {K : PySem.W.Frag} {mg : Str → Option Value} {base : Heap}
theorem fc_length_of (c : HH K mg) : Fc P w K mg base "length_of" 1 ["low"] (sLengthOf mg) := by
  refine fc_go c 10 10 sc_length_of (fun F O ds RT XC ⟨g, e, _⟩ => by rw [e]; rfl) (fun cdv f A outer s H E F O ds RT XC hr hs => ?_) (fun _ _ _ _ _ _ us hl => match us, hl with | [_], _ => rfl)
  obtain ⟨l, rfl, ⟨h1, h2, hl⟩, hs⟩ := hs
  try dsimp only at hs h1 h2 hl ⊢
  have ok := ord_ok h1 h2
  have hl0 : 0 < l := by omega
  refine wps_seq (fun F2 O2 ρ2 => O = O2 ∧ ρ2 = [some (.int l), some (.int (2 ^ 1 % l)), some (.int ((1 : Nat) : Int))]) ?_ ?_
  · walk_at "gor @low,rest,many;;;;;;length_of;1:rest:2:many;;;;"
    exact ⟨rfl, rfl⟩
  rintro F0 O0 ρ0 e0 ⟨rfl, rfl⟩
  refine wps_cons ?_
  refine wp_while (fun m F1 O1 ρ1 => O = O1 ∧ ∃ n : Nat, ρ1 = [some (.int l), some (.int (2 ^ n % l)), some (.int (n : Int))] ∧ 1 ≤ n ∧ n ≤ ordM l ∧ m = ordM l - n) ⟨_, rfl, 1, rfl, Nat.le_refl 1, ok.pos, rfl⟩ ?_ owns_cx
  rintro m F1 O1 ρ1 e1 ⟨rfl, n, rfl, hn, hn2, rfl⟩
  have p0 := Int.emod_nonneg (2 ^ n) (Int.ne_of_gt hl0)
  have p1 := Int.emod_lt_of_pos (2 ^ n) hl0
  have hp : ((2 : Int) ^ n % l).natAbs < 2 ^ 300 := by omega
  walk_at "gor @low,rest,many;;;;;;length_of;1:rest:2:many;;;;"
  · rename_i hne
    have hlt : n < ordM l := by
      rcases Nat.lt_or_ge n (ordM l) with q | q
      · exact q
      · have e : n = ordM l := by omega
        rw [e] at hne
        exact absurd ok.one hne
    refine ⟨_, Nat.sub_lt_sub_left hlt (Nat.lt_succ_self n), rfl, n + 1, ?_, by omega, hlt, rfl⟩
    rw [Int.pow_succ, Int.mul_comm (2 ^ n) 2, Int.mul_emod 2 (2 ^ n % l), Int.emod_emod_of_dvd _ (Int.dvd_refl l), ← Int.mul_emod]
    rfl
  · rename_i he
    walk_at "fin"
    have e : n = ordM l := by
      rcases Nat.lt_or_ge n (ordM l) with q | q
      · exact absurd he (ok.min n (by omega) q)
      · omega
    rw [e]
end
def sNeedShort (mg : Str → Option Value) : Spec := puS mg (fun d : D => [d]) (fun d => pl1 d = true) (fun d => if isFr d = true then (if isShort d = true then .ret .non else .exc "TooLong" [("most", .int 10000)]) else .exc "BadFraction" [])
theorem u_need_short {mg : Str → Option Value} {F : Hp} {O : OW} {RT : Hp → OW → D → Prop} {XC : Hp → OW → Value → List (Str × D) → Prop} {d : D} (hk : pl1 d = true) (h0 : isFr d = true → isShort d = true → ∀ F2, Same F F2 → RT F2 O .non) (h1 : isFr d = true → ¬ isShort d = true → ∀ F2 c, Same F F2 → mg "TooLong" = some c → XC F2 O c [("most", .int 10000)]) (h2 : ¬ isFr d = true → ∀ F2 c, Same F F2 → mg "BadFraction" = some c → XC F2 O c []) : (sNeedShort mg).s F O [d] RT XC :=
  ⟨d, rfl, hk, outS_if (fun q => outS_if (fun r => outS_ret (h0 q r)) (fun r => outS_exc (h1 q r))) (fun q => outS_exc (h2 q))⟩
theorem isShort_pair {a b : Int} : (isShort (.tup [.int a, .int b]) = true) ↔ b ≤ 10000 := by simp [isShort]
section
variable {P : Program} {w : World} {K : PySem.W.Frag} {mg : Str → Option Value} {base : Heap}
theorem fc_need_short (c : HH K mg) : Fc P w K mg base "need_short" 4 ["fraction"] (sNeedShort mg) := by
  refine fc_go c 11 11 sc_need_short (fun F O ds RT XC ⟨g, e, _⟩ => by rw [e]; rfl) (fun cdv f A outer s H E F O ds RT XC hr hs => ?_) (fun _ _ _ _ _ _ us hl => match us, hl with | [_], _ => rfl)
  obtain ⟨d, rfl, hk, hs⟩ := hs
  try dsimp only at hs hk ⊢
  by_cases h : isFr d = true
  · obtain ⟨a, b, rfl, a1, b1, p1, o1, _⟩ := isFr_bd h
    rw [if_pos h] at hs
    walk_at "gor @fraction;need_fraction;;;MOST_LOW;;need_short;;TooLong:most;;;"
    all_goals first
      | exact absurd h (by assumption)
      | (walk_at "fin"
         first
           | rw [if_pos (isShort_pair.mpr (by omega))]
           | rw [if_neg (fun q => by have := isShort_pair.mp q; omega)])
  · rw [if_neg h] at hs
    walk_at "gor @fraction;need_fraction;;;MOST_LOW;;need_short;;TooLong:most;;;"
    all_goals first
      | exact hk
      | exact absurd (by assumption) h
      | (walk_at "fin"; rfl)
end
def sOneRound (mg : Str → Option Value) : Spec := puS mg (fun g : Int × Int => [.tup [.int g.1, .int g.2]]) (fun g => 1 ≤ g.2 ∧ g.2 ≤ 10000 ∧ g.2 % 2 = 1 ∧ g.1.natAbs < 2 ^ 1000) (fun g => .ret (.tup ((rndM g.1 g.2).map .int)))
theorem u_one_round {mg : Str → Option Value} {F : Hp} {O : OW} {RT : Hp → OW → D → Prop} {XC : Hp → OW → Value → List (Str × D) → Prop} {a b : Int} (hk : 1 ≤ b ∧ b ≤ 10000 ∧ b % 2 = 1 ∧ a.natAbs < 2 ^ 1000) (h0 : ∀ F2, Same F F2 → RT F2 O (.tup ((rndM a b).map .int))) : (sOneRound mg).s F O [.tup [.int a, .int b]] RT XC := ⟨(a, b), rfl, hk, outS_ret h0⟩
section
variable {P : Program} {w : World} {K : PySem.W.Frag} {mg : Str → Option Value} {base : Heap}
theorem fc_one_round (c : HH K mg) : Fc P w K mg base "one_round" 3 ["fraction"] (sOneRound mg) := by
  refine fc_go c 12 12 sc_one_round (fun F O ds RT XC ⟨g, e, _⟩ => by rw [e]; rfl) (fun cdv f A outer s H E F O ds RT XC hr hs => ?_) (fun _ _ _ _ _ _ us hl => match us, hl with | [_], _ => rfl)
  obtain ⟨⟨a, b⟩, rfl, ⟨h1, h2, h3, ha⟩, hs⟩ := hs
  try dsimp only at hs h1 h2 h3 ha ⊢
  have hb3 : b.natAbs < 2 ^ 300 := Nat.lt_trans (m := 2 ^ 20) (by omega) (Nat.pow_lt_pow_right (by decide) (by decide))
  have hb8 : b.natAbs < 2 ^ 8000 := bnd_le hb3 (by decide)
  have ok := (ord_ok h1 h3).le
  walk_at "gor @fraction,many,top;ahead_of,bits_of,length_of;;;;;one_round;1:many:2:top;;;;"
  all_goals first
    | exact ⟨h1, h3, hb8, ha⟩
    | exact ⟨h1, h3, hb3⟩
    | (refine ⟨hb8, ?_, ?_⟩ <;> omega)
    | (walk_at "fin"
       unfold rndM
       rw [Int.toNat_natCast])
end
def s_need_low (mg : Str → Option Value) : Spec := puS mg (fun g : D × Int => (fun (d : D) (m : Int) => [d, .int m]) g.1 g.2) (fun g => (fun (d : D) (m : Int) => kindD d ≠ none) g.1 g.2) (fun g => (fun (d : D) (m : Int) => if oddIn 1 m d = true then (.ret (.non)) else .exc "BadNumber" [("n", d)]) g.1 g.2)
theorem u_need_low {mg : Str → Option Value} {F : Hp} {O : OW} {RT : Hp → OW → D → Prop} {XC : Hp → OW → Value → List (Str × D) → Prop} {d : D} {m : Int} (hk : kindD d ≠ none) (h0 : oddIn 1 m d = true → ∀ F2, Same F F2 → RT F2 O (.non)) (h1 : ¬ oddIn 1 m d = true → ∀ F2 c, Same F F2 → mg "BadNumber" = some c → XC F2 O c [("n", d)]) : (s_need_low mg).s F O [d, .int m] RT XC := ⟨(d, m), rfl, hk, outS_if (fun q0 => outS_ret (h0 q0)) (fun q0 => outS_exc (h1 q0))⟩
section
variable {P : Program} {w : World} {K : PySem.W.Frag} {mg : Str → Option Value} {base : Heap}
theorem fc_need_low (c : HH K mg) : Fc P w K mg base "need_low" 3 ["low", "most"] (s_need_low mg) := by
  refine fc_go c 13 13 sc_need_low (fun F O ds RT XC ⟨g, e, _⟩ => by rw [e]; rfl) (fun cdv f A outer s H E F O ds RT XC hr hs => ?_) (fun _ _ _ _ _ _ us hl => match us, hl with | [_, _], _ => rfl)
  obtain ⟨⟨d, m⟩, rfl, hk, hs⟩ := hs
  try dsimp only at hs hk ⊢
  by_cases h : isFrom d 1 m = true
  · obtain ⟨l, rfl, l0, l1⟩ := isFrom_int h
    have h' : ¬ isFrom (.int l) 1 m = false := fun q => Bool.noConfusion (h.symm.trans q)
    by_cases ho : l % 2 = 1
    · rw [if_pos (oddIn_mk l0 l1 ho)] at hs
      walk_at "gor @low,most;is_from;;;;;need_low;;BadNumber:n;;;"
      all_goals first
        | assumption
        | contradiction
        | (exfalso; omega)
        | (walk_at "fin"; rfl)
        | skip
    · rw [if_neg (fun q => ho (oddIn_odd q))] at hs
      walk_at "gor @low,most;is_from;;;;;need_low;;BadNumber:n;;;"
      all_goals first
        | assumption
        | contradiction
        | (exfalso; omega)
        | (walk_at "fin"; rfl)
        | skip
  · have ho : ¬ oddIn 1 m d = true := fun q => by
      obtain ⟨i, rfl, a, b, _⟩ := oddIn_int q
      exact h (decide_eq_true ⟨a, b⟩)
    rw [if_neg ho] at hs
    walk_at "gor @low,most;is_from;;;;;need_low;;BadNumber:n;;;"
    all_goals first
      | assumption
      | contradiction
      | (walk_at "fin"; rfl)
      | skip
end
def s_least_rest (mg : Str → Option Value) : Spec := puS mg (fun g : Int × List Int => (fun (l : Int) (bs : List Int) => [.int l, .tup (bs.map .int)]) g.1 g.2) (fun g => (fun (l : Int) (bs : List Int) => l.natAbs < 2 ^ 300 ∧ Bits bs) g.1 g.2) (fun g => (fun (l : Int) (bs : List Int) => .ret (.int (restM l bs))) g.1 g.2)
theorem u_least_rest {mg : Str → Option Value} {F : Hp} {O : OW} {RT : Hp → OW → D → Prop} {XC : Hp → OW → Value → List (Str × D) → Prop} {l : Int} {bs : List Int} (hk : l.natAbs < 2 ^ 300 ∧ Bits bs) (h0 : ∀ F2, Same F F2 → RT F2 O (.int (restM l bs))) : (s_least_rest mg).s F O [.int l, .tup (bs.map .int)] RT XC := ⟨(l, bs), rfl, hk, outS_ret (h0)⟩
section
variable {P : Program} {w : World} {K : PySem.W.Frag} {mg : Str → Option Value} {base : Heap}
theorem fc_least_rest (c : HH K mg) : Fc P w K mg base "least_rest" 2 ["low", "told"] (s_least_rest mg) := by
  refine fc_go c 14 14 sc_least_rest (fun F O ds RT XC ⟨g, e, _⟩ => by rw [e]; rfl) (fun cdv f A outer s H E F O ds RT XC hr hs => ?_) (fun _ _ _ _ _ _ us hl => match us, hl with | [_, _], _ => rfl)
  obtain ⟨⟨l, bs⟩, rfl, hk, hs⟩ := hs
  try dsimp only at hs hk ⊢
  obtain ⟨hl, hb⟩ := hk
  have p := two_pos bs.length
  have hn := hb.l
  have hv := valM_lt bs hb.b
  have hp := pow_le2 (show bs.length ≤ 64 by omega)
  have hvb : (valM bs).natAbs < 2 ^ 70 := by omega
  walk_at "gor @low,told;power_of_two,value_of;len;;;;least_rest;;;;;"
  all_goals first
    | assumption
    | exact ⟨hb.b, by omega⟩
    | exact mul_c (a := 300) (b := 70) (by omega) hvb
    | (simp only [List.length_map, Int.toNat_natCast]; assumption)
    | (simp only [List.length_map]; omega)
    | skip
  walk_at "fin"
  simp only [List.length_map, Int.toNat_natCast]
  rfl
end
def s_tops_by (mg : Str → Option Value) : Spec := puS mg (fun g : Int × List Int => (fun (l : Int) (bs : List Int) => [.int l, .tup (bs.map .int)]) g.1 g.2) (fun g => (fun (l : Int) (bs : List Int) => 0 ≤ l ∧ l.natAbs < 2 ^ 300 ∧ Bits bs) g.1 g.2) (fun g => (fun (l : Int) (bs : List Int) => .ret (.int (topsM l bs))) g.1 g.2)
theorem u_tops_by {mg : Str → Option Value} {F : Hp} {O : OW} {RT : Hp → OW → D → Prop} {XC : Hp → OW → Value → List (Str × D) → Prop} {l : Int} {bs : List Int} (hk : 0 ≤ l ∧ l.natAbs < 2 ^ 300 ∧ Bits bs) (h0 : ∀ F2, Same F F2 → RT F2 O (.int (topsM l bs))) : (s_tops_by mg).s F O [.int l, .tup (bs.map .int)] RT XC := ⟨(l, bs), rfl, hk, outS_ret (h0)⟩
section
variable {P : Program} {w : World} {K : PySem.W.Frag} {mg : Str → Option Value} {base : Heap}
theorem fc_tops_by (c : HH K mg) : Fc P w K mg base "tops_by" 3 ["low", "told"] (s_tops_by mg) := by
  refine fc_go c 15 15 sc_tops_by (fun F O ds RT XC ⟨g, e, _⟩ => by rw [e]; rfl) (fun cdv f A outer s H E F O ds RT XC hr hs => ?_) (fun _ _ _ _ _ _ us hl => match us, hl with | [_, _], _ => rfl)
  obtain ⟨⟨l, bs⟩, rfl, hk, hs⟩ := hs
  try dsimp only at hs hk ⊢
  obtain ⟨l0, hl, hb⟩ := hk
  have p := two_pos bs.length
  have hn := hb.l
  have hp := pow_le2 (show bs.length ≤ 64 by omega)
  have hrr := rest_bd l bs
  walk_at "gor @low,told,rest;least_rest,power_of_two;len;;;;tops_by;;;;;"
  all_goals first
    | assumption
    | exact ⟨hl, hb⟩
    | (simp only [List.length_map, Int.toNat_natCast]; exact div_c (b := 70) p (by omega))
    | (simp only [List.length_map]; omega)
    | (walk_at "fin"
       try simp only [List.length_map, Int.toNat_natCast]
       unfold topsM
       first | rw [if_pos (by assumption)] | rw [if_neg (by assumption)]
       done)
    | skip
end
def s_tops_with (mg : Str → Option Value) : Spec := puS mg (fun g : D × D => (fun (d : D) (e : D) => [d, e]) g.1 g.2) (fun g => (fun (d : D) (e : D) => kindD d ≠ none ∧ pl1 e = true) g.1 g.2) (fun g => (fun (d : D) (e : D) => if oddIn 1 mst d = true then (if isBits e = true then (.ret (.int (topsM (intD d) (intsD e)))) else .exc "BadBits" [("index", badIx e)]) else .exc "BadNumber" [("n", d)]) g.1 g.2)
theorem u2_tops_with {mg : Str → Option Value} {F : Hp} {O : OW} {RT : Hp → OW → D → Prop} {XC : Hp → OW → Value → List (Str × D) → Prop} {d : D} {e : D} (hk : kindD d ≠ none ∧ pl1 e = true) (h0 : oddIn 1 mst d = true → isBits e = true → ∀ F2, Same F F2 → RT F2 O (.int (topsM (intD d) (intsD e)))) (h1 : oddIn 1 mst d = true → ¬ isBits e = true → ∀ F2 c, Same F F2 → mg "BadBits" = some c → XC F2 O c [("index", badIx e)]) (h2 : ¬ oddIn 1 mst d = true → ∀ F2 c, Same F F2 → mg "BadNumber" = some c → XC F2 O c [("n", d)]) : (s_tops_with mg).s F O [d, e] RT XC := ⟨(d, e), rfl, hk, outS_if (fun q0 => outS_if (fun q1 => outS_ret (h0 q0 q1)) (fun q1 => outS_exc (h1 q0 q1))) (fun q0 => outS_exc (h2 q0))⟩
theorem u_tops_with {mg : Str → Option Value} {F : Hp} {O : OW} {RT : Hp → OW → D → Prop} {XC : Hp → OW → Value → List (Str × D) → Prop} {l : Int} {bs : List Int} (h1 : 1 ≤ l ∧ l ≤ mst ∧ l % 2 = 1) (hb : Bits bs) (h0 : ∀ F2, Same F F2 → RT F2 O (.int (topsM l bs))) : (s_tops_with mg).s F O [.int l, .tup (bs.map .int)] RT XC :=
  u2_tops_with ⟨by simp [kindD], pl1_ints _⟩ (fun _ _ => by rw [show topsM (intD (.int l)) (intsD (.tup (bs.map .int))) = topsM l bs by rw [intsD_mk]; rfl]; exact h0) (fun _ q => absurd (isBits_mk hb) q) (fun q => absurd (oddIn_mk h1.1 h1.2.1 h1.2.2) q)
section
variable {P : Program} {w : World} {K : PySem.W.Frag} {mg : Str → Option Value} {base : Heap}
theorem fc_tops_with (c : HH K mg) : Fc P w K mg base "tops_with" 4 ["low", "told"] (s_tops_with mg) := by
  refine fc_go c 16 16 sc_tops_with (fun F O ds RT XC ⟨g, e, _⟩ => by rw [e]; rfl) (fun cdv f A outer s H E F O ds RT XC hr hs => ?_) (fun _ _ _ _ _ _ us hl => match us, hl with | [_, _], _ => rfl)
  obtain ⟨⟨d, e⟩, rfl, hk, hs⟩ := hs
  try dsimp only at hs hk ⊢
  obtain ⟨k1, k2⟩ := hk
  by_cases h : oddIn 1 mst d = true
  case neg =>
    rw [if_neg h] at hs
    repeat' walk_at "go low,told;need_low,need_bits,tops_by;;;MOST;;tops_with;;;;;"
    all_goals first
      | assumption
      | contradiction
      | (walk_at "fin"; rfl)
      | skip
  rw [if_pos h] at hs
  have h' : ¬ oddIn 1 mst d = false := fun q => Bool.noConfusion (h.symm.trans q)
  by_cases h2 : isBits e = true
  case neg =>
    rw [if_neg h2] at hs
    repeat' walk_at "go low,told;need_low,need_bits,tops_by;;;MOST;;tops_with;;;;;"
    all_goals first
      | assumption
      | contradiction
      | (walk_at "fin"; rfl)
      | skip
  rw [if_pos h2] at hs
  have h2' : ¬ isBits e = false := fun q => Bool.noConfusion (h2.symm.trans q)
  obtain ⟨l, rfl, l0, l1, l2⟩ := oddIn_int h
  obtain ⟨bs, rfl, hb⟩ := isBits_of h2
  simp only [mst] at l1
  walk_at "gor @low,told;need_low,need_bits,tops_by;;;MOST;;tops_with;;;;;"
  all_goals first
    | assumption
    | contradiction
    | exact ⟨by omega, Nat.lt_trans (m := 2 ^ 101) (by omega) (Nat.pow_lt_pow_right (by decide) (by decide)), hb⟩
    | (walk_at "fin"; rw [intsD_mk]; rfl)
    | skip
end
def s_kth_top (mg : Str → Option Value) : Spec := puS mg (fun g : D × D × D => (fun (d : D) (e : D) (f : D) => [d, e, f]) g.1 g.2.1 g.2.2) (fun g => (fun (d : D) (e : D) (f : D) => kindD d ≠ none ∧ pl1 e = true ∧ kindD f ≠ none) g.1 g.2.1 g.2.2) (fun g => (fun (d : D) (e : D) (f : D) => if oddIn 1 mst d = true then (if isBits e = true then (if isFrom f 0 (topsM (intD d) (intsD e) - 1) = true then (.ret (.int (kthM (intD d) (intsD e) (intD f)))) else .exc "BadNumber" [("n", f)]) else .exc "BadBits" [("index", badIx e)]) else .exc "BadNumber" [("n", d)]) g.1 g.2.1 g.2.2)
theorem u2_kth_top {mg : Str → Option Value} {F : Hp} {O : OW} {RT : Hp → OW → D → Prop} {XC : Hp → OW → Value → List (Str × D) → Prop} {d : D} {e : D} {f : D} (hk : kindD d ≠ none ∧ pl1 e = true ∧ kindD f ≠ none) (h0 : oddIn 1 mst d = true → isBits e = true → isFrom f 0 (topsM (intD d) (intsD e) - 1) = true → ∀ F2, Same F F2 → RT F2 O (.int (kthM (intD d) (intsD e) (intD f)))) (h1 : oddIn 1 mst d = true → isBits e = true → ¬ (isFrom f 0 (topsM (intD d) (intsD e) - 1) = true) → ∀ F2 c, Same F F2 → mg "BadNumber" = some c → XC F2 O c [("n", f)]) (h2 : oddIn 1 mst d = true → ¬ isBits e = true → ∀ F2 c, Same F F2 → mg "BadBits" = some c → XC F2 O c [("index", badIx e)]) (h3 : ¬ oddIn 1 mst d = true → ∀ F2 c, Same F F2 → mg "BadNumber" = some c → XC F2 O c [("n", d)]) : (s_kth_top mg).s F O [d, e, f] RT XC := ⟨(d, e, f), rfl, hk, outS_if (fun q0 => outS_if (fun q1 => outS_if (fun q2 => outS_ret (h0 q0 q1 q2)) (fun q2 => outS_exc (h1 q0 q1 q2))) (fun q1 => outS_exc (h2 q0 q1))) (fun q0 => outS_exc (h3 q0))⟩
theorem u_kth_top {mg : Str → Option Value} {F : Hp} {O : OW} {RT : Hp → OW → D → Prop} {XC : Hp → OW → Value → List (Str × D) → Prop} {l : Int} {bs : List Int} {k : Int} (h1 : 1 ≤ l ∧ l ≤ mst ∧ l % 2 = 1) (hb : Bits bs) (hkk : 0 ≤ k ∧ k < topsM l bs) (h0 : ∀ F2, Same F F2 → RT F2 O (.int (kthM l bs k))) : (s_kth_top mg).s F O [.int l, .tup (bs.map .int), .int k] RT XC :=
  u2_kth_top ⟨by simp [kindD], pl1_ints _, by simp [kindD]⟩ (fun _ _ _ => by rw [show kthM (intD (.int l)) (intsD (.tup (bs.map .int))) (intD (.int k)) = kthM l bs k by rw [intsD_mk]; rfl]; exact h0) (fun _ _ q => absurd (by rw [show topsM (intD (.int l)) (intsD (.tup (bs.map .int))) = topsM l bs by rw [intsD_mk]; rfl]; exact decide_eq_true ⟨hkk.1, by omega⟩) q) (fun _ q => absurd (isBits_mk hb) q) (fun q => absurd (oddIn_mk h1.1 h1.2.1 h1.2.2) q)
section
variable {P : Program} {w : World} {K : PySem.W.Frag} {mg : Str → Option Value} {base : Heap}
theorem fc_kth_top (c : HH K mg) : Fc P w K mg base "kth_top" 4 ["low", "told", "k"] (s_kth_top mg) := by
  refine fc_go c 17 17 sc_kth_top (fun F O ds RT XC ⟨g, e, _⟩ => by rw [e]; rfl) (fun cdv f A outer s H E F O ds RT XC hr hs => ?_) (fun _ _ _ _ _ _ us hl => match us, hl with | [_, _, _], _ => rfl)
  obtain ⟨⟨d, e, f⟩, rfl, hk, hs⟩ := hs
  try dsimp only at hs hk ⊢
  obtain ⟨k1, k2, k3⟩ := hk
  by_cases h : oddIn 1 mst d = true
  case neg =>
    rw [if_neg h] at hs
    repeat' walk_at "go low,told,k,many;need_low,need_bits,tops_by,is_from,least_rest,power_of_two;len;;MOST;;kth_top;;BadNumber:n;;;"
    all_goals first
      | assumption
      | contradiction
      | (walk_at "fin"; rfl)
      | skip
  rw [if_pos h] at hs
  have h' : ¬ oddIn 1 mst d = false := fun q => Bool.noConfusion (h.symm.trans q)
  by_cases h2 : isBits e = true
  case neg =>
    rw [if_neg h2] at hs
    repeat' walk_at "go low,told,k,many;need_low,need_bits,tops_by,is_from,least_rest,power_of_two;len;;MOST;;kth_top;;BadNumber:n;;;"
    all_goals first
      | assumption
      | contradiction
      | (walk_at "fin"; rfl)
      | skip
  rw [if_pos h2] at hs
  have h2' : ¬ isBits e = false := fun q => Bool.noConfusion (h2.symm.trans q)
  obtain ⟨l, rfl, l0, l1, l2⟩ := oddIn_int h
  obtain ⟨bs, rfl, hb⟩ := isBits_of h2
  rw [intsD_mk] at hs
  simp only [mst] at l1
  have hl3 : l.natAbs < 2 ^ 300 := Nat.lt_trans (m := 2 ^ 101) (by omega) (Nat.pow_lt_pow_right (by decide) (by decide))
  have p := two_pos bs.length
  have hn := hb.l
  have hp := pow_le2 (show bs.length ≤ 64 by omega)
  have hrr := rest_bd l bs
  have ht := tops_bd (show 0 ≤ l by omega) bs
  by_cases h3 : isFrom f 0 (topsM l bs - 1) = true
  · rw [if_pos (show isFrom f 0 (topsM (intD (.int l)) bs - 1) = true from h3)] at hs
    have h3' : ¬ isFrom f 0 (topsM l bs - 1) = false := fun q => Bool.noConfusion (h3.symm.trans q)
    obtain ⟨k, rfl, k0, k9⟩ := isFrom_int h3
    walk_at "gor @low,told,k,many;need_low,need_bits,tops_by,is_from,least_rest,power_of_two;len;;MOST;;kth_top;;BadNumber:n;;;"
    all_goals first
      | assumption
      | contradiction
      | exact ⟨by omega, hl3, hb⟩
      | exact ⟨hl3, hb⟩
      | (simp only [List.length_map, Int.toNat_natCast]; exact mul_c (a := 110) (b := 70) (by omega) (by omega))
      | (simp only [List.length_map]; omega)
      | (walk_at "fin"
         simp only [List.length_map, Int.toNat_natCast]
         rfl)
      | skip
  · rw [if_neg (show ¬ isFrom f 0 (topsM (intD (.int l)) bs - 1) = true from h3)] at hs
    walk_at "gor @low,told,k,many;need_low,need_bits,tops_by,is_from,least_rest,power_of_two;len;;MOST;;kth_top;;BadNumber:n;;;"
    all_goals first
      | assumption
      | contradiction
      | exact ⟨by omega, hl3, hb⟩
      | (walk_at "fin"; rfl)
      | skip
end
def frstM (a b : Int) (bs : List Int) : Option Nat := (List.range (lenM a b)).find? fun i => decide (bitsM bs.length (topM i a b) b = bs)
def frstD (d e : D) : D := optD (frstM (frA d) (frB d) (intsD e))
def s_first_place (mg : Str → Option Value) : Spec := puS mg (fun g : D × D => (fun (d : D) (e : D) => [d, e]) g.1 g.2) (fun g => (fun (d : D) (e : D) => pl1 d = true ∧ pl1 e = true) g.1 g.2) (fun g => (fun (d : D) (e : D) => if isFr d = true then (if isShort d = true then (if isBits e = true then (.ret (frstD d e)) else .exc "BadBits" [("index", badIx e)]) else .exc "TooLong" [("most", .int 10000)]) else .exc "BadFraction" []) g.1 g.2)
theorem u2_first_place {mg : Str → Option Value} {F : Hp} {O : OW} {RT : Hp → OW → D → Prop} {XC : Hp → OW → Value → List (Str × D) → Prop} {d : D} {e : D} (hk : pl1 d = true ∧ pl1 e = true) (h0 : isFr d = true → isShort d = true → isBits e = true → ∀ F2, Same F F2 → RT F2 O (frstD d e)) (h1 : isFr d = true → isShort d = true → ¬ isBits e = true → ∀ F2 c, Same F F2 → mg "BadBits" = some c → XC F2 O c [("index", badIx e)]) (h2 : isFr d = true → ¬ isShort d = true → ∀ F2 c, Same F F2 → mg "TooLong" = some c → XC F2 O c [("most", .int 10000)]) (h3 : ¬ isFr d = true → ∀ F2 c, Same F F2 → mg "BadFraction" = some c → XC F2 O c []) : (s_first_place mg).s F O [d, e] RT XC := ⟨(d, e), rfl, hk, outS_if (fun q0 => outS_if (fun q1 => outS_if (fun q2 => outS_ret (h0 q0 q1 q2)) (fun q2 => outS_exc (h1 q0 q1 q2))) (fun q1 => outS_exc (h2 q0 q1))) (fun q0 => outS_exc (h3 q0))⟩
theorem u_first_place {mg : Str → Option Value} {F : Hp} {O : OW} {RT : Hp → OW → D → Prop} {XC : Hp → OW → Value → List (Str × D) → Prop} {a : Int} {b : Int} {bs : List Int} (hf : isFr (.tup [.int a, .int b]) = true) (hb : b ≤ 10000) (hB : Bits bs) (h0 : ∀ F2, Same F F2 → RT F2 O (optD (frstM a b bs))) : (s_first_place mg).s F O [.tup [.int a, .int b], .tup (bs.map .int)] RT XC :=
  u2_first_place ⟨rfl, pl1_ints _⟩ (fun _ _ _ => by rw [show frstD (.tup [.int a, .int b]) (.tup (bs.map .int)) = optD (frstM a b bs) by unfold frstD; rw [intsD_mk]; rfl]; exact h0) (fun _ _ q => absurd (isBits_mk hB) q) (fun _ q => absurd (isShort_pair.mpr hb) q) (fun q => absurd (hf) q)
theorem frstM_mk {a b : Int} {bs : List Int} {n : Nat} (h : n < lenM a b) (h1 : bitsM bs.length (topM n a b) b = bs) (h2 : ∀ j, j < n → ¬ bitsM bs.length (topM j a b) b = bs) : frstM a b bs = some n := by
  unfold frstM
  rw [List.find?_range_eq_some]
  exact ⟨decide_eq_true h1, by simpa using h, fun j hj => by rw [decide_eq_false (h2 j hj)]; rfl⟩
theorem frstM_no {a b : Int} {bs : List Int} (h2 : ∀ j, j < lenM a b → ¬ bitsM bs.length (topM j a b) b = bs) : frstM a b bs = none := by
  unfold frstM
  rw [List.find?_range_eq_none]
  exact fun j hj => by rw [decide_eq_false (h2 j hj)]; rfl
theorem row_cut (a b : Int) {N n i : Nat} (h : i + n ≤ N) : cutX ((bitsM N a b).map D.int) (some (i : Int)) (some ((i : Int) + (n : Int))) = (bitsM n (topM i a b) b).map .int := by
  rw [show (i : Int) + (n : Int) = ((i + n : Nat) : Int) by omega, cutX_run, ← List.map_take, ← List.map_drop, bitsM_take _ _ _ _ h, bitsM_drop _ _ _ _ (by omega), show i + n - i = n by omega]
section
variable {P : Program} {w : World} {K : PySem.W.Frag} {mg : Str → Option Value} {base : Heap}
theorem fc_first_place (c : HH K mg) : Fc P w K mg base "first_place" 5 ["fraction", "told"] (s_first_place mg) := by
  refine fc_go c 18 18 sc_first_place (fun F O ds RT XC ⟨g, e, _⟩ => by rw [e]; rfl) (fun cdv f A outer s H E F O ds RT XC hr hs => ?_) (fun _ _ _ _ _ _ us hl => match us, hl with | [_, _], _ => rfl)
  obtain ⟨⟨d, e⟩, rfl, hk, hs⟩ := hs
  try dsimp only at hs hk ⊢
  obtain ⟨hk, hk2⟩ := hk
  by_cases h : isFr d = true
  case neg =>
    rw [if_neg h] at hs
    repeat' walk_at "go fraction,told,top,low,whole,row,at;need_short,need_bits,bits_of,length_of,ahead_of;len;;;;first_place;2:top:3:low;;;;"
    all_goals first
      | assumption
      | contradiction
      | (walk_at "fin"; rfl)
      | skip
  rw [if_pos h] at hs
  have h' : ¬ isFr d = false := fun q => Bool.noConfusion (h.symm.trans q)
  by_cases h2 : isShort d = true
  case neg =>
    rw [if_neg h2] at hs
    repeat' walk_at "go fraction,told,top,low,whole,row,at;need_short,need_bits,bits_of,length_of,ahead_of;len;;;;first_place;2:top:3:low;;;;"
    all_goals first
      | assumption
      | contradiction
      | (walk_at "fin"; rfl)
      | skip
  rw [if_pos h2] at hs
  have h2' : ¬ isShort d = false := fun q => Bool.noConfusion (h2.symm.trans q)
  by_cases h3 : isBits e = true
  case neg =>
    rw [if_neg h3] at hs
    repeat' walk_at "go fraction,told,top,low,whole,row,at;need_short,need_bits,bits_of,length_of,ahead_of;len;;;;first_place;2:top:3:low;;;;"
    all_goals first
      | assumption
      | contradiction
      | (walk_at "fin"; rfl)
      | skip
  rw [if_pos h3] at hs
  have h3' : ¬ isBits e = false := fun q => Bool.noConfusion (h3.symm.trans q)
  obtain ⟨a, b, rfl, a1, b1, p1, o1, g1⟩ := isFr_bd h
  obtain ⟨bs, rfl, hB⟩ := isBits_of h3
  have hb4 := isShort_pair.mp h2
  have A1 : 1 ≤ b ∧ b % 2 = 1 ∧ b.natAbs < 2 ^ 8000 ∧ a.natAbs < 2 ^ 1000 := ⟨by omega, o1, bnd_le b1 (by decide), bnd_le a1 (by decide)⟩
  have A3 : 1 ≤ b ∧ b % 2 = 1 ∧ b.natAbs < 2 ^ 300 := ⟨by omega, o1, bnd_le b1 (by decide)⟩
  have hb8 : b.natAbs < 2 ^ 8000 := bnd_le b1 (by decide)
  have l1 := ahead_bd (t := a) (k := 100) A1.1 o1 (by decide) a1
  have l2 := (ord_ok A1.1 o1).le
  have hl := hB.l
  have lm : lenM a b = aheadM a b + ordM b := rfl
  refine wps_start (fun F2 O2 ρ2 => O = O2 ∧ ρ2 = [some (.tup [.int a, .int b]), some (.tup (bs.map .int)), none, none, none, none, none]) ⟨rfl, rfl⟩ ?_
  refine wps_seqC (fun F2 O2 ρ2 => O = O2 ∧ ρ2 = [some (.tup [.int a, .int b]), some (.tup (bs.map .int)), none, none, none, none, none]) ?_ ?_
  · rintro F1 O1 ρ1 e1 ⟨rfl, rfl⟩
    walk_at "gor @fraction,told,top,low,whole,row,at;need_short,need_bits,bits_of,length_of,ahead_of;len;;;;first_place;2:top:3:low;;;;"
    all_goals first
      | exact hk
      | exact ⟨rfl, rfl⟩
      | contradiction
      | skip
  refine wps_seqC (fun F2 O2 ρ2 => O = O2 ∧ ρ2 = [some (.tup [.int a, .int b]), some (.tup (bs.map .int)), none, none, none, none, none]) ?_ ?_
  · rintro F1 O1 ρ1 e1 ⟨rfl, rfl⟩
    walk_at "gor @fraction,told,top,low,whole,row,at;need_short,need_bits,bits_of,length_of,ahead_of;len;;;;first_place;2:top:3:low;;;;"
    all_goals first
      | exact hk2
      | exact ⟨rfl, rfl⟩
      | contradiction
      | skip
  refine wps_seqC (fun F1 O1 ρ1 => ∃ (z4 : Option D) (z5 : Option D) (z6 : Option D), O = O1 ∧ ρ1 = [some (.tup [.int a, .int b]), some (.tup (bs.map .int)), some (.int a), some (.int b), z4, z5, z6]) ?_ ?_
  · rintro F1 O1 ρ1 e1 ⟨rfl, rfl⟩
    walk_at "gor @fraction,told,top,low,whole,row,at;need_short,need_bits,bits_of,length_of,ahead_of;len;;;;first_place;2:top:3:low;;;;"
    exact ⟨_, _, _, rfl, rfl⟩
  refine wps_seqC (fun F1 O1 ρ1 => ∃ (z5 : Option D) (z6 : Option D), O = O1 ∧ ρ1 = [some (.tup [.int a, .int b]), some (.tup (bs.map .int)), some (.int a), some (.int b), some (.int (lenM a b : Int)), z5, z6]) ?_ ?_
  · rintro F1 O1 ρ1 e1 ⟨z4, z5, z6, rfl, rfl⟩
    walk_at "gor A1,A3@fraction,told,top,low,whole,row,at;need_short,need_bits,bits_of,length_of,ahead_of;len;;;;first_place;2:top:3:low;;;;"
    rw [show (aheadM a b : Int) + (ordM b : Int) = ((lenM a b : Nat) : Int) by rw [lm]; omega]
    exact ⟨_, _, rfl, rfl⟩
  refine wps_seqC (fun F1 O1 ρ1 => ∃ (z6 : Option D), O = O1 ∧ ρ1 = [some (.tup [.int a, .int b]), some (.tup (bs.map .int)), some (.int a), some (.int b), some (.int (lenM a b : Int)), some (.tup ((bitsM (lenM a b + bs.length) a b).map .int)), z6]) ?_ ?_
  · rintro F1 O1 ρ1 e1 ⟨z5, z6, rfl, rfl⟩
    walk_at "gor hb8@fraction,told,top,low,whole,row,at;need_short,need_bits,bits_of,length_of,ahead_of;len;;;;first_place;2:top:3:low;;;;"
    all_goals first
      | exact ⟨hb8, by rw [List.length_map]; omega, by rw [List.length_map]; omega⟩
      | skip
    rw [List.length_map, show ((lenM a b : Int) + (bs.length : Int)).toNat = lenM a b + bs.length by omega]
    exact ⟨_, rfl, rfl⟩
  refine wps_seqC (fun F1 O1 ρ1 => ∃ (z6 : Option D), (frstM a b bs = none) ∧ O = O1 ∧ ρ1 = [some (.tup [.int a, .int b]), some (.tup (bs.map .int)), some (.int a), some (.int b), some (.int (lenM a b : Int)), some (.tup ((bitsM (lenM a b + bs.length) a b).map .int)), z6]) ?_ ?_
  · rintro F1 O1 ρ1 e1 ⟨z6, rfl, rfl⟩
    refine wp_forR1 (i := 6) (x := "at") (fun k => (fun F1 O1 ρ1 => ∃ (z6 : Option D), (∀ j, j < k → ¬ bitsM bs.length (topM j a b) b = bs) ∧ O = O1 ∧ ρ1 = [some (.tup [.int a, .int b]), some (.tup (bs.map .int)), some (.int a), some (.int b), some (.int (lenM a b : Int)), some (.tup ((bitsM (lenM a b + bs.length) a b).map .int)), z6])) ?_ owns_cx rfl rfl (g_range c) sc_first_place.nd
    walk_at "gor @fraction,told,top,low,whole,row,at;need_short,need_bits,bits_of,length_of,ahead_of;len;;;;first_place;2:top:3:low;;;;"
    refine ⟨_, rfl, by omega, ⟨_, ?_, rfl, rfl⟩, ?_, ?_⟩
    · exact fun j hj => absurd hj (Nat.not_lt_zero j)
    · rintro k F1 O1 ρ1 e1 hk3 ⟨z6, hs4, rfl, rfl⟩
      walk_at "gor @fraction,told,top,low,whole,row,at;need_short,need_bits,bits_of,length_of,ahead_of;len;;;;first_place;2:top:3:low;;;;"
      have hc : cutX ((bitsM (lenM a b + bs.length) a b).map D.int) (some (k : Int)) (some ((k : Int) + ((bs.map D.int).length : Int))) = (bitsM bs.length (topM k a b) b).map .int := by
        rw [List.length_map]
        exact row_cut a b (by omega)
      rw [hc]
      walk_at "gor @fraction,told,top,low,whole,row,at;need_short,need_bits,bits_of,length_of,ahead_of;len;;;;first_place;2:top:3:low;;;;"
      · rename_i q
        walk_at "fin"
        show Res.ret (optD (frstM a b (intsD (.tup (bs.map .int))))) = _
        rw [intsD_mk, frstM_mk (by omega) q hs4]
        rfl
      · refine ⟨_, ?_, rfl, rfl⟩
        intro j hj
        rcases Nat.lt_or_ge j k with w | w
        · exact hs4 j w
        · rw [show j = k by omega]
          assumption
    · rintro F1 O1 ρ1 e1 ⟨z6, hs4, rfl, rfl⟩
      refine ⟨_, ?_, rfl, rfl⟩
      exact frstM_no fun j hj => hs4 j (by omega)
  rintro F1 O1 ρ1 e1 ⟨z6, hs5, rfl, rfl⟩
  walk_at "gor @fraction,told,top,low,whole,row,at;need_short,need_bits,bits_of,length_of,ahead_of;len;;;;first_place;2:top:3:low;;;;"
  walk_at "fin"
  show Res.ret (optD (frstM a b (intsD (.tup (bs.map .int))))) = _
  rw [intsD_mk, hs5]
  rfl
end
def winD (a b : Int) (n : Nat) : D := .lst ((List.range (ordM b)).map fun i => tupI (winM a b n i))
def s_windows_of (mg : Str → Option Value) : Spec := puS mg (fun g : Int × Int × Int => (fun (a : Int) (b : Int) (n : Int) => [.tup [.int a, .int b], .int n]) g.1 g.2.1 g.2.2) (fun g => (fun (a : Int) (b : Int) (n : Int) => (1 ≤ b ∧ b ≤ 1000 ∧ b % 2 = 1 ∧ a.natAbs < 2 ^ 300 ∧ Int.gcd a b = 1) ∧ 0 ≤ n ∧ n ≤ 64) g.1 g.2.1 g.2.2) (fun g => (fun (a : Int) (b : Int) (n : Int) => .ret (winD a b n.toNat)) g.1 g.2.1 g.2.2)
theorem u_windows_of {mg : Str → Option Value} {F : Hp} {O : OW} {RT : Hp → OW → D → Prop} {XC : Hp → OW → Value → List (Str × D) → Prop} {a : Int} {b : Int} {n : Int} (hk : (1 ≤ b ∧ b ≤ 1000 ∧ b % 2 = 1 ∧ a.natAbs < 2 ^ 300 ∧ Int.gcd a b = 1) ∧ 0 ≤ n ∧ n ≤ 64) (h0 : ∀ F2, Same F F2 → RT F2 O (winD a b n.toNat)) : (s_windows_of mg).s F O [.tup [.int a, .int b], .int n] RT XC := ⟨(a, b, n), rfl, hk, outS_ret (h0)⟩
theorem win_D (a b : Int) (n : Nat) : (rngD 0 (ordM b)).map (onIntD fun i => tupI (winM a b n i)) = (List.range (ordM b)).map fun i => tupI (winM a b n i) := rng_mapD _ _
section
variable {P : Program} {w : World} {K : PySem.W.Frag} {mg : Str → Option Value} {base : Heap}
theorem fc_windows_of (c : HH K mg) : Fc P w K mg base "windows_of" 4 ["fraction", "many"] (s_windows_of mg) := by
  refine fc_go c 19 19 sc_windows_of (fun F O ds RT XC ⟨g, e, _⟩ => by rw [e]; rfl) (fun cdv f A outer s H E F O ds RT XC hr hs => ?_) (fun _ _ _ _ _ _ us hl => match us, hl with | [_, _], _ => rfl)
  obtain ⟨⟨a, b, n⟩, rfl, hk, hs⟩ := hs
  try dsimp only at hs hk ⊢
  obtain ⟨⟨b1, b2, b3, a1, hg⟩, n0, n1⟩ := hk
  obtain ⟨n, rfl⟩ := Int.eq_ofNat_of_zero_le n0
  rw [Int.toNat_natCast] at hs
  have R : RowFr a b := ⟨b1, b3, hg, Nat.lt_trans a1 (Nat.pow_lt_pow_right (by decide) (by decide))⟩
  have A : 1 ≤ b ∧ b ≤ 10000 ∧ b % 2 = 1 ∧ a.natAbs < 2 ^ 1000 := ⟨b1, by omega, b3, R.ht⟩
  have o1 := R.ord.pos
  have o2 := R.ord.le
  have hM := rndM_length a b
  refine wps_start (fun F1 O1 ρ1 => O = O1 ∧ ρ1 = [some (.tup [.int a, .int b]), some (.int (n : Int)), none, none, none]) ⟨rfl, rfl⟩ ?_
  refine wps_seqC (fun F1 O1 ρ1 => ∃ (z3 : Option D) (z4 : Option D), O = O1 ∧ ρ1 = [some (.tup [.int a, .int b]), some (.int (n : Int)), some (.tup ((rndM a b).map .int)), z3, z4]) ?_ ?_
  · rintro F1 O1 ρ1 e1 ⟨rfl, rfl⟩
    walk_at "gor A@fraction,many,told,row,at;one_round;len;;;;windows_of;;;;;"
    exact ⟨_, _, rfl, rfl⟩
  refine wps_seqC (fun F1 O1 ρ1 => ∃ (k : Nat) (z4 : Option D), (n ≤ (k - 1) * ordM b ∧ 1 ≤ k) ∧ O = O1 ∧ ρ1 = [some (.tup [.int a, .int b]), some (.int (n : Int)), some (.tup ((rndM a b).map .int)), some (.tup ((List.replicate k ((rndM a b).map D.int)).flatten)), z4]) ?_ ?_
  · rintro F1 O1 ρ1 e1 ⟨z3, z4, rfl, rfl⟩
    have q0 : (0 : Int) ≤ (n : Int) / (((rndM a b).map D.int).length : Int) := Int.ediv_nonneg (by omega) (by omega)
    have q1 : (n : Int) / (((rndM a b).map D.int).length : Int) ≤ n := Int.ediv_le_self _ (by omega)
    walk_at "gor @fraction,many,told,row,at;one_round;len;;;;windows_of;;;;;"
    all_goals first
      | (rw [List.length_map, hM]; exact div_c (b := 100) (by omega) (by omega))
      | (rw [List.length_map, hM]; omega)
      | skip
    refine opd_repT ?_ (by omega) (by omega) (by rw [List.length_map, hM]; omega) fun F2 e2 => ?_
    · intro q
      have q2 : ((rndM a b).map D.int).length = 0 := by rw [q]; rfl
      rw [List.length_map, hM] at q2
      omega
    refine ⟨_, _, ?_, rfl, rfl⟩
    have e : (((n : Int) / (((rndM a b).map D.int).length : Int) + 2).toNat) = n / ordM b + 2 := by
      rw [List.length_map, hM, show (n : Int) / (ordM b : Int) = ((n / ordM b : Nat) : Int) by simp]
      generalize n / ordM b = m
      omega
    rw [e]
    refine ⟨?_, by omega⟩
    have h1 := Nat.div_add_mod n (ordM b)
    have h2 := Nat.mod_lt n (show 0 < ordM b by omega)
    rw [show n / ordM b + 2 - 1 = n / ordM b + 1 by omega, Nat.add_mul, Nat.one_mul, Nat.mul_comm]
    omega
  refine wps_lastC ?_
  rintro F1 O1 ρ1 e1 ⟨k, z4, hs2, rfl, rfl⟩
  obtain ⟨k1, k2⟩ := hs2
  walk_at "gor @fraction,many,told,row,at;one_round;len;;;;windows_of;;;;;"
  refine evp_lcp rfl sc_windows_of.nd (blkOk_by (own := [("at", 4)]) (by rfl)) (fun _ _ _ _ _ => pg_name (i := 4) sc_windows_of.nd rfl (by first | exact Or.inl rfl | exact Or.inr rfl) (by first | exact .inl rfl | exact .inr rfl)) (lcp_M (onIntD fun i => tupI (winM a b n i)) (tgd_name (i := 4) (by simp)) ?_)
  walk_at "gor @fraction,many,told,row,at;one_round;len;;;;windows_of;;;;;"
  rw [List.length_map, hM]
  refine ⟨_, rfl, by omega, by rw [rngD_length, sizeLine_eq]; omega, fun k3 d F7 acc Dl e7 hd => ?_, fun F7 e7 => ?_⟩
  · obtain ⟨hk3, rfl⟩ := rngD_of hd
    have hk4 : k3 < ordM b := hk3
    rw [Int.zero_add] at *
    refine ⟨_, rfl, ?_⟩
    walk_at "gor @fraction,many,told,row,at;one_round;len;;;;windows_of;;;;;"
    rw [show (k3 : Int) + (n : Int) = ((k3 + n : Nat) : Int) by omega, win_cut R]
    · exact ⟨rfl, rfl⟩
    · have h3 : (k - 1) * ordM b + ordM b = k * ordM b := by rw [← Nat.succ_mul]; congr 1; omega
      omega
  · rw [Int.toNat_natCast, win_D]
    walk_at "fin"
    rfl
end
def plcD (d e : D) : D := .int (plcM (frA d) (frB d) (intsD e) : Int)
def s_places_with (mg : Str → Option Value) : Spec := puS mg (fun g : D × D => (fun (d : D) (e : D) => [d, e]) g.1 g.2) (fun g => (fun (d : D) (e : D) => pl1 d = true ∧ pl1 e = true ∧ (isFr d = true → isShort d = true → frB d ≤ 1000)) g.1 g.2) (fun g => (fun (d : D) (e : D) => if isFr d = true then (if isShort d = true then (if isBits e = true then (.ret (plcD d e)) else .exc "BadBits" [("index", badIx e)]) else .exc "TooLong" [("most", .int 10000)]) else .exc "BadFraction" []) g.1 g.2)
theorem u2_places_with {mg : Str → Option Value} {F : Hp} {O : OW} {RT : Hp → OW → D → Prop} {XC : Hp → OW → Value → List (Str × D) → Prop} {d : D} {e : D} (hk : pl1 d = true ∧ pl1 e = true ∧ (isFr d = true → isShort d = true → frB d ≤ 1000)) (h0 : isFr d = true → isShort d = true → isBits e = true → ∀ F2, Same F F2 → RT F2 O (plcD d e)) (h1 : isFr d = true → isShort d = true → ¬ isBits e = true → ∀ F2 c, Same F F2 → mg "BadBits" = some c → XC F2 O c [("index", badIx e)]) (h2 : isFr d = true → ¬ isShort d = true → ∀ F2 c, Same F F2 → mg "TooLong" = some c → XC F2 O c [("most", .int 10000)]) (h3 : ¬ isFr d = true → ∀ F2 c, Same F F2 → mg "BadFraction" = some c → XC F2 O c []) : (s_places_with mg).s F O [d, e] RT XC := ⟨(d, e), rfl, hk, outS_if (fun q0 => outS_if (fun q1 => outS_if (fun q2 => outS_ret (h0 q0 q1 q2)) (fun q2 => outS_exc (h1 q0 q1 q2))) (fun q1 => outS_exc (h2 q0 q1))) (fun q0 => outS_exc (h3 q0))⟩
theorem u_places_with {mg : Str → Option Value} {F : Hp} {O : OW} {RT : Hp → OW → D → Prop} {XC : Hp → OW → Value → List (Str × D) → Prop} {a : Int} {b : Int} {bs : List Int} (hb : b ≤ 1000) (hf : isFr (.tup [.int a, .int b]) = true) (hb4 : b ≤ 10000) (hB : Bits bs) (h0 : ∀ F2, Same F F2 → RT F2 O (.int (plcM a b bs : Int))) : (s_places_with mg).s F O [.tup [.int a, .int b], .tup (bs.map .int)] RT XC :=
  u2_places_with ⟨rfl, pl1_ints _, fun _ _ => hb⟩ (fun _ _ _ => by rw [show plcD (.tup [.int a, .int b]) (.tup (bs.map .int)) = .int (plcM a b bs : Int) by unfold plcD; rw [intsD_mk]; rfl]; exact h0) (fun _ _ q => absurd (isBits_mk hB) q) (fun _ q => absurd (isShort_pair.mpr hb4) q) (fun q => absurd (hf) q)
theorem okD_win (a b : Int) (n : Nat) : okD 9 (winD a b n) = true := by
  show (List.map _ _).all (okD 8) = true
  rw [List.all_map, List.all_eq_true]
  intro i _
  exact okD_ints 7 _
section
variable {P : Program} {w : World} {K : PySem.W.Frag} {mg : Str → Option Value} {base : Heap}
theorem fc_places_with (c : HH K mg) : Fc P w K mg base "places_with" 5 ["fraction", "told"] (s_places_with mg) := by
  refine fc_go c 20 20 sc_places_with (fun F O ds RT XC ⟨g, e, _⟩ => by rw [e]; rfl) (fun cdv f A outer s H E F O ds RT XC hr hs => ?_) (fun _ _ _ _ _ _ us hl => match us, hl with | [_, _], _ => rfl)
  obtain ⟨⟨d, e⟩, rfl, hk, hs⟩ := hs
  try dsimp only at hs hk ⊢
  obtain ⟨hk, hk2, hk3⟩ := hk
  by_cases h : isFr d = true
  case neg =>
    rw [if_neg h] at hs
    repeat' walk_at "go fraction,told;need_short,need_bits,windows_of;len;;;;places_with;;;;;"
    all_goals first
      | assumption
      | contradiction
      | (walk_at "fin"; rfl)
      | skip
  rw [if_pos h] at hs
  have h' : ¬ isFr d = false := fun q => Bool.noConfusion (h.symm.trans q)
  by_cases h2 : isShort d = true
  case neg =>
    rw [if_neg h2] at hs
    repeat' walk_at "go fraction,told;need_short,need_bits,windows_of;len;;;;places_with;;;;;"
    all_goals first
      | assumption
      | contradiction
      | (walk_at "fin"; rfl)
      | skip
  rw [if_pos h2] at hs
  have h2' : ¬ isShort d = false := fun q => Bool.noConfusion (h2.symm.trans q)
  by_cases h3 : isBits e = true
  case neg =>
    rw [if_neg h3] at hs
    repeat' walk_at "go fraction,told;need_short,need_bits,windows_of;len;;;;places_with;;;;;"
    all_goals first
      | assumption
      | contradiction
      | (walk_at "fin"; rfl)
      | skip
  rw [if_pos h3] at hs
  have h3' : ¬ isBits e = false := fun q => Bool.noConfusion (h3.symm.trans q)
  obtain ⟨a, b, rfl, a1, b1, p1, o1, g1⟩ := isFr_bd h
  obtain ⟨bs, rfl, hB⟩ := isBits_of h3
  have hb := hk3 h h2
  have hb : b ≤ 1000 := hb
  have W : (1 ≤ b ∧ b ≤ 1000 ∧ b % 2 = 1 ∧ a.natAbs < 2 ^ 300 ∧ Int.gcd a b = 1) ∧ (0 : Int) ≤ ((bs.map D.int).length : Int) ∧ ((bs.map D.int).length : Int) ≤ 64 := ⟨⟨by omega, hb, o1, bnd_le a1 (by decide), g1⟩, by omega, by rw [List.length_map]; have := hB.l; omega⟩
  walk_at "gor W@fraction,told;need_short,need_bits,windows_of;len;;;;places_with;;;;;"
  all_goals first
    | assumption
    | contradiction
    | skip
  have el : (((bs.map D.int).length : Nat) : Int).toNat = bs.length := by rw [Int.toNat_natCast, List.length_map]
  rw [el]
  refine mtd_count hr (okD_win a b bs.length) (okD_tups bs) ?_
  rw [plc_count]
  walk_at "fin"
  show Res.ret (D.int (plcM a b (intsD (.tup (bs.map .int))) : Int)) = _
  rw [intsD_mk]
end
def wcntM (a b : Int) (n : Nat) : Int := ((unlM ((List.range (ordM b)).map fun i => winM a b n i)).length : Int)
def wcntD (d e : D) : D := .int (wcntM (frA d) (frB d) (intD e).toNat)
def s_window_count (mg : Str → Option Value) : Spec := puS mg (fun g : D × D => (fun (d : D) (e : D) => [d, e]) g.1 g.2) (fun g => (fun (d : D) (e : D) => pl1 d = true ∧ kindD e ≠ none ∧ (isFr d = true → isShort d = true → frB d < 300)) g.1 g.2) (fun g => (fun (d : D) (e : D) => if isFr d = true then (if isShort d = true then (if isFrom e 0 64 = true then (.ret (wcntD d e)) else .exc "BadNumber" [("n", e)]) else .exc "TooLong" [("most", .int 10000)]) else .exc "BadFraction" []) g.1 g.2)
theorem u2_window_count {mg : Str → Option Value} {F : Hp} {O : OW} {RT : Hp → OW → D → Prop} {XC : Hp → OW → Value → List (Str × D) → Prop} {d : D} {e : D} (hk : pl1 d = true ∧ kindD e ≠ none ∧ (isFr d = true → isShort d = true → frB d < 300)) (h0 : isFr d = true → isShort d = true → isFrom e 0 64 = true → ∀ F2, Same F F2 → RT F2 O (wcntD d e)) (h1 : isFr d = true → isShort d = true → ¬ isFrom e 0 64 = true → ∀ F2 c, Same F F2 → mg "BadNumber" = some c → XC F2 O c [("n", e)]) (h2 : isFr d = true → ¬ isShort d = true → ∀ F2 c, Same F F2 → mg "TooLong" = some c → XC F2 O c [("most", .int 10000)]) (h3 : ¬ isFr d = true → ∀ F2 c, Same F F2 → mg "BadFraction" = some c → XC F2 O c []) : (s_window_count mg).s F O [d, e] RT XC := ⟨(d, e), rfl, hk, outS_if (fun q0 => outS_if (fun q1 => outS_if (fun q2 => outS_ret (h0 q0 q1 q2)) (fun q2 => outS_exc (h1 q0 q1 q2))) (fun q1 => outS_exc (h2 q0 q1))) (fun q0 => outS_exc (h3 q0))⟩
theorem u_window_count {mg : Str → Option Value} {F : Hp} {O : OW} {RT : Hp → OW → D → Prop} {XC : Hp → OW → Value → List (Str × D) → Prop} {a : Int} {b : Int} {n : Int} (hb : b < 300) (hf : isFr (.tup [.int a, .int b]) = true) (hb4 : b ≤ 10000) (hn : 0 ≤ n ∧ n ≤ 64) (h0 : ∀ F2, Same F F2 → RT F2 O (.int (wcntM a b n.toNat))) : (s_window_count mg).s F O [.tup [.int a, .int b], .int n] RT XC :=
  u2_window_count ⟨rfl, by simp [kindD], fun _ _ => hb⟩ (fun _ _ _ => h0) (fun _ _ q => absurd (decide_eq_true hn) q) (fun _ q => absurd (isShort_pair.mpr hb4) q) (fun q => absurd (hf) q)
theorem winD_tups (a b : Int) (n : Nat) : winD a b n = .lst (((List.range (ordM b)).map fun i => winM a b n i).map tupI) := by
  unfold winD
  rw [List.map_map]
  rfl
section
variable {P : Program} {w : World} {K : PySem.W.Frag} {mg : Str → Option Value} {base : Heap}
theorem fc_window_count (c : HH K mg) : Fc P w K mg base "window_count" 5 ["fraction", "many"] (s_window_count mg) := by
  refine fc_go c 21 21 sc_window_count (fun F O ds RT XC ⟨g, e, _⟩ => by rw [e]; rfl) (fun cdv f A outer s H E F O ds RT XC hr hs => ?_) (fun _ _ _ _ _ _ us hl => match us, hl with | [_, _], _ => rfl)
  obtain ⟨⟨d, e⟩, rfl, hk, hs⟩ := hs
  try dsimp only at hs hk ⊢
  obtain ⟨hk, hk2, hk3⟩ := hk
  by_cases h : isFr d = true
  case neg =>
    rw [if_neg h] at hs
    repeat' walk_at "go fraction,many;need_short,is_from,windows_of;len;set;MOST_BITS;;window_count;;BadNumber:n;;;"
    all_goals first
      | assumption
      | contradiction
      | (walk_at "fin"; rfl)
      | skip
  rw [if_pos h] at hs
  have h' : ¬ isFr d = false := fun q => Bool.noConfusion (h.symm.trans q)
  by_cases h2 : isShort d = true
  case neg =>
    rw [if_neg h2] at hs
    repeat' walk_at "go fraction,many;need_short,is_from,windows_of;len;set;MOST_BITS;;window_count;;BadNumber:n;;;"
    all_goals first
      | assumption
      | contradiction
      | (walk_at "fin"; rfl)
      | skip
  rw [if_pos h2] at hs
  have h2' : ¬ isShort d = false := fun q => Bool.noConfusion (h2.symm.trans q)
  by_cases h3 : isFrom e 0 64 = true
  · rw [if_pos h3] at hs
    obtain ⟨a, b, rfl, a1, b1, p1, o1, g1⟩ := isFr_bd h
    obtain ⟨n, rfl, n0, n1⟩ := isFrom_int h3
    have hb := hk3 h h2
    have hb : b < 300 := hb
    have W : (1 ≤ b ∧ b ≤ 1000 ∧ b % 2 = 1 ∧ a.natAbs < 2 ^ 300 ∧ Int.gcd a b = 1) ∧ (0 : Int) ≤ n ∧ n ≤ 64 := ⟨⟨by omega, by omega, o1, bnd_le a1 (by decide), g1⟩, n0, n1⟩
    have l2 := (ord_ok (l := b) (by omega) o1).le
    walk_at "gor W@fraction,many;need_short,is_from,windows_of;len;set;MOST_BITS;;window_count;;BadNumber:n;;;"
    all_goals first
      | assumption
      | contradiction
      | (exfalso; exact absurd (h3.symm.trans (by assumption)) (by decide))
      | skip
    rw [winD_tups]
    refine calld_setTB hr rfl (by rw [List.length_map, List.length_range]; omega) fun F2 p e2 hF => ?_
    walk_at "gor @fraction,many;need_short,is_from,windows_of;len;set;MOST_BITS;;window_count;;BadNumber:n;;;"
    refine calld_lenTB hF ?_
    walk_at "fin"
    rfl
  · rw [if_neg h3] at hs
    walk_at "gor @fraction,many;need_short,is_from,windows_of;len;set;MOST_BITS;;window_count;;BadNumber:n;;;"
    all_goals first
      | assumption
      | contradiction
      | (exfalso; exact absurd (by assumption) h3)
      | (walk_at "fin"; rfl)
      | skip
end
def sTaken : Spec where
  s := fun F O ds RT XC => ∃ (p : Addr) (m : Int) (j : Nat) (r : List D), ds = [.raw (.ref p), .int m] ∧ O[j]? = some (p, .lst r) ∧ RowOk r ∧ 0 < m ∧ m.natAbs < 2 ^ 8000 ∧
    ∀ (x : Int) (r2 : List D), 0 ≤ x → x < m → RowOk r2 → ∀ F2, Same F F2 → RT F2 (O.set j (p, .lst r2)) (.int x)
  mono := fun F O ds RT XC RT' XC' h1 h2 ⟨p, m, j, r, e, a, b, c, d, q⟩ => ⟨p, m, j, r, e, a, b, c, d, fun x r2 y z u F2 e2 => h1 _ _ _ e2 (q x r2 y z u F2 e2)⟩
theorem u__law_taken {F : Hp} {RT : Hp → OW → D → Prop} {XC : Hp → OW → Value → List (Str × D) → Prop} {p : Addr} {m : Int} {r : List D} {O2 : OW} (hr : RowOk r) (hm : 0 < m ∧ m ≤ lim)
    (h : ∀ (x : Int) (r2 : List D), 0 ≤ x → x < m → RowOk r2 → ∀ F2, Same F F2 → RT F2 ((p, .lst r2) :: O2) (.int x)) : sTaken.s F ((p, .lst r) :: O2) [.raw (.ref p), .int m] RT XC := by
  exact ⟨p, m, 0, r, rfl, rfl, hr, hm.1, lim_bd hm, h⟩
theorem u2__law_taken {F : Hp} {O2 : OW} {RT : Hp → OW → D → Prop} {XC : Hp → OW → Value → List (Str × D) → Prop} {p : Addr} {x0 : Addr × OE} {m : Int} {r : List D} (hr : RowOk r) (hm : 0 < m ∧ m ≤ lim)
    (h : ∀ (x : Int) (r2 : List D), 0 ≤ x → x < m → RowOk r2 → ∀ F2, Same F F2 → RT F2 (x0 :: (p, .lst r2) :: O2) (.int x)) : sTaken.s F (x0 :: (p, .lst r) :: O2) [.raw (.ref p), .int m] RT XC := ⟨p, m, 1, r, rfl, rfl, hr, hm.1, lim_bd hm, h⟩
theorem u3__law_taken {F : Hp} {O2 : OW} {RT : Hp → OW → D → Prop} {XC : Hp → OW → Value → List (Str × D) → Prop} {p : Addr} {x0 x1 : Addr × OE} {m : Int} {r : List D} (hr : RowOk r) (hm : 0 < m ∧ m ≤ lim)
    (h : ∀ (x : Int) (r2 : List D), 0 ≤ x → x < m → RowOk r2 → ∀ F2, Same F F2 → RT F2 (x0 :: x1 :: (p, .lst r2) :: O2) (.int x)) : sTaken.s F (x0 :: x1 :: (p, .lst r) :: O2) [.raw (.ref p), .int m] RT XC := ⟨p, m, 2, r, rfl, rfl, hr, hm.1, lim_bd hm, h⟩
section
variable {P : Program} {w : World} {K : PySem.W.Frag} {mg : Str → Option Value} {base : Heap}
theorem fc__law_taken (c : HH K mg) : Fc P w K mg base "_law_taken" 1 ["_law_row", "_law_many"] sTaken := by
  refine fc_go c 22 22 sc__law_taken (fun F O ds RT XC ⟨p, m, j, r, e, _⟩ => by rw [e]; rfl) (fun cdv f A outer s H E F O ds RT XC hr hs => ?_) (fun _ _ _ _ _ _ us hl => match us, hl with | [_, _], _ => rfl)
  obtain ⟨p, m, j, r, rfl, hO, ⟨ns, i, sd, t, rfl, hl, hi, hs0, hs1⟩, h0, hm, hs⟩ := hs
  have hO1 : ∀ v, (O.set j v)[j]? = some v := fun v => by
    have hj : j < O.length := by
      rcases Nat.lt_or_ge j O.length with q | q
      · exact q
      · rw [List.getElem?_eq_none q] at hO; cases hO
    rw [List.getElem?_set_self hj]
  walk_at "gor @_law_row,_law_many,_law_found,_law_cell;;len;int;;;_law_taken;;;;;"
  · exact ⟨h0, Nat.lt_trans (PySem.Flt.log2_lt_of (by decide) hm) (by decide)⟩
  · exact hs _ _ (Int.emod_nonneg _ (Int.ne_of_gt h0)) (Int.emod_lt_of_pos _ h0) (rowOk_mk ns i sd (t / m) hl hi hs0 hs1) _ (by walk_at "same")
  · show RT _ _ _
    try rw [List.set_set]
    exact hs _ _ (Int.emod_nonneg _ (Int.ne_of_gt h0)) (Int.emod_lt_of_pos _ h0) (rowOk_mk ns (i + 1) ((sd * 48271 + 11) % 2147483647) t hl (by omega) (by omega) (by omega)) _ (by walk_at "same")
  · rename_i hle
    have hle : ¬ ((List.map D.int ns).length : Int) < i + 1 := hle
    rw [List.length_map] at hle
    obtain ⟨n, hn⟩ : ∃ n, ns[i.toNat]? = some n := by
      rw [List.getElem?_eq_getElem (by omega)]
      exact ⟨_, rfl⟩
    refine ixd_frl (d := .int n) ?_ ?_
    · have e : i + 1 - 1 = (i.toNat : Int) := by omega
      rw [e]
      refine atI_nat ?_
      rw [List.getElem?_map, hn]
      rfl
    walk_at "gor @_law_row,_law_many,_law_found,_law_cell;;len;int;;;_law_taken;;;;;"
    · exact ⟨h0, Nat.lt_trans (PySem.Flt.log2_lt_of (by decide) hm) (by decide)⟩
    · show RT _ _ _
      rw [List.set_set]
      try rw [List.set_set]
      exact hs _ _ (Int.emod_nonneg _ (Int.ne_of_gt h0)) (Int.emod_lt_of_pos _ h0) (rowOk_mk ns (i + 1) ((sd * 48271 + n + 11) % 2147483647) (n / m) hl (by omega) (by omega) (by omega)) _ (by walk_at "same")
    · show RT _ _ _
      try rw [List.set_set]
      exact hs _ _ (Int.emod_nonneg _ (Int.ne_of_gt h0)) (Int.emod_lt_of_pos _ h0) (rowOk_mk ns (i + 1) ((sd * 48271 + n + 11) % 2147483647) t hl (by omega) (by omega) (by omega)) _ (by walk_at "same")
end
def sLGcd (mg : Str → Option Value) : Spec := puS mg (fun g : Int × Int => [.int g.1, .int g.2]) (fun g => 0 ≤ g.2) (fun g => .ret (.int (Int.gcd g.1 g.2)))
theorem u__law_gcd {mg : Str → Option Value} {F : Hp} {O : OW} {RT : Hp → OW → D → Prop} {XC : Hp → OW → Value → List (Str × D) → Prop} {a b : Int} (hk : 0 ≤ b) (h0 : ∀ F2, Same F F2 → RT F2 O (.int (Int.gcd a b))) : (sLGcd mg).s F O [.int a, .int b] RT XC := ⟨(a, b), rfl, hk, outS_ret h0⟩
theorem gcd_modP (g l : Int) : Int.gcd l (g % l) = Int.gcd g l := by rw [Int.emod_def, Int.mul_comm, Int.gcd_sub_mul_right_right, Int.gcd_comm]
section
variable {P : Program} {w : World} {K : PySem.W.Frag} {mg : Str → Option Value} {base : Heap}
theorem fc__law_gcd (c : HH K mg) : Fc P w K mg base "_law_gcd" 1 ["_law_one", "_law_other"] (sLGcd mg) := by
  refine fc_go c 23 23 sc__law_gcd (fun F O ds RT XC ⟨g, e, _⟩ => by rw [e]; rfl) (fun cdv f A outer s H E F O ds RT XC hr hs => ?_) (fun _ _ _ _ _ _ us hl => match us, hl with | [_, _], _ => rfl)
  obtain ⟨⟨a, b⟩, rfl, hb, hs⟩ := hs
  try dsimp only at hs hb ⊢
  refine wps_cons ?_
  refine wp_while (fun m F1 O1 ρ1 => O1 = O ∧ ∃ g l : Int, ρ1 = [some (.int g), some (.int l)] ∧ 0 ≤ l ∧ Int.gcd g l = Int.gcd a b ∧ m = l.toNat) ⟨_, rfl, _, _, rfl, hb, rfl, rfl⟩ ?_ owns_cx
  rintro m F1 O1 ρ1 e1 ⟨rfl, g, l, rfl, hl, hd, rfl⟩
  walk_at "gor @_law_one,_law_other;;abs;;;;_law_gcd;0:_law_one:1:_law_other;;;;"
  · rename_i hn
    have hp : 0 < l := by omega
    have := Int.emod_lt_of_pos g hp
    have := Int.emod_nonneg g (Int.ne_of_gt hp)
    exact ⟨(g % l).toNat, by omega, rfl, _, _, rfl, by omega, by rw [gcd_modP, hd], rfl⟩
  · walk_at "fin"
    rename_i hn
    have e : l = 0 := by omega
    subst e
    rw [Int.gcd_zero_right] at hd
    rw [hd]
end
def nrmL (a b : Int) : D := .tup [.int (a / (Int.gcd a b : Int)), .int (b / (Int.gcd a b : Int))]
def sLLeast (mg : Str → Option Value) : Spec := puS mg (fun g : Int × Int => [.int g.1, .int g.2]) (fun g => 0 < g.2 ∧ g.2.natAbs < 2 ^ 8000) (fun g => .ret (nrmL g.1 g.2))
theorem gcd_divL {a b : Int} (h : 0 < b) (hb : b.natAbs < 2 ^ 8000) : CDivW a (Int.gcd a b : Int) := by
  have h1 : 0 < Int.gcd a b := Int.gcd_pos_of_ne_zero_right a (Int.ne_of_gt h)
  have h2 : Int.gcd a b ≤ b.natAbs := Int.gcd_le_natAbs_right a (Int.ne_of_gt h)
  refine div_c (b := 8000) (by omega) ?_
  rw [Int.natAbs_natCast]
  exact Nat.lt_of_le_of_lt h2 hb
theorem u__law_least {mg : Str → Option Value} {F : Hp} {O : OW} {RT : Hp → OW → D → Prop} {XC : Hp → OW → Value → List (Str × D) → Prop} {a b : Int} (hk : 0 < b ∧ b.natAbs < 2 ^ 8000) (h0 : ∀ F2, Same F F2 → RT F2 O (nrmL a b)) : (sLLeast mg).s F O [.int a, .int b] RT XC := ⟨(a, b), rfl, hk, outS_ret h0⟩
section
variable {P : Program} {w : World} {K : PySem.W.Frag} {mg : Str → Option Value} {base : Heap}
theorem fc__law_least (c : HH K mg) : Fc P w K mg base "_law_least" 2 ["_law_top", "_law_low"] (sLLeast mg) := by
  refine fc_go c 24 24 sc__law_least (fun F O ds RT XC ⟨g, e, _⟩ => by rw [e]; rfl) (fun cdv f A outer s H E F O ds RT XC hr hs => ?_) (fun _ _ _ _ _ _ us hl => match us, hl with | [_, _], _ => rfl)
  obtain ⟨⟨a, b⟩, rfl, ⟨h0, hb⟩, hs⟩ := hs
  try dsimp only at hs h0 hb ⊢
  walk_at "gor @_law_top,_law_low,_law_by;_law_gcd;;;;;_law_least;;;;;"
  all_goals first
    | exact gcd_divL h0 hb
    | exact gcd_divL (a := a) h0 hb
    | (walk_at "fin"; rfl)
end
def sLFrac : Spec where
  s := fun F O ds RT XC => ∃ (p : Addr) (m : Int) (r : List D) (O2 : OW), ds = [.raw (.ref p), .int m] ∧ O = (p, .lst r) :: O2 ∧ RowOk r ∧ 1 ≤ m ∧ m ≤ 1000000000000000000000000000000 ∧
    ∀ (a b : Int) (r2 : List D), FrOk m a b → RowOk r2 → ∀ F2, Same F F2 → RT F2 ((p, .lst r2) :: O2) (.tup [.int a, .int b])
  mono := fun F O ds RT XC RT' XC' h1 h2 ⟨p, m, r, O2, e, a, b, c, d, q⟩ => ⟨p, m, r, O2, e, a, b, c, d, fun x y r2 z u F2 e2 => h1 _ _ _ e2 (q x y r2 z u F2 e2)⟩
theorem u__law_fraction {F : Hp} {RT : Hp → OW → D → Prop} {XC : Hp → OW → Value → List (Str × D) → Prop} {p : Addr} {m : Int} {r : List D} {O2 : OW} (hr : RowOk r) (hm : 1 ≤ m ∧ m ≤ 1000000000000000000000000000000)
    (h : ∀ (a b : Int) (r2 : List D), FrOk m a b → RowOk r2 → ∀ F2, Same F F2 → RT F2 ((p, .lst r2) :: O2) (.tup [.int a, .int b])) : sLFrac.s F ((p, .lst r) :: O2) [.raw (.ref p), .int m] RT XC := ⟨p, m, r, O2, rfl, rfl, hr, hm.1, hm.2, h⟩
section
variable {P : Program} {w : World} {K : PySem.W.Frag} {mg : Str → Option Value} {base : Heap}
theorem fc__law_fraction (c : HH K mg) : Fc P w K mg base "_law_fraction" 3 ["_law_row", "_law_most"] sLFrac := by
  refine fc_go c 25 25 sc__law_fraction (fun F O ds RT XC ⟨p, m, r, O2, e, _⟩ => by rw [e]; rfl) (fun cdv f A outer s H E F O ds RT XC hr hs => ?_) (fun _ _ _ _ _ _ us hl => match us, hl with | [_, _], _ => rfl)
  obtain ⟨p, m, r, O2, rfl, rfl, hrow, h1, h2, hs⟩ := hs
  refine wps_seq (fun F2 O1 ρ2 => ∃ x r1, 0 ≤ x ∧ x < (m + 1) / 2 ∧ RowOk r1 ∧ O1 = (p, .lst r1) :: O2 ∧ ρ2 = [some (.raw (.ref p)), some (.int m), some (.int (1 + 2 * x)), none, none]) ?_ ?_
  · walk_at "gor @_law_row,_law_most,_law_low,_law_size,_law_top;_law_least,_law_taken;min;;;;_law_fraction;;;;;"
    exact ⟨_, _, by assumption, by assumption, by assumption, rfl, rfl⟩
  rintro F1 O1 ρ1 e1 ⟨x, r1, x0, x1, hrow, rfl, rfl⟩
  refine wps_seq (fun F2 O1 ρ2 => ∃ z r1, 1 ≤ z ∧ z ≤ 1000000000000000000000000000000 ∧ RowOk r1 ∧ O1 = (p, .lst r1) :: O2 ∧ ρ2 = [some (.raw (.ref p)), some (.int m), some (.int (1 + 2 * x)), some (.int z), none]) ?_ ?_
  · walk_at "gor @_law_row,_law_most,_law_low,_law_size,_law_top;_law_least,_law_taken;min;;;;_law_fraction;;;;;"
    exact ⟨_, _, (frac_size _ _ x0).1, (frac_size _ _ x0).2, by assumption, rfl, rfl⟩
  rintro F2 O1 ρ1 e2 ⟨z, r2, z0, z1, hrow, rfl, rfl⟩
  walk_at "gor @_law_row,_law_most,_law_low,_law_size,_law_top;_law_least,_law_taken;min;;;;_law_fraction;;;;;"
  · exact ⟨by omega, Nat.lt_trans (m := 2 ^ 101) (by omega) (Nat.pow_lt_pow_right (by decide) (by decide))⟩
  · exact hs _ _ _ (frOk_low (by omega) (by omega) (by omega) (by omega) (by omega)) (by assumption) _ (by walk_at "same")
  · exact ⟨by omega, Nat.lt_trans (m := 2 ^ 101) (by omega) (Nat.pow_lt_pow_right (by decide) (by decide))⟩
  · exact hs _ _ _ (frOk_low (by omega) (by omega) (by omega) (by omega) (by omega)) (by assumption) _ (by walk_at "same")
end
def sLBits (mg : Str → Option Value) : Spec := puS mg (fun g : Int × Int × Int => [.int g.1, .int g.2.1, .int g.2.2]) (fun g => g.2.1.natAbs < 2 ^ 8000 ∧ -(2 ^ 62) ≤ g.2.2 ∧ g.2.2 ≤ 1000000) (fun g => .ret (.tup ((bitsM g.2.2.toNat g.1 g.2.1).map .int)))
theorem u__law_bits {mg : Str → Option Value} {F : Hp} {O : OW} {RT : Hp → OW → D → Prop} {XC : Hp → OW → Value → List (Str × D) → Prop} {t l n : Int} (hk : l.natAbs < 2 ^ 8000 ∧ -(2 ^ 62) ≤ n ∧ n ≤ 1000000) (h0 : ∀ F2, Same F F2 → RT F2 O (.tup ((bitsM n.toNat t l).map .int))) : (sLBits mg).s F O [.int t, .int l, .int n] RT XC := ⟨(t, l, n), rfl, hk, outS_ret h0⟩
section
variable {P : Program} {w : World} {K : PySem.W.Frag} {mg : Str → Option Value} {base : Heap}
theorem fc__law_bits (c : HH K mg) : Fc P w K mg base "_law_bits" 1 ["_law_top", "_law_low", "_law_many"] (sLBits mg) := by
  refine fc_go c 26 26 sc__law_bits (fun F O ds RT XC ⟨g, e, _⟩ => by rw [e]; rfl) (fun cdv f A outer s H E F O ds RT XC hr hs => ?_) (fun _ _ _ _ _ _ us hl => match us, hl with | [_, _, _], _ => rfl)
  obtain ⟨⟨t, l, n⟩, rfl, ⟨hl, h0, hn⟩, hs⟩ := hs
  try dsimp only at hs hl h0 hn ⊢
  refine wps_cons (wp_set (i := 3) (x := "_law_found") ?_ sc__law_bits.nd)
  walk_at "gor @_law_top,_law_low,_law_many,_law_found,_law_turn,_law_bit_now;;;tuple;;;_law_bits;;;;;"
  rename_i p
  refine wp_forR1 (i := 4) (x := "_law_turn") (fun k F1 O1 ρ1 => O1 = (p, .lst ((bitsM k t l).map .int)) :: O ∧ ∃ x y, ρ1 = [some (.int (topM k t l)), some (.int l), some (.int n), some (.raw (.ref p)), x, y]) ?_ owns_cx rfl rfl (g_range c) sc__law_bits.nd
  walk_at "gor @_law_top,_law_low,_law_many,_law_found,_law_turn,_law_bit_now;;;tuple;;;_law_bits;;;;;"
  refine ⟨n, rfl, ⟨?_, by omega⟩, ⟨rfl, none, none, rfl⟩, ?_, ?_⟩
  · exact h0
  · rintro k F1 O1 ρ1 e1 hk ⟨rfl, x, y, rfl⟩
    walk_at "gor @_law_top,_law_low,_law_many,_law_found,_law_turn,_law_bit_now;;;tuple;;;_law_bits;;;;;"
    · rw [List.length_map, bitsM_length, sizeLine_eq]
      omega
    · exact mul_c (a := 2) (b := 8000) (by omega) hl
    · refine ⟨?_, _, _, by rw [topM_snoc]; rfl⟩
      rw [bitsM_snoc, List.map_append]
      rfl
  · rintro F1 O1 ρ1 e1 ⟨rfl, x, y, rfl⟩
    refine wps_one (wp_ret (EvP.drop 0 ?_))
    walk_at "gor @_law_top,_law_low,_law_many,_law_found,_law_turn,_law_bit_now;;;tuple;;;_law_bits;;;;;"
    walk_at "fin"
    rfl
end
def badFr (d : D) : Bool := pl1 d && !isFr d
theorem badFr_of {d : D} (h : badFr d = true) : pl1 d = true ∧ isFr d = false := by
  unfold badFr at h
  rw [Bool.and_eq_true, Bool.not_eq_true'] at h
  exact h
def sLBadFr : Spec where
  s := fun F O ds RT XC => ∃ (p : Addr) (j : Nat) (r : List D), ds = [.raw (.ref p)] ∧ O[j]? = some (p, .lst r) ∧ RowOk r ∧
    ∀ (v : D) (r2 : List D), badFr v = true → RowOk r2 → ∀ F2, Same F F2 → RT F2 (O.set j (p, .lst r2)) v
  mono := fun F O ds RT XC RT' XC' h1 h2 ⟨p, j, r, e, a, b, q⟩ => ⟨p, j, r, e, a, b, fun x r2 z u F2 e2 => h1 _ _ _ e2 (q x r2 z u F2 e2)⟩
theorem u__law_bad {F : Hp} {O2 : OW} {RT : Hp → OW → D → Prop} {XC : Hp → OW → Value → List (Str × D) → Prop} {p : Addr} {r : List D} (hr : RowOk r)
    (h : ∀ (v : D) (r2 : List D), badFr v = true → RowOk r2 → ∀ F2, Same F F2 → RT F2 ((p, .lst r2) :: O2) v) : sLBadFr.s F ((p, .lst r) :: O2) [.raw (.ref p)] RT XC := ⟨p, 0, r, rfl, rfl, hr, h⟩
theorem u2__law_bad {F : Hp} {O2 : OW} {RT : Hp → OW → D → Prop} {XC : Hp → OW → Value → List (Str × D) → Prop} {p : Addr} {r : List D} {x0 : Addr × OE} (hr : RowOk r)
    (h : ∀ (v : D) (r2 : List D), badFr v = true → RowOk r2 → ∀ F2, Same F F2 → RT F2 (x0 :: (p, .lst r2) :: O2) v) : sLBadFr.s F (x0 :: (p, .lst r) :: O2) [.raw (.ref p)] RT XC := ⟨p, 1, r, rfl, rfl, hr, h⟩
section
variable {P : Program} {w : World} {K : PySem.W.Frag} {mg : Str → Option Value} {base : Heap}
theorem fc__law_bad (c : HH K mg) : Fc P w K mg base "_law_bad" 2 ["_law_row"] sLBadFr := by
  refine fc_go c 27 27 sc__law_bad (fun F O ds RT XC ⟨p, j, r, e, _⟩ => by rw [e]; rfl) (fun cdv f A outer s H E F O ds RT XC hr hs => ?_) (fun _ _ _ _ _ _ us hl => match us, hl with | [_], _ => rfl)
  obtain ⟨p, j, r, rfl, hO, hrow, hs⟩ := hs
  refine wps_seq (fun F1 O1 ρ1 => O1 = O ∧ ∃ xs : List D, xs.all badFr = true ∧ xs.length < 100 ∧ ρ1 = [some (.raw (.ref p)), some (.lst xs)]) ?_ ?_
  · walk_at "gor @_law_row,_law_some;_law_taken;len;;;;_law_bad;;;;;"
    refine ⟨rfl, _, ?_, ?_, rfl⟩ <;> decide +kernel
  rintro F1 O1 ρ1 e1 ⟨rfl, xs, hx, hl, rfl⟩
  refine wps_seq (fun F1 O2 ρ1 => O2 = O1 ∧ ∃ xs : List D, xs.all badFr = true ∧ 0 < xs.length ∧ xs.length < 200 ∧ ρ1 = [some (.raw (.ref p)), some (.lst xs)]) ?_ ?_
  · walk_at "gor @_law_row,_law_some;_law_taken;len;;;;_law_bad;;;;;"
    refine ⟨rfl, _, ?_, ?_, ?_, rfl⟩
    · rw [List.all_append, hx]
      decide +kernel
    · rw [List.length_append]
      exact Nat.lt_of_lt_of_le (by decide) (Nat.le_add_left _ _)
    · simp only [List.length_append, List.length_cons, List.length_nil]
      omega
  rintro F2 O3 ρ2 e2 ⟨rfl, ys, hy, hl0, hl1, rfl⟩
  walk_at "gor @_law_row,_law_some;_law_taken;len;;;;_law_bad;;;;;"
  refine ⟨p, _, j, r, rfl, hO, hrow, ?_, ?_, fun x r2 x0 x1 hr2 F3 e3 => ?_⟩
  · omega
  · exact Nat.lt_trans (m := 2 ^ 20) (by omega) (Nat.pow_lt_pow_right (by decide) (by decide))
  walk_at "gor @_law_row,_law_some;_law_taken;len;;;;_law_bad;;;;;"
  refine ixd_all (fun d => badFr d = true) x0 x1 (List.all_eq_true.mp hy) fun d hd => ?_
  exact hs d _ hd (by assumption) _ (by walk_at "same")
end
/-- wrong bits, and what is told of them -/
def oddOk (d : D) : Bool := match d with
  | .lst [v, due] => pl1 v && !isBits v && okD 8 due && okD 8 (badIx v) && deq (badIx v) due
  | _ => false
theorem oddOk_of {d : D} (h : oddOk d = true) : ∃ v due, d = .lst [v, due] ∧ pl1 v = true ∧ isBits v = false ∧ okD 8 due = true ∧ okD 8 (badIx v) = true ∧ deq (badIx v) due = true := by
  unfold oddOk at h
  split at h
  · rename_i v due
    simp only [Bool.and_eq_true, Bool.not_eq_true'] at h
    exact ⟨v, due, rfl, h.1.1.1.1, h.1.1.1.2, h.1.1.2, h.1.2, h.2⟩
  · cases h
def sOddBits : Spec where
  s := fun F O ds RT XC => ∃ (p : Addr) (r : List D) (O2 : OW), ds = [.raw (.ref p)] ∧ O = (p, .lst r) :: O2 ∧ RowOk r ∧
    ∀ (v due : D) (r2 : List D), pl1 v = true ∧ isBits v = false ∧ okD 8 due = true ∧ okD 8 (badIx v) = true ∧ deq (badIx v) due = true → RowOk r2 → ∀ F2, Same F F2 → RT F2 ((p, .lst r2) :: O2) (.lst [v, due])
  mono := fun F O ds RT XC RT' XC' h1 h2 ⟨p, r, O2, e, a, b, q⟩ => ⟨p, r, O2, e, a, b, fun x y r2 z u F2 e2 => h1 _ _ _ e2 (q x y r2 z u F2 e2)⟩
theorem u__law_odd_bits {F : Hp} {O2 : OW} {RT : Hp → OW → D → Prop} {XC : Hp → OW → Value → List (Str × D) → Prop} {p : Addr} {r : List D} (hr : RowOk r)
    (h : ∀ (v due : D) (r2 : List D), pl1 v = true ∧ isBits v = false ∧ okD 8 due = true ∧ okD 8 (badIx v) = true ∧ deq (badIx v) due = true → RowOk r2 → ∀ F2, Same F F2 → RT F2 ((p, .lst r2) :: O2) (.lst [v, due])) : sOddBits.s F ((p, .lst r) :: O2) [.raw (.ref p)] RT XC := ⟨p, r, O2, rfl, rfl, hr, h⟩
section
variable {P : Program} {w : World} {K : PySem.W.Frag} {mg : Str → Option Value} {base : Heap}
theorem fc__law_odd_bits (c : HH K mg) : Fc P w K mg base "_law_odd_bits" 2 ["_law_row"] sOddBits := by
  refine fc_go c 28 28 sc__law_odd_bits (fun F O ds RT XC ⟨p, r, O2, e, _⟩ => by rw [e]; rfl) (fun cdv f A outer s H E F O ds RT XC hr hs => ?_) (fun _ _ _ _ _ _ us hl => match us, hl with | [_], _ => rfl)
  obtain ⟨p, r, O2, rfl, rfl, hrow, hs⟩ := hs
  refine wps_seq (fun F1 O1 ρ1 => O1 = (p, .lst r) :: O2 ∧ ∃ xs : List D, xs.all oddOk = true ∧ xs.length < 100 ∧ ρ1 = [some (.raw (.ref p)), some (.lst xs)]) ?_ ?_
  · walk_at "gor @_law_row,_law_some;_law_taken;len;;;;_law_odd_bits;;;;;"
    refine ⟨rfl, _, ?_, ?_, rfl⟩ <;> decide +kernel
  rintro F1 O1 ρ1 e1 ⟨rfl, xs, hx, hl, rfl⟩
  refine wps_seq (fun F1 O1 ρ1 => O1 = (p, .lst r) :: O2 ∧ ∃ xs : List D, xs.all oddOk = true ∧ 0 < xs.length ∧ xs.length < 200 ∧ ρ1 = [some (.raw (.ref p)), some (.lst xs)]) ?_ ?_
  · walk_at "gor @_law_row,_law_some;_law_taken;len;;;;_law_odd_bits;;;;;"
    refine ⟨rfl, _, ?_, ?_, ?_, rfl⟩
    · rw [List.all_append, hx]
      decide +kernel
    · rw [List.length_append]
      exact Nat.lt_of_lt_of_le (by decide) (Nat.le_add_left _ _)
    · simp only [List.length_append, List.length_cons, List.length_nil]
      omega
  rintro F2 O3 ρ2 e2 ⟨rfl, ys, hy, hl0, hl1, rfl⟩
  walk_at "gor @_law_row,_law_some;_law_taken;len;;;;_law_odd_bits;;;;;"
  refine ixd_all (fun d => oddOk d = true) (by assumption) (by assumption) (List.all_eq_true.mp hy) fun d hd => ?_
  obtain ⟨v, due, rfl, hd2⟩ := oddOk_of hd
  exact hs v due _ hd2 (by assumption) _ (by walk_at "same")
end
def s__law_states (mg : Str → Option Value) : Spec := puS mg (fun g : Int × Int => (fun (a : Int) (b : Int) => [.int a, .int b]) g.1 g.2) (fun g => (fun (a : Int) (b : Int) => FrOk 9999 a b) g.1 g.2) (fun g => (fun (a : Int) (b : Int) => .ret (.lst [.lst ((stM a b (lenM a b)).map .int), .int (aheadM a b : Int)])) g.1 g.2)
theorem u__law_states {mg : Str → Option Value} {F : Hp} {O : OW} {RT : Hp → OW → D → Prop} {XC : Hp → OW → Value → List (Str × D) → Prop} {a : Int} {b : Int} (hk : FrOk 9999 a b) (h0 : ∀ F2, Same F F2 → RT F2 O (.lst [.lst ((stM a b (lenM a b)).map .int), .int (aheadM a b : Int)])) : (s__law_states mg).s F O [.int a, .int b] RT XC := ⟨(a, b), rfl, hk, outS_ret (h0)⟩
section
variable {P : Program} {w : World} {K : PySem.W.Frag} {mg : Str → Option Value} {base : Heap}
theorem fc__law_states (c : HH K mg) : Fc P w K mg base "_law_states" 1 ["_law_top", "_law_low"] (s__law_states mg) := by
  refine fc_go c 29 29 sc__law_states (fun F O ds RT XC ⟨g, e, _⟩ => by rw [e]; rfl) (fun cdv f A outer s H E F O ds RT XC hr hs => ?_) (fun _ _ _ _ _ _ us hl => match us, hl with | [_, _], _ => rfl)
  obtain ⟨⟨a, b⟩, rfl, hk, hs⟩ := hs
  try dsimp only at hs hk ⊢
  have fr := hk
  have R := fr.row
  have hlen := R.len
  obtain ⟨b1, b2, b3, g1, a1, a2⟩ := fr
  have hb8 : b.natAbs < 2 ^ 8000 := Nat.lt_trans (m := 2 ^ 101) (by omega) (Nat.pow_lt_pow_right (by decide) (by decide))
  refine wps_cons (wp_par (i := 2) (x := "_law_seen") (j := 3) (y := "_law_line") (evp_dicO fun p1 => evp_lstO ?_) rfl sc__law_states.nd)
  walk_at "gor @_law_top,_law_low,_law_seen,_law_line;;len;;;;_law_states;2:_law_seen:3:_law_line;;;;"
  rename_i p2
  refine wp_cut (fun F1 O1 ρ1 => ∃ (p1 : _) (p2 : _), (p2, .lst ((stM a b (lenM a b)).map .int)) :: (p1, .dic (dicM a b (lenM a b))) :: O = O1 ∧ ρ1 = [some (.int (topM (lenM a b) a b)), some (.int b), some (.raw (.ref p1)), some (.raw (.ref p2))]) ?_ ?_
  · refine wp_while (fun m => (fun F1 O1 ρ1 => ∃ (p1 : _) (p2 : _) (n : _), (n ≤ lenM a b ∧ m = lenM a b - n) ∧ (p2, .lst ((stM a b n).map .int)) :: (p1, .dic (dicM a b n)) :: O = O1 ∧ ρ1 = [some (.int (topM n a b)), some (.int b), some (.raw (.ref p1)), some (.raw (.ref p2))])) ⟨lenM a b, ⟨p1, p2, 0, ?_, rfl, rfl⟩⟩ ?_ owns_cx
    · exact ⟨by omega, rfl⟩
    rintro m F1 O1 ρ1 e1 ⟨p1, p2, n, hs2, rfl, rfl⟩
    obtain ⟨hn1, rfl⟩ := hs2
    have hget := R.get hn1
    by_cases hN : n = lenM a b
    · rw [if_pos hN] at hget
      walk_at "gor @_law_top,_law_low,_law_seen,_law_line;;len;;;;_law_states;2:_law_seen:3:_law_line;;;;"
      rw [hN]
      exact ⟨_, _, rfl, rfl⟩
    · rw [if_neg hN] at hget
      have hlt : n < lenM a b := by omega
      walk_at "gor @_law_top,_law_low,_law_seen,_law_line;;len;;;;_law_states;2:_law_seen:3:_law_line;;;;"
      · rw [dicM_length, sizeLine_eq]
        omega
      · rw [List.length_map, stM_length, sizeLine_eq]
        omega
      · rw [List.length_map, stM_length, R.put hlt, nxt_fold, stM_fold]
        refine ⟨lenM a b - (n + 1), by omega, ⟨p1, p2, n+1, ?_, rfl, rfl⟩⟩
        exact ⟨by omega, rfl⟩
  rintro F3 O3 ρ3 e3 ⟨p1, p2, rfl, rfl⟩
  have hget := R.get (Nat.le_refl (lenM a b))
  rw [if_pos rfl] at hget
  refine wps_freeze (i := 3) (j := 0) rfl rfl fun F4 e4 => ?_
  refine wps_one (wp_ret (EvP.drop 0 ?_))
  walk_at "gor @_law_top,_law_low,_law_seen,_law_line;;len;;;;_law_states;2:_law_seen:3:_law_line;;;;"
  walk_at "fin"
  rfl
end
def s__law_at (mg : Str → Option Value) : Spec := puS mg (fun g : Int × Int × Int => (fun (a : Int) (b : Int) (k : Int) => [.lst [.lst ((stM a b (lenM a b)).map .int), .int (aheadM a b : Int)], .int k]) g.1 g.2.1 g.2.2) (fun g => (fun (a : Int) (b : Int) (k : Int) => RowFr a b ∧ 0 ≤ k ∧ b ≤ 1000000000000000000000000000000) g.1 g.2.1 g.2.2) (fun g => (fun (a : Int) (b : Int) (k : Int) => .ret (.int (topM k.toNat a b))) g.1 g.2.1 g.2.2)
theorem u__law_at {mg : Str → Option Value} {F : Hp} {O : OW} {RT : Hp → OW → D → Prop} {XC : Hp → OW → Value → List (Str × D) → Prop} {a : Int} {b : Int} {k : Int} (hk : RowFr a b ∧ 0 ≤ k ∧ b ≤ 1000000000000000000000000000000) (h0 : ∀ F2, Same F F2 → RT F2 O (.int (topM k.toNat a b))) : (s__law_at mg).s F O [.lst [.lst ((stM a b (lenM a b)).map .int), .int (aheadM a b : Int)], .int k] RT XC := ⟨(a, b, k), rfl, hk, outS_ret (h0)⟩
section
variable {P : Program} {w : World} {K : PySem.W.Frag} {mg : Str → Option Value} {base : Heap}
theorem fc__law_at (c : HH K mg) : Fc P w K mg base "_law_at" 1 ["_law_told", "_law_place"] (s__law_at mg) := by
  refine fc_go c 30 30 sc__law_at (fun F O ds RT XC ⟨g, e, _⟩ => by rw [e]; rfl) (fun cdv f A outer s H E F O ds RT XC hr hs => ?_) (fun _ _ _ _ _ _ us hl => match us, hl with | [_, _], _ => rfl)
  obtain ⟨⟨a, b, k⟩, rfl, hk, hs⟩ := hs
  try dsimp only at hs hk ⊢
  obtain ⟨R, k0, b0⟩ := hk
  obtain ⟨k, rfl⟩ := Int.eq_ofNat_of_zero_le k0
  have o1 := R.ord.pos
  have o2 := R.ord.le
  have hl : ((lenM a b : Nat) : Int) - (aheadM a b : Int) = (ordM b : Int) := by unfold lenM; omega
  refine wps_seq (fun F2 O2 ρ2 => O = O2 ∧ ρ2 = [some (.lst [.lst ((stM a b (lenM a b)).map .int), .int (aheadM a b : Int)]), some (.int k), some (.lst ((stM a b (lenM a b)).map .int)), some (.int (aheadM a b : Int))]) ?_ ?_
  · walk_at "gor @_law_told,_law_place,_law_line,_law_begin;;len;;;;_law_at;2:_law_line:3:_law_begin;;;;"
    exact ⟨rfl, rfl⟩
  rintro F1 O1 ρ1 e1 ⟨rfl, rfl⟩
  rw [Int.toNat_natCast] at hs
  by_cases hlt : (k : Int) < (aheadM a b : Int)
  · have k2 : k < lenM a b := by unfold lenM; omega
    walk_at "gor @_law_told,_law_place,_law_line,_law_begin;;len;;;;_law_at;2:_law_line:3:_law_begin;;;;"
    all_goals first
      | contradiction
      | skip
    refine ixd_lst (d := .int (topM k a b)) (atI_nat (by rw [List.getElem?_map, stM_get k2]; rfl)) ?_
    walk_at "fin"
    rfl
  · have hm0 : 0 ≤ ((k : Int) - (aheadM a b : Int)) % (ordM b : Int) := Int.emod_nonneg _ (by omega)
    have hm1 : ((k : Int) - (aheadM a b : Int)) % (ordM b : Int) < (ordM b : Int) := Int.emod_lt_of_pos _ (by omega)
    have em : (aheadM a b : Int) + ((k : Int) - (aheadM a b : Int)) % (ordM b : Int) = ((aheadM a b + (k - aheadM a b) % ordM b : Nat) : Int) := by
      rw [show (k : Int) - (aheadM a b : Int) = ((k - aheadM a b : Nat) : Int) by omega]
      simp
    have k3 : aheadM a b + (k - aheadM a b) % ordM b < lenM a b := by
      have := Nat.mod_lt (k - aheadM a b) (show 0 < ordM b by omega)
      unfold lenM
      omega
    walk_at "gor @_law_told,_law_place,_law_line,_law_begin;;len;;;;_law_at;2:_law_line:3:_law_begin;;;;"
    all_goals first
      | contradiction
      | skip
    all_goals simp only [List.length_map, stM_length, hl]
    all_goals first
      | exact div_c (b := 100) (by omega) (by omega)
      | omega
      | skip
    refine ixd_lst (d := .int (topM (aheadM a b + (k - aheadM a b) % ordM b) a b)) ?_ ?_
    · rw [em]
      exact atI_nat (by rw [List.getElem?_map, stM_get k3]; rfl)
    walk_at "fin"
    rw [topM_far R.h1 R.h2 R.ahead (k := k) (by omega)]
end
def refW (k : Int) (d e : D) : D := if k < 3 then (if isFr d = true then (if isShort d = true then (if k < 2 then .lst [.str "bits", badIx e] else .lst [e]) else .lst [.str "long", .int 10000]) else .str "fraction") else if oddIn 1 mst d = true then .lst [.str "bits", badIx e] else .lst [d]
def preW (k : Int) (d e : D) : Prop := (0 ≤ k ∧ k < 3 ∧ pl1 d = true ∧ pl1 e = true ∧ ((isFr d = true → isShort d = true → frB d < 300) ∧ (isFr d = false ∨ isShort d = false ∨ (k < 2 ∧ isBits e = false) ∨ (k = 2 ∧ isFrom e 0 64 = false)))) ∨ (3 ≤ k ∧ k ≤ 4 ∧ kindD d ≠ none ∧ pl1 e = true ∧ (oddIn 1 mst d = false ∨ isBits e = false))
def s__law_refused (mg : Str → Option Value) : Spec := puS mg (fun g : Int × D × D => (fun (k : Int) (d : D) (e : D) => [.int k, d, e]) g.1 g.2.1 g.2.2) (fun g => (fun (k : Int) (d : D) (e : D) => preW k d e) g.1 g.2.1 g.2.2) (fun g => (fun (k : Int) (d : D) (e : D) => .ret (refW k d e)) g.1 g.2.1 g.2.2)
theorem u__law_refused {mg : Str → Option Value} {F : Hp} {O : OW} {RT : Hp → OW → D → Prop} {XC : Hp → OW → Value → List (Str × D) → Prop} {k : Int} {d : D} {e : D} (hk : preW k d e) (h0 : ∀ F2, Same F F2 → RT F2 O (refW k d e)) : (s__law_refused mg).s F O [.int k, d, e] RT XC := ⟨(k, d, e), rfl, hk, outS_ret (h0)⟩
theorem pl1_ne {d : D} (h : pl1 d = true) : kindD d ≠ none := by
  unfold pl1 at h
  rw [Bool.and_eq_true] at h
  exact pl0_ne h.1
section
variable {P : Program} {w : World} {K : PySem.W.Frag} {mg : Str → Option Value} {base : Heap}
theorem fc__law_refused (c : HH K mg) : Fc P w K mg base "_law_refused" 6 ["_law_kind", "_law_first", "_law_told"] (s__law_refused mg) := by
  refine fc_go c 31 31 sc__law_refused (fun F O ds RT XC ⟨g, e, _⟩ => by rw [e]; rfl) (fun cdv f A outer s H E F O ds RT XC hr hs => ?_) (fun _ _ _ _ _ _ us hl => match us, hl with | [_, _, _], _ => rfl)
  obtain ⟨⟨k, d, e⟩, rfl, hk, hs⟩ := hs
  try dsimp only at hs hk ⊢
  refine wps_seq (fun F1 O1 ρ1 => O = O1 ∧ ρ1 = [some (.int k), some (d), some (e), some (.non), none]) ?_ ?_
  · walk_at "gor @_law_kind,_law_first,_law_told,_law_found,e;tops_with,kth_top;;;;first_place,places_with,window_count;_law_refused;;;BadFraction,TooLong,BadBits,BadNumber;BadFraction,BadNumber,BadBits,TooLong;BadNumber,BadBits,TooLong"
    exact ⟨rfl, rfl⟩
  rintro F0 O0 ρ0 e0 ⟨rfl, rfl⟩
  refine wps_seq (fun F1 O1 ρ1 => ∃ (y : _) (z4 : Option D), (y = refW k d e) ∧ O = O1 ∧ ρ1 = [some (.int k), some (d), some (e), some (y), z4]) ?_ ?_
  · refine wp_try [⟨.ref (He.ga K "BadFraction"), none, _⟩, ⟨.ref (He.ga K "TooLong"), some 4, _⟩, ⟨.ref (He.ga K "BadBits"), some 4, _⟩, ⟨.ref (He.ga K "BadNumber"), some 4, _⟩] (.bare ⟨rfl, by decide, .inl (g_BadFraction c)⟩ (.named ⟨rfl, by decide, .inl (g_TooLong c)⟩ sc__law_refused.nd rfl rfl (.named ⟨rfl, by decide, .inl (g_BadBits c)⟩ sc__law_refused.nd rfl rfl (.named ⟨rfl, by decide, .inl (g_BadNumber c)⟩ sc__law_refused.nd rfl rfl .nil)))) (fun pn xe po => ?_)
    rcases hk with ⟨k0, k3, hd, he, hb, hc⟩ | ⟨k3, k4, hd, he, hc⟩
    · have hk1 : kindD d ≠ none := pl1_ne hd
      have hk2 : kindD e ≠ none := pl1_ne he
      have h3 : k = 0 ∨ k = 1 ∨ k = 2 := by omega
      rcases h3 with rfl | rfl | rfl
      all_goals walk_at "gor @_law_kind,_law_first,_law_told,_law_found,e;tops_with,kth_top;;;;first_place,places_with,window_count;_law_refused;;;BadFraction,TooLong,BadBits,BadNumber;BadFraction,BadNumber,BadBits,TooLong;BadNumber,BadBits,TooLong"
      all_goals first
        | (exfalso; omega)
        | (refine ⟨_, _, ?_, rfl, rfl⟩; unfold refW; simp_all; done)
        | (have := hb (by assumption) (by assumption); omega)
        | exact ⟨hk2, hb⟩
        | (exfalso; rcases hc with hc | hc | ⟨hc, hc2⟩ | ⟨hc, hc2⟩ <;> simp_all; done)
        | skip
    · have hk2 : kindD e ≠ none := pl1_ne he
      have h3 : k = 3 ∨ k = 4 := by omega
      rcases h3 with rfl | rfl
      all_goals walk_at "gor @_law_kind,_law_first,_law_told,_law_found,e;tops_with,kth_top;;;;first_place,places_with,window_count;_law_refused;;;BadFraction,TooLong,BadBits,BadNumber;BadFraction,BadNumber,BadBits,TooLong;BadNumber,BadBits,TooLong"
      all_goals first
        | (exfalso; omega)
        | (refine ⟨_, _, ?_, rfl, rfl⟩; unfold refW; simp_all; done)
        | exact ⟨hd, he⟩
        | exact ⟨hd, he, by simp [kindD]⟩
        | (exfalso; rcases hc with hc | hc <;> simp_all; done)
        | skip
  rintro F1 O1 ρ1 e1 ⟨y, z4, hs1, rfl, rfl⟩
  walk_at "gor @_law_kind,_law_first,_law_told,_law_found,e;tops_with,kth_top;;;;first_place,places_with,window_count;_law_refused;;;BadFraction,TooLong,BadBits,BadNumber;BadFraction,BadNumber,BadBits,TooLong;BadNumber,BadBits,TooLong"
  walk_at "fin"
  rw [hs1]
end
theorem frst_head (a b : Int) (bs : List Int) : frstM a b bs = (plcsM a b bs).head? := by
  unfold frstM plcsM
  rw [List.head?_filter]
theorem rng_filt (lo : Int) (n : Nat) (q : Int → Bool) : ((rngD lo n).filter fun d => q (intD d)).map id = (((List.range n).map fun i : Nat => lo + (i : Int)).filter q).map .int := by
  unfold rngD
  rw [List.map_id, List.filter_map, List.filter_map, List.map_map]
  rfl
theorem bad26a : ∀ d ∈ [D.non, .int (-1), .int 65, .bl true, .str "1"], kindD d ≠ none ∧ isFrom d 0 64 = false ∧ okD 8 d = true ∧ pl1 d = true := by
  intro d h
  simp only [List.mem_cons, List.not_mem_nil, or_false] at h
  rcases h with rfl | rfl | rfl | rfl | rfl <;> exact ⟨by simp [kindD], by decide +kernel, by decide +kernel, by decide +kernel⟩
theorem bad26b : ∀ d ∈ [D.non, .int 0, .int 2, .int (-3), .int 1000000000000000000000000000000, .int (1000000000000000000000000000000 + 1), .bl true, .str "3"], kindD d ≠ none ∧ oddIn 1 mst d = false ∧ okD 8 d = true ∧ pl1 d = true := by
  intro d h
  simp only [List.mem_cons, List.not_mem_nil, or_false] at h
  rcases h with rfl | rfl | rfl | rfl | rfl | rfl | rfl | rfl <;> exact ⟨by simp [kindD], by decide +kernel, by decide +kernel, by decide +kernel⟩
theorem bits_due {x due : D} (h1 : okD 8 x = true) (h2 : okD 8 due = true) (h3 : deq x due = true) : okD 9 (.lst [.str "bits", x]) = true ∧ okD 9 (.lst [.str "bits", due]) = true ∧ deq (.lst [.str "bits", x]) (.lst [.str "bits", due]) = true := by
  refine ⟨?_, ?_, ?_⟩
  · show (okD 8 (.str "bits") && (okD 8 x && true)) = true
    rw [h1, show okD 8 (.str "bits") = true by decide +kernel]
    rfl
  · show (okD 8 (.str "bits") && (okD 8 due && true)) = true
    rw [h2, show okD 8 (.str "bits") = true by decide +kernel]
    rfl
  · rw [deq_lst, deqs_cons, deqs_cons, deqs_nil, h3, deq_str]
    simp
section
variable {P : Program} {w : World} {K : PySem.W.Frag} {mg : Str → Option Value} {base : Heap}
theorem law_ok (w : World) (K : PySem.W.Frag) (mg : Str → Option Value) (c : HH K mg) : ∃ fd, (∀ (s : Shared) (u : Value), BindsTo s fd ⟨[u], []⟩ [("_law_script", u)]) ∧ ∀ base, FnOk RW.prog w K mg base (L2.CX RW.prog w) 7 (He.ga K "law") fd ["_law_script"] (spD K (lawS mg 63)) := by
  refine law_go c 32 sc_law (fun base cdv f A outer s H E F O ds RT XC hr hs => ?_) (fun _ _ _ _ _ _ us hl => match us, hl with | [_], _ => rfl)
  obtain ⟨ns, rfl, hn, hs⟩ := hs
  try dsimp only at hs hn ⊢
  refine wps_start (fun F1 O1 ρ1 => ∃ (z1 : Option D) (z2 : Option D) (z3 : Option D) (z4 : Option D) (z5 : Option D) (z6 : Option D) (z7 : Option D) (z8 : Option D) (z9 : Option D) (z10 : Option D) (z11 : Option D) (z12 : Option D) (z13 : Option D) (z14 : Option D) (z15 : Option D) (z16 : Option D) (z17 : Option D) (z18 : Option D) (z19 : Option D) (z20 : Option D), O = O1 ∧ ρ1 = [some (.frl (ns.map .int)), z1, z2, z3, z4, z5, z6, z7, z8, z9, z10, z11, z12, z13, z14, z15, z16, z17, z18, z19, z20]) ⟨_, _, _, _, _, _, _, _, _, _, _, _, _, _, _, _, _, _, _, _, rfl, rfl⟩ ?_
  refine wps_seqC (fun F1 O1 ρ1 => ∃ (r : _) (p : _) (z2 : Option D) (z3 : Option D) (z4 : Option D) (z5 : Option D) (z6 : Option D) (z7 : Option D) (z8 : Option D) (z9 : Option D) (z10 : Option D) (z11 : Option D) (z12 : Option D) (z13 : Option D) (z14 : Option D) (z15 : Option D) (z16 : Option D) (z17 : Option D) (z18 : Option D) (z19 : Option D) (z20 : Option D), (RowOk r) ∧ (p, .lst r) :: O = O1 ∧ ρ1 = [some (.frl (ns.map .int)), some (.raw (.ref p)), z2, z3, z4, z5, z6, z7, z8, z9, z10, z11, z12, z13, z14, z15, z16, z17, z18, z19, z20]) ?_ ?_
  · rintro F1 O1 ρ1 e1 ⟨z1, z2, z3, z4, z5, z6, z7, z8, z9, z10, z11, z12, z13, z14, z15, z16, z17, z18, z19, z20, rfl, rfl⟩
    refine wp_set (i := 1) (x := "_law_row") (evp_lstO ?_) sc_law.nd
    repeat' walk_at "go _law_script,_law_row,_law_top,_law_low,_law_line,_law_begin,_law_size,_law_many,_law_told,_law_at_here,_law_some,_law_places,_law_tops,_law_windows,_law_bits_wrong,_law_index,_law_kind,_law_bad_here,_law_place,_law_k,_law_one;_law_fraction,_law_states,_law_taken,_law_odd_bits,_law_refused,_law_at,first_place,places_with,window_count,_law_bad,tops_with,_law_bits,kth_top;len;tuple,set;;;law;2:_law_top:3:_law_low,4:_law_line:5:_law_begin,6:_law_size:7:_law_many,14:_law_bits_wrong:15:_law_index;;;;"
    refine ⟨_, _, _, _, _, _, _, _, _, _, _, _, _, _, _, _, _, _, _, _, _, ?_, rfl, rfl⟩
    exact rowOk_mk ns 0 926 0 hn (by decide) (by decide) (by decide)
  refine wps_seqC (fun F1 O1 ρ1 => ∃ (r : _) (p : _) (a : _) (b : _) (z4 : Option D) (z5 : Option D) (z6 : Option D) (z7 : Option D) (z8 : Option D) (z9 : Option D) (z10 : Option D) (z11 : Option D) (z12 : Option D) (z13 : Option D) (z14 : Option D) (z15 : Option D) (z16 : Option D) (z17 : Option D) (z18 : Option D) (z19 : Option D) (z20 : Option D), (RowOk r ∧ FrOk 99 a b) ∧ (p, .lst r) :: O = O1 ∧ ρ1 = [some (.frl (ns.map .int)), some (.raw (.ref p)), some (.int a), some (.int b), z4, z5, z6, z7, z8, z9, z10, z11, z12, z13, z14, z15, z16, z17, z18, z19, z20]) ?_ ?_
  · --SEG a
        rintro F1 O1 ρ1 e1 ⟨r, p, z2, z3, z4, z5, z6, z7, z8, z9, z10, z11, z12, z13, z14, z15, z16, z17, z18, z19, z20, hs0, rfl, rfl⟩
        walk_at "gor @_law_script,_law_row,_law_top,_law_low,_law_line,_law_begin,_law_size,_law_many,_law_told,_law_at_here,_law_some,_law_places,_law_tops,_law_windows,_law_bits_wrong,_law_index,_law_kind,_law_bad_here,_law_place,_law_k,_law_one;_law_fraction,_law_states,_law_taken,_law_odd_bits,_law_refused,_law_at,first_place,places_with,window_count,_law_bad,tops_with,_law_bits,kth_top;len;tuple,set;;;law;2:_law_top:3:_law_low,4:_law_line:5:_law_begin,6:_law_size:7:_law_many,14:_law_bits_wrong:15:_law_index;;;;"
        refine ⟨_, _, _, _, _, _, _, _, _, _, _, _, _, _, _, _, _, _, _, _, _, ?_, rfl, rfl⟩
        exact ⟨by assumption, by assumption⟩
  refine wps_seqC (fun F1 O1 ρ1 => ∃ (r : _) (p : _) (a : _) (b : _) (z6 : Option D) (z7 : Option D) (z8 : Option D) (z9 : Option D) (z10 : Option D) (z11 : Option D) (z12 : Option D) (z13 : Option D) (z14 : Option D) (z15 : Option D) (z16 : Option D) (z17 : Option D) (z18 : Option D) (z19 : Option D) (z20 : Option D), (RowOk r ∧ FrOk 99 a b) ∧ (p, .lst r) :: O = O1 ∧ ρ1 = [some (.frl (ns.map .int)), some (.raw (.ref p)), some (.int a), some (.int b), some (.lst ((stM a b (lenM a b)).map .int)), some (.int (aheadM a b : Int)), z6, z7, z8, z9, z10, z11, z12, z13, z14, z15, z16, z17, z18, z19, z20]) ?_ ?_
  · --SEG b
        rintro F1 O1 ρ1 e1 ⟨r, p, a, b, z4, z5, z6, z7, z8, z9, z10, z11, z12, z13, z14, z15, z16, z17, z18, z19, z20, hs1, rfl, rfl⟩
        obtain ⟨hw, fr⟩ := id hs1
        have fr2 := FrOk.mono fr (show (99 : Int) ≤ 9999 by decide)
        walk_at "gor fr2@_law_script,_law_row,_law_top,_law_low,_law_line,_law_begin,_law_size,_law_many,_law_told,_law_at_here,_law_some,_law_places,_law_tops,_law_windows,_law_bits_wrong,_law_index,_law_kind,_law_bad_here,_law_place,_law_k,_law_one;_law_fraction,_law_states,_law_taken,_law_odd_bits,_law_refused,_law_at,first_place,places_with,window_count,_law_bad,tops_with,_law_bits,kth_top;len;tuple,set;;;law;2:_law_top:3:_law_low,4:_law_line:5:_law_begin,6:_law_size:7:_law_many,14:_law_bits_wrong:15:_law_index;;;;"
        refine ⟨_, _, _, _, _, _, _, _, _, _, _, _, _, _, _, _, _, _, _, ?_, rfl, rfl⟩
        exact hs1
  refine wps_seqC (fun F1 O1 ρ1 => ∃ (r : _) (p : _) (a : _) (b : _) (n : Int) (z8 : Option D) (z9 : Option D) (z10 : Option D) (z11 : Option D) (z12 : Option D) (z13 : Option D) (z14 : Option D) (z15 : Option D) (z16 : Option D) (z17 : Option D) (z18 : Option D) (z19 : Option D) (z20 : Option D), (RowOk r ∧ FrOk 99 a b ∧ 0 ≤ n ∧ n < 65) ∧ (p, .lst r) :: O = O1 ∧ ρ1 = [some (.frl (ns.map .int)), some (.raw (.ref p)), some (.int a), some (.int b), some (.lst ((stM a b (lenM a b)).map .int)), some (.int (aheadM a b : Int)), some (.int (ordM b : Int)), some (.int n), z8, z9, z10, z11, z12, z13, z14, z15, z16, z17, z18, z19, z20]) ?_ ?_
  · --SEG c
        rintro F1 O1 ρ1 e1 ⟨r, p, a, b, z6, z7, z8, z9, z10, z11, z12, z13, z14, z15, z16, z17, z18, z19, z20, hs2, rfl, rfl⟩
        obtain ⟨hw, fr⟩ := id hs2
        walk_at "gor @_law_script,_law_row,_law_top,_law_low,_law_line,_law_begin,_law_size,_law_many,_law_told,_law_at_here,_law_some,_law_places,_law_tops,_law_windows,_law_bits_wrong,_law_index,_law_kind,_law_bad_here,_law_place,_law_k,_law_one;_law_fraction,_law_states,_law_taken,_law_odd_bits,_law_refused,_law_at,first_place,places_with,window_count,_law_bad,tops_with,_law_bits,kth_top;len;tuple,set;;;law;2:_law_top:3:_law_low,4:_law_line:5:_law_begin,6:_law_size:7:_law_many,14:_law_bits_wrong:15:_law_index;;;;"
        · unfold sel3
          (repeat' split) <;> exact ⟨by decide, by decide⟩
        · rename_i x0 x1 _ _ _
          rw [List.length_map, stM_length, show ((lenM a b : Nat) : Int) - (aheadM a b : Int) = (ordM b : Int) by unfold lenM; omega]
          refine ⟨_, _, _, _, _, _, _, _, _, _, _, _, _, _, _, _, _, _, ?_, rfl, rfl⟩
          refine ⟨by assumption, fr, by assumption, Int.lt_of_lt_of_le (by assumption) ?_⟩
          unfold sel3
          (repeat' split) <;> decide
  refine wps_seqC (fun F1 O1 ρ1 => ∃ (r : _) (p : _) (a : _) (b : _) (n : Int) (z9 : Option D) (z10 : Option D) (z11 : Option D) (z12 : Option D) (z13 : Option D) (z14 : Option D) (z15 : Option D) (z16 : Option D) (z17 : Option D) (z18 : Option D) (z19 : Option D) (z20 : Option D), (RowOk r ∧ FrOk 99 a b ∧ 0 ≤ n ∧ n < 65) ∧ (p, .lst r) :: O = O1 ∧ ρ1 = [some (.frl (ns.map .int)), some (.raw (.ref p)), some (.int a), some (.int b), some (.lst ((stM a b (lenM a b)).map .int)), some (.int (aheadM a b : Int)), some (.int (ordM b : Int)), some (.int n), some (.lst ((bitsM (lenM a b + 70) a b).map .int)), z9, z10, z11, z12, z13, z14, z15, z16, z17, z18, z19, z20]) ?_ ?_
  · --SEG d
        rintro F1 O1 ρ1 e1 ⟨r, p, a, b, n, z8, z9, z10, z11, z12, z13, z14, z15, z16, z17, z18, z19, z20, hs3, rfl, rfl⟩
        obtain ⟨hw, fr, n0, n1⟩ := id hs3
        have R := fr.row
        have q1 := R.len
        have b2 := fr.b2
        have H : ∀ k3 : Nat, RowFr a b ∧ 0 ≤ (k3 : Int) ∧ b ≤ 1000000000000000000000000000000 := fun k3 => ⟨R, by omega, by omega⟩
        refine wp_set (i := 8) (x := "_law_told") (evp_lcp rfl sc_law.nd (blkOk_by (own := [("_law_place", 18)]) (by rfl)) (fun _ _ _ _ _ => pg_name (i := 18) sc_law.nd rfl (by first | exact Or.inl rfl | exact Or.inr rfl) (by first | exact .inl rfl | exact .inr rfl)) (lcp_M (onIntD fun i => .int (topM i a b % 2)) (tgd_name (i := 18) (by simp)) ?_)) sc_law.nd
        walk_at "gor @_law_script,_law_row,_law_top,_law_low,_law_line,_law_begin,_law_size,_law_many,_law_told,_law_at_here,_law_some,_law_places,_law_tops,_law_windows,_law_bits_wrong,_law_index,_law_kind,_law_bad_here,_law_place,_law_k,_law_one;_law_fraction,_law_states,_law_taken,_law_odd_bits,_law_refused,_law_at,first_place,places_with,window_count,_law_bad,tops_with,_law_bits,kth_top;len;tuple,set;;;law;2:_law_top:3:_law_low,4:_law_line:5:_law_begin,6:_law_size:7:_law_many,14:_law_bits_wrong:15:_law_index;;;;"
        rw [List.length_map, stM_length, show ((lenM a b : Nat) : Int) + 70 = ((lenM a b + 70 : Nat) : Int) by omega]
        refine ⟨_, rfl, by omega, by rw [rngD_length, sizeLine_eq]; omega, fun k3 d F7 acc Dl e7 hd => ?_, fun F7 e7 => ?_⟩
        · obtain ⟨hk3, rfl⟩ := rngD_of hd
          rw [Int.zero_add] at *
          refine ⟨_, rfl, ?_⟩
          walk_at "gor H~@_law_script,_law_row,_law_top,_law_low,_law_line,_law_begin,_law_size,_law_many,_law_told,_law_at_here,_law_some,_law_places,_law_tops,_law_windows,_law_bits_wrong,_law_index,_law_kind,_law_bad_here,_law_place,_law_k,_law_one;_law_fraction,_law_states,_law_taken,_law_odd_bits,_law_refused,_law_at,first_place,places_with,window_count,_law_bad,tops_with,_law_bits,kth_top;len;tuple,set;;;law;2:_law_top:3:_law_low,4:_law_line:5:_law_begin,6:_law_size:7:_law_many,14:_law_bits_wrong:15:_law_index;;;;"
          exact ⟨rfl, rfl⟩
        · rw [Int.toNat_natCast, seg_D, ← bits_seg (t := a) (l := b) (fun _ => rfl)]
          refine ⟨_, _, _, _, _, _, _, _, _, _, _, _, _, _, _, _, _, ?_, rfl, rfl⟩
          exact hs3
  refine wps_seqC (fun F1 O1 ρ1 => ∃ (r : _) (p : _) (a : _) (b : _) (n : Int) (x : Int) (z10 : Option D) (z11 : Option D) (z12 : Option D) (z13 : Option D) (z14 : Option D) (z15 : Option D) (z16 : Option D) (z17 : Option D) (z18 : Option D) (z19 : Option D) (z20 : Option D), (RowOk r ∧ FrOk 99 a b ∧ 0 ≤ n ∧ n < 65 ∧ 0 ≤ x ∧ x < (lenM a b : Int)) ∧ (p, .lst r) :: O = O1 ∧ ρ1 = [some (.frl (ns.map .int)), some (.raw (.ref p)), some (.int a), some (.int b), some (.lst ((stM a b (lenM a b)).map .int)), some (.int (aheadM a b : Int)), some (.int (ordM b : Int)), some (.int n), some (.lst ((bitsM (lenM a b + 70) a b).map .int)), some (.int x), z10, z11, z12, z13, z14, z15, z16, z17, z18, z19, z20]) ?_ ?_
  · --SEG e
        rintro F1 O1 ρ1 e1 ⟨r, p, a, b, n, z9, z10, z11, z12, z13, z14, z15, z16, z17, z18, z19, z20, hs4, rfl, rfl⟩
        obtain ⟨hw, fr, n0, n1⟩ := id hs4
        have q1 := fr.row.len
        have q2 := fr.row.ord.pos
        have b2 := fr.b2
        have A : 0 < (((stM a b (lenM a b)).map D.int).length : Int) ∧ (((stM a b (lenM a b)).map D.int).length : Int) ≤ lim := by
          rw [List.length_map, stM_length]
          unfold lim lenM at *
          omega
        walk_at "gor hw,A@_law_script,_law_row,_law_top,_law_low,_law_line,_law_begin,_law_size,_law_many,_law_told,_law_at_here,_law_some,_law_places,_law_tops,_law_windows,_law_bits_wrong,_law_index,_law_kind,_law_bad_here,_law_place,_law_k,_law_one;_law_fraction,_law_states,_law_taken,_law_odd_bits,_law_refused,_law_at,first_place,places_with,window_count,_law_bad,tops_with,_law_bits,kth_top;len;tuple,set;;;law;2:_law_top:3:_law_low,4:_law_line:5:_law_begin,6:_law_size:7:_law_many,14:_law_bits_wrong:15:_law_index;;;;"
        rw [List.length_map, stM_length] at *
        refine ⟨_, _, _, _, _, _, _, _, _, _, _, _, _, _, _, _, _, ?_, rfl, rfl⟩
        exact ⟨by assumption, fr, n0, n1, by assumption, by assumption⟩
  refine wps_seqC (fun F1 O1 ρ1 => ∃ (r : _) (p : _) (a : _) (b : _) (n : Int) (z9 : Option D) (z10 : Option D) (z11 : Option D) (z12 : Option D) (z13 : Option D) (z14 : Option D) (z15 : Option D) (z16 : Option D) (z17 : Option D) (z18 : Option D) (z19 : Option D) (z20 : Option D), (RowOk r ∧ FrOk 99 a b ∧ 0 ≤ n ∧ n < 65) ∧ (p, .lst r) :: O = O1 ∧ ρ1 = [some (.frl (ns.map .int)), some (.raw (.ref p)), some (.int a), some (.int b), some (.lst ((stM a b (lenM a b)).map .int)), some (.int (aheadM a b : Int)), some (.int (ordM b : Int)), some (.int n), some (.lst ((bitsM (lenM a b + 70) a b).map .int)), z9, z10, z11, z12, z13, z14, z15, z16, z17, z18, z19, z20]) ?_ ?_
  · --SEG f
        rintro F1 O1 ρ1 e1 ⟨r, p, a, b, n, x, z10, z11, z12, z13, z14, z15, z16, z17, z18, z19, z20, hs5, rfl, rfl⟩
        obtain ⟨hw, fr, n0, n1, x0, x1⟩ := id hs5
        obtain ⟨i, rfl⟩ := Int.eq_ofNat_of_zero_le x0
        obtain ⟨m, rfl⟩ := Int.eq_ofNat_of_zero_le n0
        refine wp_for (pg_name (i := 10) sc_law.nd rfl (by first | exact Or.inl rfl | exact Or.inr rfl) (by first | exact .inl rfl | exact .inr rfl)) (tgd_name (i := 10) (vs := [10]) (by simp)) (fun k => (fun F1 O1 ρ1 => ∃ (r : _) (p : _) (a : _) (b : _) (n : Int) (x : Int) (z10 : Option D) (z11 : Option D) (z12 : Option D) (z13 : Option D) (z14 : Option D) (z15 : Option D) (z16 : Option D) (z17 : Option D) (z18 : Option D) (z19 : Option D) (z20 : Option D), (RowOk r ∧ FrOk 99 a b ∧ 0 ≤ n ∧ n < 65 ∧ 0 ≤ x ∧ x < (lenM a b : Int)) ∧ (p, .lst r) :: O = O1 ∧ ρ1 = [some (.frl (ns.map .int)), some (.raw (.ref p)), some (.int a), some (.int b), some (.lst ((stM a b (lenM a b)).map .int)), some (.int (aheadM a b : Int)), some (.int (ordM b : Int)), some (.int n), some (.lst ((bitsM (lenM a b + 70) a b).map .int)), some (.int x), z10, z11, z12, z13, z14, z15, z16, z17, z18, z19, z20])) ?_ owns_cx rfl
        refine srp_any ?_
        walk_at "gor @_law_script,_law_row,_law_top,_law_low,_law_line,_law_begin,_law_size,_law_many,_law_told,_law_at_here,_law_some,_law_places,_law_tops,_law_windows,_law_bits_wrong,_law_index,_law_kind,_law_bad_here,_law_place,_law_k,_law_one;_law_fraction,_law_states,_law_taken,_law_odd_bits,_law_refused,_law_at,first_place,places_with,window_count,_law_bad,tops_with,_law_bits,kth_top;len;tuple,set;;;law;2:_law_top:3:_law_low,4:_law_line:5:_law_begin,6:_law_size:7:_law_many,14:_law_bits_wrong:15:_law_index;;;;"
        refine evp_lcp rfl sc_law.nd (blkOk_by (own := [("_law_k", 19)]) (by rfl)) (fun _ _ _ _ _ => pg_name (i := 19) sc_law.nd rfl (by first | exact Or.inl rfl | exact Or.inr rfl) (by first | exact .inl rfl | exact .inr rfl)) (lcp_I (tgd_name (i := 19) (by simp)) ?_)
        walk_at "gor @_law_script,_law_row,_law_top,_law_low,_law_line,_law_begin,_law_size,_law_many,_law_told,_law_at_here,_law_some,_law_places,_law_tops,_law_windows,_law_bits_wrong,_law_index,_law_kind,_law_bad_here,_law_place,_law_k,_law_one;_law_fraction,_law_states,_law_taken,_law_odd_bits,_law_refused,_law_at,first_place,places_with,window_count,_law_bad,tops_with,_law_bits,kth_top;len;tuple,set;;;law;2:_law_top:3:_law_low,4:_law_line:5:_law_begin,6:_law_size:7:_law_many,14:_law_bits_wrong:15:_law_index;;;;"
        refine ⟨_, rfl, ⟨by omega, by omega⟩, by rw [rngD_length]; unfold sizeLine; omega, fun k O3 acc => ∃ (r : List D) (bs : List Int), RowOk r ∧ (p, .lst r) :: O = O3 ∧ acc = bs.map .int ∧ (∀ b ∈ bs, b = 0 ∨ b = 1), ⟨r, [], hw, rfl, rfl, by simp⟩, ?_, ?_⟩
        · rintro k d F2 O3 acc Dl e2 hk ⟨r, bs, hw, rfl, rfl, hb⟩ hl
          refine ⟨_, rfl, ?_⟩
          walk_at "gor @_law_script,_law_row,_law_top,_law_low,_law_line,_law_begin,_law_size,_law_many,_law_told,_law_at_here,_law_some,_law_places,_law_tops,_law_windows,_law_bits_wrong,_law_index,_law_kind,_law_bad_here,_law_place,_law_k,_law_one;_law_fraction,_law_states,_law_taken,_law_odd_bits,_law_refused,_law_at,first_place,places_with,window_count,_law_bad,tops_with,_law_bits,kth_top;len;tuple,set;;;law;2:_law_top:3:_law_low,4:_law_line:5:_law_begin,6:_law_size:7:_law_many,14:_law_bits_wrong:15:_law_index;;;;"
          rename_i w r3 _ _ hr3 _ _
          refine ⟨_, rfl, r3, bs ++ [w], hr3, rfl, by simp, ?_⟩
          intro b hb2
          rcases List.mem_append.1 hb2 with q | q
          · exact hb b q
          · rw [List.mem_singleton.1 q]
            omega
        rintro F2 O3 acc e2 ⟨r2, bs2, hw2, rfl, rfl, hb2⟩ hl
        rw [rngD_length, List.length_map] at hl
        walk_at "gor @_law_script,_law_row,_law_top,_law_low,_law_line,_law_begin,_law_size,_law_many,_law_told,_law_at_here,_law_some,_law_places,_law_tops,_law_windows,_law_bits_wrong,_law_index,_law_kind,_law_bad_here,_law_place,_law_k,_law_one;_law_fraction,_law_states,_law_taken,_law_odd_bits,_law_refused,_law_at,first_place,places_with,window_count,_law_bad,tops_with,_law_bits,kth_top;len;tuple,set;;;law;2:_law_top:3:_law_low,4:_law_line:5:_law_begin,6:_law_size:7:_law_many,14:_law_bits_wrong:15:_law_index;;;;"
        rw [win_cutX (by omega)]
        refine ⟨?_, ?_, ?_⟩
        · refine ⟨_, _, _, _, _, _, _, _, _, _, _, _, _, _, _, _, _, ?_, rfl, rfl⟩
          exact ⟨hw2, fr, by omega, by omega, by omega, x1⟩
        rotate_left 1
        · rintro F2 O2 ρ2 e2 ⟨r, p, a, b, n, x, z10, z11, z12, z13, z14, z15, z16, z17, z18, z19, z20, hs5, rfl, rfl⟩
          refine ⟨_, _, _, _, _, _, _, _, _, _, _, _, _, _, _, _, _, ?_, rfl, rfl⟩
          exact ⟨hs5.1, hs5.2.1, hs5.2.2.1, hs5.2.2.2.1⟩
        have two : ∀ (k : Nat) (d : D), [D.tup ((bitsM m (topM i a b) b).map .int), .tup (bs2.map .int)][k]? = some d → ∃ bs : List Int, Bits bs ∧ d = .tup (bs.map .int) := fun k d h => by
          match k, h with
          | 0, h => exact ⟨_, bits_bitsM _ _ _ (by omega), (Option.some.inj h).symm⟩
          | 1, h => exact ⟨bs2, ⟨hb2, by omega⟩, (Option.some.inj h).symm⟩
        rintro k d F2 O2 ρ2 e2 hd ⟨r, p, a, b, n, x, z10, z11, z12, z13, z14, z15, z16, z17, z18, z19, z20, hs5, rfl, rfl⟩ F3 e3
        obtain ⟨bs, hB, rfl⟩ := two k d hd
        clear two hd hw fr n0 n1 x0 x1 hw2 hb2 hl
        refine ⟨_, rfl, ?_⟩
        refine wps_start (fun F1 O1 ρ1 => ∃ (r : _) (p : _) (a : _) (b : _) (n : Int) (x : Int) (bs : List Int) (z11 : Option D) (z12 : Option D) (z13 : Option D) (z14 : Option D) (z15 : Option D) (z16 : Option D) (z17 : Option D) (z18 : Option D) (z19 : Option D) (z20 : Option D), (RowOk r ∧ FrOk 99 a b ∧ 0 ≤ n ∧ n < 65 ∧ 0 ≤ x ∧ x < (lenM a b : Int) ∧ Bits bs) ∧ (p, .lst r) :: O = O1 ∧ ρ1 = [some (.frl (ns.map .int)), some (.raw (.ref p)), some (.int a), some (.int b), some (.lst ((stM a b (lenM a b)).map .int)), some (.int (aheadM a b : Int)), some (.int (ordM b : Int)), some (.int n), some (.lst ((bitsM (lenM a b + 70) a b).map .int)), some (.int x), some (.tup (bs.map .int)), z11, z12, z13, z14, z15, z16, z17, z18, z19, z20]) ⟨_, _, _, _, _, _, _, _, _, _, _, _, _, _, _, _, _, ?_, rfl, rfl⟩ ?_
        · exact ⟨hs5.1, hs5.2.1, hs5.2.2.1, hs5.2.2.2.1, hs5.2.2.2.2.1, hs5.2.2.2.2.2, hB⟩
        clear hs5 hB
        refine wps_seqC (fun F1 O1 ρ1 => ∃ (r : _) (p : _) (a : _) (b : _) (n : Int) (x : Int) (bs : List Int) (z12 : Option D) (z13 : Option D) (z14 : Option D) (z15 : Option D) (z16 : Option D) (z17 : Option D) (z18 : Option D) (z19 : Option D) (z20 : Option D), (RowOk r ∧ FrOk 99 a b ∧ 0 ≤ n ∧ n < 65 ∧ 0 ≤ x ∧ x < (lenM a b : Int) ∧ Bits bs) ∧ (p, .lst r) :: O = O1 ∧ ρ1 = [some (.frl (ns.map .int)), some (.raw (.ref p)), some (.int a), some (.int b), some (.lst ((stM a b (lenM a b)).map .int)), some (.int (aheadM a b : Int)), some (.int (ordM b : Int)), some (.int n), some (.lst ((bitsM (lenM a b + 70) a b).map .int)), some (.int x), some (.tup (bs.map .int)), some (.lst (((plcsM a b bs).map fun i : Nat => (i : Int)).map .int)), z12, z13, z14, z15, z16, z17, z18, z19, z20]) ?_ ?_
        · --SEG f1
          rintro F1 O1 ρ1 e1 ⟨r, p, a, b, n, x, bs, z11, z12, z13, z14, z15, z16, z17, z18, z19, z20, hsb, rfl, rfl⟩
          obtain ⟨hw, fr, n0, n1, x0, x1, hB⟩ := id hsb
          have q1 := fr.row.len
          have b2 := fr.b2
          have h64 := hB.2
          refine wp_lcp (i := 11) (x := "_law_places") rfl sc_law.nd (blkOk_by (own := [("_law_place", 18)]) (by rfl)) (fun _ _ _ _ _ => pg_name (i := 18) sc_law.nd rfl (by first | exact Or.inl rfl | exact Or.inr rfl) (by first | exact .inl rfl | exact .inr rfl)) (lcp_F id (onInt fun i => decide (bitsM bs.length (topM i a b) b = bs)) (tgd_name (i := 18) (by simp)) ?_)
          walk_at "gor @_law_script,_law_row,_law_top,_law_low,_law_line,_law_begin,_law_size,_law_many,_law_told,_law_at_here,_law_some,_law_places,_law_tops,_law_windows,_law_bits_wrong,_law_index,_law_kind,_law_bad_here,_law_place,_law_k,_law_one;_law_fraction,_law_states,_law_taken,_law_odd_bits,_law_refused,_law_at,first_place,places_with,window_count,_law_bad,tops_with,_law_bits,kth_top;len;tuple,set;;;law;2:_law_top:3:_law_low,4:_law_line:5:_law_begin,6:_law_size:7:_law_many,14:_law_bits_wrong:15:_law_index;;;;"
          rw [List.length_map, stM_length]
          refine ⟨_, rfl, by omega, by rw [rngD_length, sizeLine_eq]; omega, fun k3 d F7 acc Dl e7 hd => ?_, fun F7 e7 => ?_⟩
          · obtain ⟨hk3, rfl⟩ := rngD_of hd
            rw [Int.zero_add]
            refine ⟨_, rfl, ?_⟩
            walk_at "gor @_law_script,_law_row,_law_top,_law_low,_law_line,_law_begin,_law_size,_law_many,_law_told,_law_at_here,_law_some,_law_places,_law_tops,_law_windows,_law_bits_wrong,_law_index,_law_kind,_law_bad_here,_law_place,_law_k,_law_one;_law_fraction,_law_states,_law_taken,_law_odd_bits,_law_refused,_law_at,first_place,places_with,window_count,_law_bad,tops_with,_law_bits,kth_top;len;tuple,set;;;law;2:_law_top:3:_law_low,4:_law_line:5:_law_begin,6:_law_size:7:_law_many,14:_law_bits_wrong:15:_law_index;;;;"
            rw [List.length_map, win_cutX (by omega)]
            refine opd_eqTs hr ?_
            walk_at "gor @_law_script,_law_row,_law_top,_law_low,_law_line,_law_begin,_law_size,_law_many,_law_told,_law_at_here,_law_some,_law_places,_law_tops,_law_windows,_law_bits_wrong,_law_index,_law_kind,_law_bad_here,_law_place,_law_k,_law_one;_law_fraction,_law_states,_law_taken,_law_odd_bits,_law_refused,_law_at,first_place,places_with,window_count,_law_bad,tops_with,_law_bits,kth_top;len;tuple,set;;;law;2:_law_top:3:_law_low,4:_law_line:5:_law_begin,6:_law_size:7:_law_many,14:_law_bits_wrong:15:_law_index;;;;"
            refine ⟨rfl, rfl, fun _ => ?_⟩
            walk_at "gor @_law_script,_law_row,_law_top,_law_low,_law_line,_law_begin,_law_size,_law_many,_law_told,_law_at_here,_law_some,_law_places,_law_tops,_law_windows,_law_bits_wrong,_law_index,_law_kind,_law_bad_here,_law_place,_law_k,_law_one;_law_fraction,_law_states,_law_taken,_law_odd_bits,_law_refused,_law_at,first_place,places_with,window_count,_law_bad,tops_with,_law_bits,kth_top;len;tuple,set;;;law;2:_law_top:3:_law_low,4:_law_line:5:_law_begin,6:_law_size:7:_law_many,14:_law_bits_wrong:15:_law_index;;;;"
            exact ⟨rfl, rfl⟩
          · rw [Int.toNat_natCast, rng_filter]
            refine ⟨_, _, _, _, _, _, _, _, _, _, _, _, _, _, _, _, ?_, rfl, rfl⟩
            exact hsb
        refine wps_seqC (fun F1 O1 ρ1 => ∃ (r : _) (p : _) (a : _) (b : _) (n : Int) (x : Int) (bs : List Int) (z12 : Option D) (z13 : Option D) (z14 : Option D) (z15 : Option D) (z16 : Option D) (z17 : Option D) (z18 : Option D) (z19 : Option D) (z20 : Option D), (RowOk r ∧ FrOk 99 a b ∧ 0 ≤ n ∧ n < 65 ∧ 0 ≤ x ∧ x < (lenM a b : Int) ∧ Bits bs) ∧ (p, .lst r) :: O = O1 ∧ ρ1 = [some (.frl (ns.map .int)), some (.raw (.ref p)), some (.int a), some (.int b), some (.lst ((stM a b (lenM a b)).map .int)), some (.int (aheadM a b : Int)), some (.int (ordM b : Int)), some (.int n), some (.lst ((bitsM (lenM a b + 70) a b).map .int)), some (.int x), some (.tup (bs.map .int)), some (.lst (((plcsM a b bs).map fun i : Nat => (i : Int)).map .int)), z12, z13, z14, z15, z16, z17, z18, z19, z20]) ?_ ?_
        · --SEG f2
          rintro F1 O1 ρ1 e1 ⟨r, p, a, b, n, x, bs, z12, z13, z14, z15, z16, z17, z18, z19, z20, hsc, rfl, rfl⟩
          obtain ⟨hw, fr, n0, n1, x0, x1, hB⟩ := id hsc
          have b2 := fr.b2
          have hf := fr.fr (by decide)
          have b4 : b ≤ 10000 := by omega
          have eh := frst_head a b bs
          have c1 : (((plcsM a b bs).map fun i : Nat => (i : Int)).map D.int).isEmpty = false → ∃ i rest, plcsM a b bs = i :: rest := fun q => by
            cases h : plcsM a b bs with
            | nil => rw [h] at q; cases q
            | cons i rest => exact ⟨i, rest, rfl⟩
          have c2 : (((plcsM a b bs).map fun i : Nat => (i : Int)).map D.int).isEmpty = true → plcsM a b bs = [] := fun q => by
            cases h : plcsM a b bs with
            | nil => rfl
            | cons i rest => rw [h] at q; cases q
          walk_at "gor hf,b4,hB@_law_script,_law_row,_law_top,_law_low,_law_line,_law_begin,_law_size,_law_many,_law_told,_law_at_here,_law_some,_law_places,_law_tops,_law_windows,_law_bits_wrong,_law_index,_law_kind,_law_bad_here,_law_place,_law_k,_law_one;_law_fraction,_law_states,_law_taken,_law_odd_bits,_law_refused,_law_at,first_place,places_with,window_count,_law_bad,tops_with,_law_bits,kth_top;len;tuple,set;;;law;2:_law_top:3:_law_low,4:_law_line:5:_law_begin,6:_law_size:7:_law_many,14:_law_bits_wrong:15:_law_index;;;;"
          · obtain ⟨i, rest, hp⟩ := c1 (by assumption)
            refine ixd_lst (d := .int (i : Int)) (L2.atI_nat (j := 0) (by rw [hp]; rfl)) ?_
            rw [eh, hp]
            refine opd_neR hr (x := .int (i : Int)) rfl ?_
            walk_at "gor @_law_script,_law_row,_law_top,_law_low,_law_line,_law_begin,_law_size,_law_many,_law_told,_law_at_here,_law_some,_law_places,_law_tops,_law_windows,_law_bits_wrong,_law_index,_law_kind,_law_bad_here,_law_place,_law_k,_law_one;_law_fraction,_law_states,_law_taken,_law_odd_bits,_law_refused,_law_at,first_place,places_with,window_count,_law_bad,tops_with,_law_bits,kth_top;len;tuple,set;;;law;2:_law_top:3:_law_low,4:_law_line:5:_law_begin,6:_law_size:7:_law_many,14:_law_bits_wrong:15:_law_index;;;;"
            rw [← hp]
            refine ⟨_, _, _, _, _, _, _, _, _, _, _, _, _, _, _, _, ?_, rfl, rfl⟩
            exact hsc
          · have hp := c2 (by assumption)
            rw [show optD (frstM a b bs) = .non by rw [eh, hp]; rfl]
            refine opd_neR hr (x := .non) rfl ?_
            walk_at "gor @_law_script,_law_row,_law_top,_law_low,_law_line,_law_begin,_law_size,_law_many,_law_told,_law_at_here,_law_some,_law_places,_law_tops,_law_windows,_law_bits_wrong,_law_index,_law_kind,_law_bad_here,_law_place,_law_k,_law_one;_law_fraction,_law_states,_law_taken,_law_odd_bits,_law_refused,_law_at,first_place,places_with,window_count,_law_bad,tops_with,_law_bits,kth_top;len;tuple,set;;;law;2:_law_top:3:_law_low,4:_law_line:5:_law_begin,6:_law_size:7:_law_many,14:_law_bits_wrong:15:_law_index;;;;"
            refine ⟨_, _, _, _, _, _, _, _, _, _, _, _, _, _, _, _, ?_, rfl, rfl⟩
            exact hsc
        refine wps_seqC (fun F1 O1 ρ1 => ∃ (r : _) (p : _) (a : _) (b : _) (n : Int) (x : Int) (bs : List Int) (z11 : Option D) (z12 : Option D) (z13 : Option D) (z14 : Option D) (z15 : Option D) (z16 : Option D) (z17 : Option D) (z18 : Option D) (z19 : Option D) (z20 : Option D), (RowOk r ∧ FrOk 99 a b ∧ 0 ≤ n ∧ n < 65 ∧ 0 ≤ x ∧ x < (lenM a b : Int) ∧ Bits bs) ∧ (p, .lst r) :: O = O1 ∧ ρ1 = [some (.frl (ns.map .int)), some (.raw (.ref p)), some (.int a), some (.int b), some (.lst ((stM a b (lenM a b)).map .int)), some (.int (aheadM a b : Int)), some (.int (ordM b : Int)), some (.int n), some (.lst ((bitsM (lenM a b + 70) a b).map .int)), some (.int x), some (.tup (bs.map .int)), z11, z12, z13, z14, z15, z16, z17, z18, z19, z20]) ?_ ?_
        · --SEG f3
          rintro F1 O1 ρ1 e1 ⟨r, p, a, b, n, x, bs, z12, z13, z14, z15, z16, z17, z18, z19, z20, hsc, rfl, rfl⟩
          obtain ⟨hw, fr, n0, n1, x0, x1, hB⟩ := id hsc
          have q1 := fr.row.len
          have b2 := fr.b2
          have hf := fr.fr (by decide)
          have b4 : b ≤ 10000 := by omega
          have b5 : b ≤ 1000 := by omega
          have pl : (plcsM a b bs).length ≤ 3000 := Nat.le_trans (List.length_filter_le _ _) (by rw [List.length_range]; omega)
          walk_at "gor hf,b4,b5,hB@_law_script,_law_row,_law_top,_law_low,_law_line,_law_begin,_law_size,_law_many,_law_told,_law_at_here,_law_some,_law_places,_law_tops,_law_windows,_law_bits_wrong,_law_index,_law_kind,_law_bad_here,_law_place,_law_k,_law_one;_law_fraction,_law_states,_law_taken,_law_odd_bits,_law_refused,_law_at,first_place,places_with,window_count,_law_bad,tops_with,_law_bits,kth_top;len;tuple,set;;;law;2:_law_top:3:_law_low,4:_law_line:5:_law_begin,6:_law_size:7:_law_many,14:_law_bits_wrong:15:_law_index;;;;"
          refine evp_lcp rfl sc_law.nd (blkOk_by (own := [("_law_place", 18)]) (by rfl)) (fun _ _ _ _ _ => pg_name (i := 18) sc_law.nd rfl (by first | exact Or.inl rfl | exact Or.inr rfl) (by first | exact .inl rfl | exact .inr rfl)) (lcp_F id (fun d => decide ((aheadM a b : Int) ≤ intD d)) (tgd_name (i := 18) (by simp)) ?_)
          refine srp_any ?_
          walk_at "gor @_law_script,_law_row,_law_top,_law_low,_law_line,_law_begin,_law_size,_law_many,_law_told,_law_at_here,_law_some,_law_places,_law_tops,_law_windows,_law_bits_wrong,_law_index,_law_kind,_law_bad_here,_law_place,_law_k,_law_one;_law_fraction,_law_states,_law_taken,_law_odd_bits,_law_refused,_law_at,first_place,places_with,window_count,_law_bad,tops_with,_law_bits,kth_top;len;tuple,set;;;law;2:_law_top:3:_law_low,4:_law_line:5:_law_begin,6:_law_size:7:_law_many,14:_law_bits_wrong:15:_law_index;;;;"
          refine ⟨by rw [List.length_map, List.length_map, sizeLine_eq]; omega, fun k3 d F7 acc Dl e7 hd => ?_, fun F7 e7 => ?_⟩
          · obtain ⟨y, hy, rfl⟩ := dint_at hd
            refine ⟨_, rfl, ?_⟩
            walk_at "gor @_law_script,_law_row,_law_top,_law_low,_law_line,_law_begin,_law_size,_law_many,_law_told,_law_at_here,_law_some,_law_places,_law_tops,_law_windows,_law_bits_wrong,_law_index,_law_kind,_law_bad_here,_law_place,_law_k,_law_one;_law_fraction,_law_states,_law_taken,_law_odd_bits,_law_refused,_law_at,first_place,places_with,window_count,_law_bad,tops_with,_law_bits,kth_top;len;tuple,set;;;law;2:_law_top:3:_law_low,4:_law_line:5:_law_begin,6:_law_size:7:_law_many,14:_law_bits_wrong:15:_law_index;;;;"
            refine ⟨rfl, rfl, fun _ => ?_⟩
            walk_at "gor @_law_script,_law_row,_law_top,_law_low,_law_line,_law_begin,_law_size,_law_many,_law_told,_law_at_here,_law_some,_law_places,_law_tops,_law_windows,_law_bits_wrong,_law_index,_law_kind,_law_bad_here,_law_place,_law_k,_law_one;_law_fraction,_law_states,_law_taken,_law_odd_bits,_law_refused,_law_at,first_place,places_with,window_count,_law_bad,tops_with,_law_bits,kth_top;len;tuple,set;;;law;2:_law_top:3:_law_low,4:_law_line:5:_law_begin,6:_law_size:7:_law_many,14:_law_bits_wrong:15:_law_index;;;;"
            exact ⟨rfl, rfl⟩
          · have ln : (((((plcsM a b bs).map fun i : Nat => (i : Int)).map D.int).filter fun d => decide ((aheadM a b : Int) ≤ intD d)).map id).length = plcM a b bs := by
              rw [List.length_map, List.filter_map, List.length_map, List.filter_map, List.length_map, ← plcs_count]
              refine congrArg List.length (List.filter_congr fun i _ => ?_)
              show decide ((aheadM a b : Int) ≤ (i : Int)) = _
              simp
            walk_at "gor @_law_script,_law_row,_law_top,_law_low,_law_line,_law_begin,_law_size,_law_many,_law_told,_law_at_here,_law_some,_law_places,_law_tops,_law_windows,_law_bits_wrong,_law_index,_law_kind,_law_bad_here,_law_place,_law_k,_law_one;_law_fraction,_law_states,_law_taken,_law_odd_bits,_law_refused,_law_at,first_place,places_with,window_count,_law_bad,tops_with,_law_bits,kth_top;len;tuple,set;;;law;2:_law_top:3:_law_low,4:_law_line:5:_law_begin,6:_law_size:7:_law_many,14:_law_bits_wrong:15:_law_index;;;;"
            all_goals first
              | (exfalso; rw [ln] at *; omega)
              | (refine ⟨_, _, _, _, _, _, _, _, _, _, _, _, _, _, _, _, _, ?_, rfl, rfl⟩
                 exact hsc)
              | skip
        refine wps_seqC (fun F1 O1 ρ1 => ∃ (r : _) (p : _) (a : _) (b : _) (n : Int) (x : Int) (bs : List Int) (z11 : Option D) (z13 : Option D) (z14 : Option D) (z15 : Option D) (z16 : Option D) (z17 : Option D) (z18 : Option D) (z19 : Option D) (z20 : Option D), (RowOk r ∧ FrOk 99 a b ∧ 0 ≤ n ∧ n < 65 ∧ 0 ≤ x ∧ x < (lenM a b : Int) ∧ Bits bs) ∧ (p, .lst r) :: O = O1 ∧ ρ1 = [some (.frl (ns.map .int)), some (.raw (.ref p)), some (.int a), some (.int b), some (.lst ((stM a b (lenM a b)).map .int)), some (.int (aheadM a b : Int)), some (.int (ordM b : Int)), some (.int n), some (.lst ((bitsM (lenM a b + 70) a b).map .int)), some (.int x), some (.tup (bs.map .int)), z11, some (.lst ((topsL b bs).map .int)), z13, z14, z15, z16, z17, z18, z19, z20]) ?_ ?_
        · --SEG f4
          rintro F1 O1 ρ1 e1 ⟨r, p, a, b, n, x, bs, z11, z12, z13, z14, z15, z16, z17, z18, z19, z20, hsb, rfl, rfl⟩
          obtain ⟨hw, fr, n0, n1, x0, x1, hB⟩ := id hsb
          have b1 := fr.b1
          have b2 := fr.b2
          have h64 := hB.2
          refine wp_lcp (i := 12) (x := "_law_tops") rfl sc_law.nd (blkOk_by (own := [("_law_one", 20)]) (by rfl)) (fun _ _ _ _ _ => pg_name (i := 20) sc_law.nd rfl (by first | exact Or.inl rfl | exact Or.inr rfl) (by first | exact .inl rfl | exact .inr rfl)) (lcp_F id (fun d => (fun t : Int => decide (bitsM bs.length t b = bs)) (intD d)) (tgd_name (i := 20) (by simp)) ?_)
          walk_at "gor @_law_script,_law_row,_law_top,_law_low,_law_line,_law_begin,_law_size,_law_many,_law_told,_law_at_here,_law_some,_law_places,_law_tops,_law_windows,_law_bits_wrong,_law_index,_law_kind,_law_bad_here,_law_place,_law_k,_law_one;_law_fraction,_law_states,_law_taken,_law_odd_bits,_law_refused,_law_at,first_place,places_with,window_count,_law_bad,tops_with,_law_bits,kth_top;len;tuple,set;;;law;2:_law_top:3:_law_low,4:_law_line:5:_law_begin,6:_law_size:7:_law_many,14:_law_bits_wrong:15:_law_index;;;;"
          refine ⟨-b, 1, rfl, rfl, by omega, by rw [rngD_length, sizeLine_eq]; omega, fun k3 d F7 acc Dl e7 hd => ?_, fun F7 e7 => ?_⟩
          · obtain ⟨hk3, rfl⟩ := rngD_of hd
            have A : b.natAbs < 2 ^ 8000 ∧ -(2 ^ 62) ≤ ((bs.map D.int).length : Int) ∧ ((bs.map D.int).length : Int) ≤ 1000000 := ⟨Nat.lt_trans (m := 2 ^ 20) (by omega) (Nat.pow_lt_pow_right (by decide) (by decide)), by rw [List.length_map]; omega, by rw [List.length_map]; omega⟩
            refine ⟨_, rfl, ?_⟩
            walk_at "gor A@_law_script,_law_row,_law_top,_law_low,_law_line,_law_begin,_law_size,_law_many,_law_told,_law_at_here,_law_some,_law_places,_law_tops,_law_windows,_law_bits_wrong,_law_index,_law_kind,_law_bad_here,_law_place,_law_k,_law_one;_law_fraction,_law_states,_law_taken,_law_odd_bits,_law_refused,_law_at,first_place,places_with,window_count,_law_bad,tops_with,_law_bits,kth_top;len;tuple,set;;;law;2:_law_top:3:_law_low,4:_law_line:5:_law_begin,6:_law_size:7:_law_many,14:_law_bits_wrong:15:_law_index;;;;"
            rw [List.length_map, Int.toNat_natCast]
            refine ⟨rfl, rfl, fun _ => ?_⟩
            walk_at "gor @_law_script,_law_row,_law_top,_law_low,_law_line,_law_begin,_law_size,_law_many,_law_told,_law_at_here,_law_some,_law_places,_law_tops,_law_windows,_law_bits_wrong,_law_index,_law_kind,_law_bad_here,_law_place,_law_k,_law_one;_law_fraction,_law_states,_law_taken,_law_odd_bits,_law_refused,_law_at,first_place,places_with,window_count,_law_bad,tops_with,_law_bits,kth_top;len;tuple,set;;;law;2:_law_top:3:_law_low,4:_law_line:5:_law_begin,6:_law_size:7:_law_many,14:_law_bits_wrong:15:_law_index;;;;"
            exact ⟨rfl, rfl⟩
          · rw [rng_filt (-b) (1 - -b).toNat fun t : Int => decide (bitsM bs.length t b = bs)]
            refine ⟨_, _, _, _, _, _, _, _, _, _, _, _, _, _, _, _, ?_, rfl, rfl⟩
            exact hsb
        refine wps_lastC ?_
        · --SEG f5
          rintro F1 O1 ρ1 e1 ⟨r, p, a, b, n, x, bs, z11, z13, z14, z15, z16, z17, z18, z19, z20, hsd, rfl, rfl⟩
          obtain ⟨hw, fr, n0, n1, x0, x1, hB⟩ := id hsd
          have b1 := fr.b1
          have b2 := fr.b2
          have b3 := fr.b3
          have h64 := hB.2
          have T := tops_list b1 b3 hB.1
          have tb := tops_bd (l := b) (by omega) bs
          have tl : ((topsL b bs).length : Int) = topsM b bs := by
            rw [T, List.length_map, List.length_range]
            omega
          have A : 1 ≤ b ∧ b ≤ mst ∧ b % 2 = 1 := ⟨b1, by simp only [mst]; omega, b3⟩
          walk_at "gor A,hB@_law_script,_law_row,_law_top,_law_low,_law_line,_law_begin,_law_size,_law_many,_law_told,_law_at_here,_law_some,_law_places,_law_tops,_law_windows,_law_bits_wrong,_law_index,_law_kind,_law_bad_here,_law_place,_law_k,_law_one;_law_fraction,_law_states,_law_taken,_law_odd_bits,_law_refused,_law_at,first_place,places_with,window_count,_law_bad,tops_with,_law_bits,kth_top;len;tuple,set;;;law;2:_law_top:3:_law_low,4:_law_line:5:_law_begin,6:_law_size:7:_law_many,14:_law_bits_wrong:15:_law_index;;;;"
          · exfalso
            rw [List.length_map] at *
            omega
          refine evp_lcp rfl sc_law.nd (blkOk_by (own := [("_law_k", 19)]) (by rfl)) (fun _ _ _ _ _ => pg_name (i := 19) sc_law.nd rfl (by first | exact Or.inl rfl | exact Or.inr rfl) (by first | exact .inl rfl | exact .inr rfl)) (lcp_M (onIntD fun k => .int (kthM b bs (k : Int))) (tgd_name (i := 19) (by simp)) ?_)
          walk_at "gor @_law_script,_law_row,_law_top,_law_low,_law_line,_law_begin,_law_size,_law_many,_law_told,_law_at_here,_law_some,_law_places,_law_tops,_law_windows,_law_bits_wrong,_law_index,_law_kind,_law_bad_here,_law_place,_law_k,_law_one;_law_fraction,_law_states,_law_taken,_law_odd_bits,_law_refused,_law_at,first_place,places_with,window_count,_law_bad,tops_with,_law_bits,kth_top;len;tuple,set;;;law;2:_law_top:3:_law_low,4:_law_line:5:_law_begin,6:_law_size:7:_law_many,14:_law_bits_wrong:15:_law_index;;;;"
          rw [List.length_map]
          refine ⟨_, rfl, by omega, by rw [rngD_length, sizeLine_eq]; omega, fun k3 d F7 acc Dl e7 hd => ?_, fun F7 e7 => ?_⟩
          · obtain ⟨hk3, rfl⟩ := rngD_of hd
            rw [Int.zero_add] at *
            have C : 0 ≤ (k3 : Int) ∧ (k3 : Int) < topsM b bs := by omega
            refine ⟨_, rfl, ?_⟩
            walk_at "gor A,hB,C@_law_script,_law_row,_law_top,_law_low,_law_line,_law_begin,_law_size,_law_many,_law_told,_law_at_here,_law_some,_law_places,_law_tops,_law_windows,_law_bits_wrong,_law_index,_law_kind,_law_bad_here,_law_place,_law_k,_law_one;_law_fraction,_law_states,_law_taken,_law_odd_bits,_law_refused,_law_at,first_place,places_with,window_count,_law_bad,tops_with,_law_bits,kth_top;len;tuple,set;;;law;2:_law_top:3:_law_low,4:_law_line:5:_law_begin,6:_law_size:7:_law_many,14:_law_bits_wrong:15:_law_index;;;;"
            exact ⟨rfl, rfl⟩
          · rw [rng_mapD, Int.toNat_natCast, show ((List.range (topsL b bs).length).map fun k : Nat => D.int (kthM b bs (k : Int))) = (topsL b bs).map .int by
              rw [show (topsL b bs).length = (topsM b bs).toNat by omega]
              rw [T, List.map_map]
              rfl]
            walk_at "gor @_law_script,_law_row,_law_top,_law_low,_law_line,_law_begin,_law_size,_law_many,_law_told,_law_at_here,_law_some,_law_places,_law_tops,_law_windows,_law_bits_wrong,_law_index,_law_kind,_law_bad_here,_law_place,_law_k,_law_one;_law_fraction,_law_states,_law_taken,_law_odd_bits,_law_refused,_law_at,first_place,places_with,window_count,_law_bad,tops_with,_law_bits,kth_top;len;tuple,set;;;law;2:_law_top:3:_law_low,4:_law_line:5:_law_begin,6:_law_size:7:_law_many,14:_law_bits_wrong:15:_law_index;;;;"
            all_goals first
              | (exfalso; rename_i q; exact q rfl)
              | (refine ⟨_, _, _, _, _, _, _, _, _, _, _, _, _, _, _, _, _, ?_, rfl, rfl⟩
                 exact ⟨hw, fr, n0, n1, x0, x1⟩)
              | skip
  refine wps_seqC (fun F1 O1 ρ1 => ∃ (r : _) (p : _) (a : _) (b : _) (n : Int) (z9 : Option D) (z10 : Option D) (z11 : Option D) (z12 : Option D) (z14 : Option D) (z15 : Option D) (z16 : Option D) (z17 : Option D) (z18 : Option D) (z19 : Option D) (z20 : Option D), (RowOk r ∧ FrOk 99 a b ∧ 0 ≤ n ∧ n < 65) ∧ (p, .lst r) :: O = O1 ∧ ρ1 = [some (.frl (ns.map .int)), some (.raw (.ref p)), some (.int a), some (.int b), some (.lst ((stM a b (lenM a b)).map .int)), some (.int (aheadM a b : Int)), some (.int (ordM b : Int)), some (.int n), some (.lst ((bitsM (lenM a b + 70) a b).map .int)), z9, z10, z11, z12, some (.lst (((List.range (ordM b)).map fun i => winM a b n.toNat i).map tupI)), z14, z15, z16, z17, z18, z19, z20]) ?_ ?_
  · --SEG g
    rintro F1 O1 ρ1 e1 ⟨r, p, a, b, n, z9, z10, z11, z12, z13, z14, z15, z16, z17, z18, z19, z20, hs4, rfl, rfl⟩
    obtain ⟨hw, fr, n0, n1⟩ := id hs4
    have R := fr.row
    have q1 := R.len
    have b1 := fr.b1
    have b2 := fr.b2
    have al := R.ahead.le
    have en : n = ((n.toNat : Nat) : Int) := by omega
    refine wp_lcp (i := 13) (x := "_law_windows") rfl sc_law.nd (blkOk_by (own := [("_law_place", 18)]) (by rfl)) (fun _ _ _ _ _ => pg_name (i := 18) sc_law.nd rfl (by first | exact Or.inl rfl | exact Or.inr rfl) (by first | exact .inl rfl | exact .inr rfl)) (lcp_M (fun d => tupI (bitsM n.toNat (topM (intD d).toNat a b) b)) (tgd_name (i := 18) (by simp)) ?_)
    walk_at "gor @_law_script,_law_row,_law_top,_law_low,_law_line,_law_begin,_law_size,_law_many,_law_told,_law_at_here,_law_some,_law_places,_law_tops,_law_windows,_law_bits_wrong,_law_index,_law_kind,_law_bad_here,_law_place,_law_k,_law_one;_law_fraction,_law_states,_law_taken,_law_odd_bits,_law_refused,_law_at,first_place,places_with,window_count,_law_bad,tops_with,_law_bits,kth_top;len;tuple,set;;;law;2:_law_top:3:_law_low,4:_law_line:5:_law_begin,6:_law_size:7:_law_many,14:_law_bits_wrong:15:_law_index;;;;"
    rw [List.length_map, stM_length]
    refine ⟨_, _, rfl, rfl, ⟨by omega, by omega, by omega, by omega⟩, by rw [rngD_length, sizeLine_eq]; omega, fun k3 d F7 acc Dl e7 hd => ?_, fun F7 e7 => ?_⟩
    · obtain ⟨hk3, rfl⟩ := rngD_of hd
      have ek : (aheadM a b : Int) + (k3 : Int) = ((aheadM a b + k3 : Nat) : Int) := by omega
      have hl : aheadM a b + k3 + n.toNat ≤ lenM a b + 70 := by unfold lenM at *; omega
      rw [ek]
      refine ⟨_, rfl, ?_⟩
      walk_at "gor @_law_script,_law_row,_law_top,_law_low,_law_line,_law_begin,_law_size,_law_many,_law_told,_law_at_here,_law_some,_law_places,_law_tops,_law_windows,_law_bits_wrong,_law_index,_law_kind,_law_bad_here,_law_place,_law_k,_law_one;_law_fraction,_law_states,_law_taken,_law_odd_bits,_law_refused,_law_at,first_place,places_with,window_count,_law_bad,tops_with,_law_bits,kth_top;len;tuple,set;;;law;2:_law_top:3:_law_low,4:_law_line:5:_law_begin,6:_law_size:7:_law_many,14:_law_bits_wrong:15:_law_index;;;;"
      have ew : cutX ((bitsM (lenM a b + 70) a b).map D.int) (some ((aheadM a b + k3 : Nat) : Int)) (some (((aheadM a b + k3 : Nat) : Int) + n)) = (bitsM n.toNat (topM (aheadM a b + k3) a b) b).map .int := by
        have := win_cutX (a := a) (b := b) hl
        rw [← en] at this
        exact this
      rw [ew]
      exact ⟨rfl, rfl⟩
    · have ew : ((rngD (aheadM a b : Int) ((lenM a b : Int) - (aheadM a b : Int)).toNat).map fun d => tupI (bitsM n.toNat (topM (intD d).toNat a b) b)) = ((List.range (ordM b)).map fun i => winM a b n.toNat i).map tupI := by
        rw [show ((lenM a b : Int) - (aheadM a b : Int)).toNat = ordM b by unfold lenM; omega]
        unfold rngD
        rw [List.map_map, List.map_map]
        refine List.map_congr_left fun i _ => ?_
        show tupI (bitsM n.toNat (topM ((aheadM a b : Int) + (i : Int)).toNat a b) b) = _
        rw [show ((aheadM a b : Int) + (i : Int)).toNat = aheadM a b + i by omega]
        rfl
      rw [ew]
      refine ⟨_, _, _, _, _, _, _, _, _, _, _, _, _, _, _, _, ?_, rfl, rfl⟩
      exact hs4
  refine wps_seqC (fun F1 O1 ρ1 => ∃ (r : _) (p : _) (a : _) (b : _) (n : Int) (z9 : Option D) (z10 : Option D) (z11 : Option D) (z12 : Option D) (z13 : Option D) (z14 : Option D) (z15 : Option D) (z16 : Option D) (z17 : Option D) (z18 : Option D) (z19 : Option D) (z20 : Option D), (RowOk r ∧ FrOk 99 a b ∧ 0 ≤ n ∧ n < 65) ∧ (p, .lst r) :: O = O1 ∧ ρ1 = [some (.frl (ns.map .int)), some (.raw (.ref p)), some (.int a), some (.int b), some (.lst ((stM a b (lenM a b)).map .int)), some (.int (aheadM a b : Int)), some (.int (ordM b : Int)), some (.int n), some (.lst ((bitsM (lenM a b + 70) a b).map .int)), z9, z10, z11, z12, z13, z14, z15, z16, z17, z18, z19, z20]) ?_ ?_
  · --SEG h
    rintro F1 O1 ρ1 e1 ⟨r, p, a, b, n, z9, z10, z11, z12, z14, z15, z16, z17, z18, z19, z20, hs6, rfl, rfl⟩
    obtain ⟨hw, fr, n0, n1⟩ := id hs6
    have b2 := fr.b2
    have ol := fr.row.ord.le
    have hf := fr.fr (by decide)
    have b3 : b < 300 := by omega
    have b4 : b ≤ 10000 := by omega
    have A : 0 ≤ n ∧ n ≤ 64 := by omega
    walk_at "gor hf,b3,b4,A@_law_script,_law_row,_law_top,_law_low,_law_line,_law_begin,_law_size,_law_many,_law_told,_law_at_here,_law_some,_law_places,_law_tops,_law_windows,_law_bits_wrong,_law_index,_law_kind,_law_bad_here,_law_place,_law_k,_law_one;_law_fraction,_law_states,_law_taken,_law_odd_bits,_law_refused,_law_at,first_place,places_with,window_count,_law_bad,tops_with,_law_bits,kth_top;len;tuple,set;;;law;2:_law_top:3:_law_low,4:_law_line:5:_law_begin,6:_law_size:7:_law_many,14:_law_bits_wrong:15:_law_index;;;;"
    refine calld_setTB hr rfl (by rw [List.length_map, List.length_range]; omega) fun F2 q e2 hF => ?_
    walk_at "gor @_law_script,_law_row,_law_top,_law_low,_law_line,_law_begin,_law_size,_law_many,_law_told,_law_at_here,_law_some,_law_places,_law_tops,_law_windows,_law_bits_wrong,_law_index,_law_kind,_law_bad_here,_law_place,_law_k,_law_one;_law_fraction,_law_states,_law_taken,_law_odd_bits,_law_refused,_law_at,first_place,places_with,window_count,_law_bad,tops_with,_law_bits,kth_top;len;tuple,set;;;law;2:_law_top:3:_law_low,4:_law_line:5:_law_begin,6:_law_size:7:_law_many,14:_law_bits_wrong:15:_law_index;;;;"
    refine calld_lenTB hF ?_
    walk_at "gor @_law_script,_law_row,_law_top,_law_low,_law_line,_law_begin,_law_size,_law_many,_law_told,_law_at_here,_law_some,_law_places,_law_tops,_law_windows,_law_bits_wrong,_law_index,_law_kind,_law_bad_here,_law_place,_law_k,_law_one;_law_fraction,_law_states,_law_taken,_law_odd_bits,_law_refused,_law_at,first_place,places_with,window_count,_law_bad,tops_with,_law_bits,kth_top;len;tuple,set;;;law;2:_law_top:3:_law_low,4:_law_line:5:_law_begin,6:_law_size:7:_law_many,14:_law_bits_wrong:15:_law_index;;;;"
    all_goals first
      | (exfalso; exact absurd rfl (by assumption))
      | (exfalso; rename_i q; rw [List.length_map, List.length_map, List.length_range] at q; exact q rfl)
      | (refine ⟨_, _, _, _, _, _, _, _, _, _, _, _, _, _, _, _, _, ?_, rfl, rfl⟩
         exact hs6)
      | skip
  refine wps_seqC (fun F1 O1 ρ1 => ∃ (r : _) (p : _) (a : _) (b : _) (v : _) (due : _) (z4 : Option D) (z5 : Option D) (z6 : Option D) (z7 : Option D) (z8 : Option D) (z9 : Option D) (z10 : Option D) (z11 : Option D) (z12 : Option D) (z13 : Option D) (z16 : Option D) (z17 : Option D) (z18 : Option D) (z19 : Option D) (z20 : Option D), (RowOk r ∧ FrOk 99 a b ∧ pl1 v = true ∧ isBits v = false ∧ okD 8 due = true ∧ okD 8 (badIx v) = true ∧ deq (badIx v) due = true) ∧ (p, .lst r) :: O = O1 ∧ ρ1 = [some (.frl (ns.map .int)), some (.raw (.ref p)), some (.int a), some (.int b), z4, z5, z6, z7, z8, z9, z10, z11, z12, z13, some (v), some (due), z16, z17, z18, z19, z20]) ?_ ?_
  · --SEG i
    rintro F1 O1 ρ1 e1 ⟨r, p, a, b, n, z9, z10, z11, z12, z13, z14, z15, z16, z17, z18, z19, z20, hs4, rfl, rfl⟩
    obtain ⟨hw, fr, n0, n1⟩ := id hs4
    walk_at "gor hw@_law_script,_law_row,_law_top,_law_low,_law_line,_law_begin,_law_size,_law_many,_law_told,_law_at_here,_law_some,_law_places,_law_tops,_law_windows,_law_bits_wrong,_law_index,_law_kind,_law_bad_here,_law_place,_law_k,_law_one;_law_fraction,_law_states,_law_taken,_law_odd_bits,_law_refused,_law_at,first_place,places_with,window_count,_law_bad,tops_with,_law_bits,kth_top;len;tuple,set;;;law;2:_law_top:3:_law_low,4:_law_line:5:_law_begin,6:_law_size:7:_law_many,14:_law_bits_wrong:15:_law_index;;;;"
    refine ⟨_, _, _, _, _, _, _, _, _, _, _, _, _, _, _, _, _, _, _, _, _, ?_, rfl, rfl⟩
    exact ⟨by assumption, fr, by assumption⟩
  refine wps_seqC (fun F1 O1 ρ1 => ∃ (r : _) (p : _) (a : _) (b : _) (v : _) (due : _) (k : Int) (z4 : Option D) (z5 : Option D) (z6 : Option D) (z7 : Option D) (z8 : Option D) (z9 : Option D) (z10 : Option D) (z11 : Option D) (z12 : Option D) (z13 : Option D) (z17 : Option D) (z18 : Option D) (z19 : Option D) (z20 : Option D), (RowOk r ∧ FrOk 99 a b ∧ pl1 v = true ∧ isBits v = false ∧ okD 8 due = true ∧ okD 8 (badIx v) = true ∧ deq (badIx v) due = true ∧ 0 ≤ k ∧ k < 3) ∧ (p, .lst r) :: O = O1 ∧ ρ1 = [some (.frl (ns.map .int)), some (.raw (.ref p)), some (.int a), some (.int b), z4, z5, z6, z7, z8, z9, z10, z11, z12, z13, some (v), some (due), some (.int k), z17, z18, z19, z20]) ?_ ?_
  · --SEG j
    rintro F1 O1 ρ1 e1 ⟨r, p, a, b, v, due, z4, z5, z6, z7, z8, z9, z10, z11, z12, z13, z16, z17, z18, z19, z20, hs7, rfl, rfl⟩
    obtain ⟨hw, fr, hv⟩ := id hs7
    walk_at "gor hw@_law_script,_law_row,_law_top,_law_low,_law_line,_law_begin,_law_size,_law_many,_law_told,_law_at_here,_law_some,_law_places,_law_tops,_law_windows,_law_bits_wrong,_law_index,_law_kind,_law_bad_here,_law_place,_law_k,_law_one;_law_fraction,_law_states,_law_taken,_law_odd_bits,_law_refused,_law_at,first_place,places_with,window_count,_law_bad,tops_with,_law_bits,kth_top;len;tuple,set;;;law;2:_law_top:3:_law_low,4:_law_line:5:_law_begin,6:_law_size:7:_law_many,14:_law_bits_wrong:15:_law_index;;;;"
    refine ⟨_, _, _, _, _, _, _, _, _, _, _, _, _, _, _, _, _, _, _, _, _, ?_, rfl, rfl⟩
    exact ⟨by assumption, fr, hv.1, hv.2.1, hv.2.2.1, hv.2.2.2.1, hv.2.2.2.2, by assumption, by assumption⟩
  refine wps_seqC (fun F1 O1 ρ1 => ∃ (r : _) (p : _) (a : _) (b : _) (v : _) (due : _) (k : Int) (z4 : Option D) (z5 : Option D) (z6 : Option D) (z7 : Option D) (z8 : Option D) (z9 : Option D) (z10 : Option D) (z11 : Option D) (z12 : Option D) (z13 : Option D) (z17 : Option D) (z18 : Option D) (z19 : Option D) (z20 : Option D), (RowOk r ∧ FrOk 99 a b ∧ pl1 v = true ∧ isBits v = false ∧ okD 8 due = true ∧ okD 8 (badIx v) = true ∧ deq (badIx v) due = true ∧ 0 ≤ k ∧ k < 3) ∧ (p, .lst r) :: O = O1 ∧ ρ1 = [some (.frl (ns.map .int)), some (.raw (.ref p)), some (.int a), some (.int b), z4, z5, z6, z7, z8, z9, z10, z11, z12, z13, some (v), some (due), some (.int k), z17, z18, z19, z20]) ?_ ?_
  · --SEG k
    rintro F1 O1 ρ1 e1 ⟨r, p, a, b, v, due, k, z4, z5, z6, z7, z8, z9, z10, z11, z12, z13, z17, z18, z19, z20, hs8, rfl, rfl⟩
    obtain ⟨hw, fr, v1, v2, v3, v4, v5, k0, k1⟩ := id hs8
    walk_at "gor hw@_law_script,_law_row,_law_top,_law_low,_law_line,_law_begin,_law_size,_law_many,_law_told,_law_at_here,_law_some,_law_places,_law_tops,_law_windows,_law_bits_wrong,_law_index,_law_kind,_law_bad_here,_law_place,_law_k,_law_one;_law_fraction,_law_states,_law_taken,_law_odd_bits,_law_refused,_law_at,first_place,places_with,window_count,_law_bad,tops_with,_law_bits,kth_top;len;tuple,set;;;law;2:_law_top:3:_law_low,4:_law_line:5:_law_begin,6:_law_size:7:_law_many,14:_law_bits_wrong:15:_law_index;;;;"
    all_goals have hb := badFr_of (by assumption)
    · exact .inl ⟨k0, k1, hb.1, v1, fun q => (Bool.noConfusion (hb.2.symm.trans q)), .inl hb.2⟩
    · rw [show refW k _ v = .str "fraction" by unfold refW; rw [if_pos k1, if_neg (by rw [hb.2]; exact Bool.false_ne_true)]]
      walk_at "gor @_law_script,_law_row,_law_top,_law_low,_law_line,_law_begin,_law_size,_law_many,_law_told,_law_at_here,_law_some,_law_places,_law_tops,_law_windows,_law_bits_wrong,_law_index,_law_kind,_law_bad_here,_law_place,_law_k,_law_one;_law_fraction,_law_states,_law_taken,_law_odd_bits,_law_refused,_law_at,first_place,places_with,window_count,_law_bad,tops_with,_law_bits,kth_top;len;tuple,set;;;law;2:_law_top:3:_law_low,4:_law_line:5:_law_begin,6:_law_size:7:_law_many,14:_law_bits_wrong:15:_law_index;;;;"
      all_goals first
        | (exfalso; exact absurd rfl (by assumption))
        | (refine ⟨_, _, _, _, _, _, _, _, _, _, _, _, _, _, _, _, _, _, _, _, _, ?_, rfl, rfl⟩
           exact ⟨by assumption, fr, v1, v2, v3, v4, v5, k0, k1⟩)
        | skip
  refine wps_seqC (fun F1 O1 ρ1 => ∃ (r : _) (p : _) (a : _) (b : _) (v : _) (due : _) (k : Int) (z4 : Option D) (z5 : Option D) (z6 : Option D) (z7 : Option D) (z8 : Option D) (z9 : Option D) (z10 : Option D) (z11 : Option D) (z12 : Option D) (z13 : Option D) (z17 : Option D) (z18 : Option D) (z19 : Option D) (z20 : Option D), (RowOk r ∧ FrOk 99 a b ∧ pl1 v = true ∧ isBits v = false ∧ okD 8 due = true ∧ okD 8 (badIx v) = true ∧ deq (badIx v) due = true ∧ 0 ≤ k ∧ k < 3) ∧ (p, .lst r) :: O = O1 ∧ ρ1 = [some (.frl (ns.map .int)), some (.raw (.ref p)), some (.int a), some (.int b), z4, z5, z6, z7, z8, z9, z10, z11, z12, z13, some (v), some (due), some (.int k), z17, z18, z19, z20]) ?_ ?_
  · --SEG l
    rintro F1 O1 ρ1 e1 ⟨r, p, a, b, v, due, k, z4, z5, z6, z7, z8, z9, z10, z11, z12, z13, z17, z18, z19, z20, hs8, rfl, rfl⟩
    obtain ⟨hw, fr, v1, v2, v3, v4, v5, k0, k1⟩ := id hs8
    have f1 : isFr (.tup [.int 1, .int (10000 + 1)]) = true := by decide +kernel
    have f2 : isShort (.tup [.int 1, .int (10000 + 1)]) = false := by decide +kernel
    walk_at "gor @_law_script,_law_row,_law_top,_law_low,_law_line,_law_begin,_law_size,_law_many,_law_told,_law_at_here,_law_some,_law_places,_law_tops,_law_windows,_law_bits_wrong,_law_index,_law_kind,_law_bad_here,_law_place,_law_k,_law_one;_law_fraction,_law_states,_law_taken,_law_odd_bits,_law_refused,_law_at,first_place,places_with,window_count,_law_bad,tops_with,_law_bits,kth_top;len;tuple,set;;;law;2:_law_top:3:_law_low,4:_law_line:5:_law_begin,6:_law_size:7:_law_many,14:_law_bits_wrong:15:_law_index;;;;"
    · exact .inl ⟨k0, k1, by decide +kernel, v1, fun _ q => (Bool.noConfusion (f2.symm.trans q)), .inr (.inl f2)⟩
    · rw [show refW k (.tup [.int 1, .int (10000 + 1)]) v = .lst [.str "long", .int 10000] by unfold refW; rw [if_pos k1, if_pos f1, if_neg (by rw [f2]; exact Bool.false_ne_true)]]
      refine opd_neR hr (by decide +kernel) ?_
      walk_at "gor @_law_script,_law_row,_law_top,_law_low,_law_line,_law_begin,_law_size,_law_many,_law_told,_law_at_here,_law_some,_law_places,_law_tops,_law_windows,_law_bits_wrong,_law_index,_law_kind,_law_bad_here,_law_place,_law_k,_law_one;_law_fraction,_law_states,_law_taken,_law_odd_bits,_law_refused,_law_at,first_place,places_with,window_count,_law_bad,tops_with,_law_bits,kth_top;len;tuple,set;;;law;2:_law_top:3:_law_low,4:_law_line:5:_law_begin,6:_law_size:7:_law_many,14:_law_bits_wrong:15:_law_index;;;;"
      refine ⟨_, _, _, _, _, _, _, _, _, _, _, _, _, _, _, _, _, _, _, _, _, ?_, rfl, rfl⟩
      exact hs8
  refine wps_seqC (fun F1 O1 ρ1 => ∃ (r : _) (p : _) (a : _) (b : _) (v : _) (due : _) (k : Int) (z4 : Option D) (z5 : Option D) (z6 : Option D) (z7 : Option D) (z8 : Option D) (z9 : Option D) (z10 : Option D) (z11 : Option D) (z12 : Option D) (z13 : Option D) (z17 : Option D) (z18 : Option D) (z19 : Option D) (z20 : Option D), (RowOk r ∧ FrOk 99 a b ∧ pl1 v = true ∧ isBits v = false ∧ okD 8 due = true ∧ okD 8 (badIx v) = true ∧ deq (badIx v) due = true ∧ 0 ≤ k ∧ k < 3) ∧ (p, .lst r) :: O = O1 ∧ ρ1 = [some (.frl (ns.map .int)), some (.raw (.ref p)), some (.int a), some (.int b), z4, z5, z6, z7, z8, z9, z10, z11, z12, z13, some (v), some (due), some (.int k), z17, z18, z19, z20]) ?_ ?_
  · --SEG m
    rintro F1 O1 ρ1 e1 ⟨r, p, a, b, v, due, k, z4, z5, z6, z7, z8, z9, z10, z11, z12, z13, z17, z18, z19, z20, hs8, rfl, rfl⟩
    obtain ⟨hw, fr, v1, v2, v3, v4, v5, k0, k1⟩ := id hs8
    have b2 := fr.b2
    have hf := fr.fr (by decide)
    have hs2 : isShort (.tup [.int a, .int b]) = true := isShort_pair.mpr (by omega)
    obtain ⟨d1, d2, d3⟩ := bits_due v4 v3 v5
    walk_at "gor @_law_script,_law_row,_law_top,_law_low,_law_line,_law_begin,_law_size,_law_many,_law_told,_law_at_here,_law_some,_law_places,_law_tops,_law_windows,_law_bits_wrong,_law_index,_law_kind,_law_bad_here,_law_place,_law_k,_law_one;_law_fraction,_law_states,_law_taken,_law_odd_bits,_law_refused,_law_at,first_place,places_with,window_count,_law_bad,tops_with,_law_bits,kth_top;len;tuple,set;;;law;2:_law_top:3:_law_low,4:_law_line:5:_law_begin,6:_law_size:7:_law_many,14:_law_bits_wrong:15:_law_index;;;;"
    · exact .inl ⟨by omega, by omega, rfl, v1, fun _ _ => (show b < 300 by omega), .inr (.inr (.inl ⟨by omega, v2⟩))⟩
    · rw [show refW (k % 2) (.tup [.int a, .int b]) v = .lst [.str "bits", badIx v] by unfold refW; rw [if_pos (by omega), if_pos hf, if_pos hs2, if_pos (by omega)]]
      refine opd_neK hr d1 d2 d3 ?_
      walk_at "gor @_law_script,_law_row,_law_top,_law_low,_law_line,_law_begin,_law_size,_law_many,_law_told,_law_at_here,_law_some,_law_places,_law_tops,_law_windows,_law_bits_wrong,_law_index,_law_kind,_law_bad_here,_law_place,_law_k,_law_one;_law_fraction,_law_states,_law_taken,_law_odd_bits,_law_refused,_law_at,first_place,places_with,window_count,_law_bad,tops_with,_law_bits,kth_top;len;tuple,set;;;law;2:_law_top:3:_law_low,4:_law_line:5:_law_begin,6:_law_size:7:_law_many,14:_law_bits_wrong:15:_law_index;;;;"
      refine ⟨_, _, _, _, _, _, _, _, _, _, _, _, _, _, _, _, _, _, _, _, _, ?_, rfl, rfl⟩
      exact hs8
  refine wps_seqC (fun F1 O1 ρ1 => ∃ (r : _) (p : _) (a : _) (b : _) (v : _) (due : _) (k : Int) (d : D) (z4 : Option D) (z5 : Option D) (z6 : Option D) (z7 : Option D) (z8 : Option D) (z9 : Option D) (z10 : Option D) (z11 : Option D) (z12 : Option D) (z13 : Option D) (z18 : Option D) (z19 : Option D) (z20 : Option D), (RowOk r ∧ FrOk 99 a b ∧ pl1 v = true ∧ isBits v = false ∧ okD 8 due = true ∧ okD 8 (badIx v) = true ∧ deq (badIx v) due = true ∧ 0 ≤ k ∧ k < 3 ∧ (kindD d ≠ none ∧ isFrom d 0 64 = false ∧ okD 8 d = true ∧ pl1 d = true)) ∧ (p, .lst r) :: O = O1 ∧ ρ1 = [some (.frl (ns.map .int)), some (.raw (.ref p)), some (.int a), some (.int b), z4, z5, z6, z7, z8, z9, z10, z11, z12, z13, some (v), some (due), some (.int k), some (d), z18, z19, z20]) ?_ ?_
  · --SEG n
    rintro F1 O1 ρ1 e1 ⟨r, p, a, b, v, due, k, z4, z5, z6, z7, z8, z9, z10, z11, z12, z13, z17, z18, z19, z20, hs8, rfl, rfl⟩
    obtain ⟨hw, fr, v1, v2, v3, v4, v5, k0, k1⟩ := id hs8
    walk_at "gor hw@_law_script,_law_row,_law_top,_law_low,_law_line,_law_begin,_law_size,_law_many,_law_told,_law_at_here,_law_some,_law_places,_law_tops,_law_windows,_law_bits_wrong,_law_index,_law_kind,_law_bad_here,_law_place,_law_k,_law_one;_law_fraction,_law_states,_law_taken,_law_odd_bits,_law_refused,_law_at,first_place,places_with,window_count,_law_bad,tops_with,_law_bits,kth_top;len;tuple,set;;;law;2:_law_top:3:_law_low,4:_law_line:5:_law_begin,6:_law_size:7:_law_many,14:_law_bits_wrong:15:_law_index;;;;"
    refine ixd_all (fun d => kindD d ≠ none ∧ isFrom d 0 64 = false ∧ okD 8 d = true ∧ pl1 d = true) (by assumption) (by assumption) bad26a fun d hd => ?_
    refine ⟨_, _, _, _, _, _, _, _, _, _, _, _, _, _, _, _, _, _, _, _, _, ?_, rfl, rfl⟩
    exact ⟨by assumption, fr, v1, v2, v3, v4, v5, k0, k1, hd⟩
  refine wps_seqC (fun F1 O1 ρ1 => ∃ (r : _) (p : _) (a : _) (b : _) (v : _) (due : _) (k : Int) (z4 : Option D) (z5 : Option D) (z6 : Option D) (z7 : Option D) (z8 : Option D) (z9 : Option D) (z10 : Option D) (z11 : Option D) (z12 : Option D) (z13 : Option D) (z17 : Option D) (z18 : Option D) (z19 : Option D) (z20 : Option D), (RowOk r ∧ FrOk 99 a b ∧ pl1 v = true ∧ isBits v = false ∧ okD 8 due = true ∧ okD 8 (badIx v) = true ∧ deq (badIx v) due = true ∧ 0 ≤ k ∧ k < 3) ∧ (p, .lst r) :: O = O1 ∧ ρ1 = [some (.frl (ns.map .int)), some (.raw (.ref p)), some (.int a), some (.int b), z4, z5, z6, z7, z8, z9, z10, z11, z12, z13, some (v), some (due), some (.int k), z17, z18, z19, z20]) ?_ ?_
  · --SEG o
    rintro F1 O1 ρ1 e1 ⟨r, p, a, b, v, due, k, d, z4, z5, z6, z7, z8, z9, z10, z11, z12, z13, z18, z19, z20, hs9, rfl, rfl⟩
    obtain ⟨hw, fr, v1, v2, v3, v4, v5, k0, k1, c1, c2, c3, c4⟩ := id hs9
    have b2 := fr.b2
    have hf := fr.fr (by decide)
    have hs2 : isShort (.tup [.int a, .int b]) = true := isShort_pair.mpr (by omega)
    have ho : oddIn 1 mst (.int b) = true := oddIn_mk fr.b1 (by simp only [mst]; omega) fr.b3
    obtain ⟨d1, d2, d3⟩ := bits_due v4 v3 v5
    walk_at "gor @_law_script,_law_row,_law_top,_law_low,_law_line,_law_begin,_law_size,_law_many,_law_told,_law_at_here,_law_some,_law_places,_law_tops,_law_windows,_law_bits_wrong,_law_index,_law_kind,_law_bad_here,_law_place,_law_k,_law_one;_law_fraction,_law_states,_law_taken,_law_odd_bits,_law_refused,_law_at,first_place,places_with,window_count,_law_bad,tops_with,_law_bits,kth_top;len;tuple,set;;;law;2:_law_top:3:_law_low,4:_law_line:5:_law_begin,6:_law_size:7:_law_many,14:_law_bits_wrong:15:_law_index;;;;"
    · exact .inl ⟨by decide, by decide, rfl, c4, fun _ _ => (show b < 300 by omega), .inr (.inr (.inr ⟨rfl, c2⟩))⟩
    rw [show refW 2 (.tup [.int a, .int b]) d = .lst [d] by unfold refW; rw [if_pos (by decide), if_pos hf, if_pos hs2, if_neg (by decide)]]
    refine opd_neR hr (x := .lst [d]) (by show (okD 8 d && true) = true; rw [c3]; rfl) ?_
    walk_at "gor @_law_script,_law_row,_law_top,_law_low,_law_line,_law_begin,_law_size,_law_many,_law_told,_law_at_here,_law_some,_law_places,_law_tops,_law_windows,_law_bits_wrong,_law_index,_law_kind,_law_bad_here,_law_place,_law_k,_law_one;_law_fraction,_law_states,_law_taken,_law_odd_bits,_law_refused,_law_at,first_place,places_with,window_count,_law_bad,tops_with,_law_bits,kth_top;len;tuple,set;;;law;2:_law_top:3:_law_low,4:_law_line:5:_law_begin,6:_law_size:7:_law_many,14:_law_bits_wrong:15:_law_index;;;;"
    · exact .inr ⟨by omega, by omega, by simp [kindD], v1, .inr v2⟩
    rw [show refW (3 + k % 2) (.int b) v = .lst [.str "bits", badIx v] by unfold refW; rw [if_neg (by omega), if_pos ho]]
    refine opd_neK hr d1 d2 d3 ?_
    walk_at "gor @_law_script,_law_row,_law_top,_law_low,_law_line,_law_begin,_law_size,_law_many,_law_told,_law_at_here,_law_some,_law_places,_law_tops,_law_windows,_law_bits_wrong,_law_index,_law_kind,_law_bad_here,_law_place,_law_k,_law_one;_law_fraction,_law_states,_law_taken,_law_odd_bits,_law_refused,_law_at,first_place,places_with,window_count,_law_bad,tops_with,_law_bits,kth_top;len;tuple,set;;;law;2:_law_top:3:_law_low,4:_law_line:5:_law_begin,6:_law_size:7:_law_many,14:_law_bits_wrong:15:_law_index;;;;"
    refine ⟨_, _, _, _, _, _, _, _, _, _, _, _, _, _, _, _, _, _, _, _, _, ?_, rfl, rfl⟩
    exact ⟨hw, fr, v1, v2, v3, v4, v5, k0, k1⟩
  refine wps_seqC (fun F1 O1 ρ1 => ∃ (r : _) (p : _) (a : _) (b : _) (v : _) (due : _) (k : Int) (d : D) (z4 : Option D) (z5 : Option D) (z6 : Option D) (z7 : Option D) (z8 : Option D) (z9 : Option D) (z10 : Option D) (z11 : Option D) (z12 : Option D) (z13 : Option D) (z18 : Option D) (z19 : Option D) (z20 : Option D), (RowOk r ∧ FrOk 99 a b ∧ pl1 v = true ∧ isBits v = false ∧ okD 8 due = true ∧ okD 8 (badIx v) = true ∧ deq (badIx v) due = true ∧ 0 ≤ k ∧ k < 3 ∧ (kindD d ≠ none ∧ oddIn 1 mst d = false ∧ okD 8 d = true ∧ pl1 d = true)) ∧ (p, .lst r) :: O = O1 ∧ ρ1 = [some (.frl (ns.map .int)), some (.raw (.ref p)), some (.int a), some (.int b), z4, z5, z6, z7, z8, z9, z10, z11, z12, z13, some (v), some (due), some (.int k), some (d), z18, z19, z20]) ?_ ?_
  · --SEG p
    rintro F1 O1 ρ1 e1 ⟨r, p, a, b, v, due, k, z4, z5, z6, z7, z8, z9, z10, z11, z12, z13, z17, z18, z19, z20, hs8, rfl, rfl⟩
    obtain ⟨hw, fr, v1, v2, v3, v4, v5, k0, k1⟩ := id hs8
    walk_at "gor hw@_law_script,_law_row,_law_top,_law_low,_law_line,_law_begin,_law_size,_law_many,_law_told,_law_at_here,_law_some,_law_places,_law_tops,_law_windows,_law_bits_wrong,_law_index,_law_kind,_law_bad_here,_law_place,_law_k,_law_one;_law_fraction,_law_states,_law_taken,_law_odd_bits,_law_refused,_law_at,first_place,places_with,window_count,_law_bad,tops_with,_law_bits,kth_top;len;tuple,set;;;law;2:_law_top:3:_law_low,4:_law_line:5:_law_begin,6:_law_size:7:_law_many,14:_law_bits_wrong:15:_law_index;;;;"
    refine ixd_all (fun d => kindD d ≠ none ∧ oddIn 1 mst d = false ∧ okD 8 d = true ∧ pl1 d = true) (by assumption) (by assumption) bad26b fun d hd => ?_
    refine ⟨_, _, _, _, _, _, _, _, _, _, _, _, _, _, _, _, _, _, _, _, _, ?_, rfl, rfl⟩
    exact ⟨by assumption, fr, v1, v2, v3, v4, v5, k0, k1, hd⟩
  refine wps_lastC ?_
  · --SEG z
    rintro F1 O1 ρ1 e1 ⟨r, p, a, b, v, due, k, d, z4, z5, z6, z7, z8, z9, z10, z11, z12, z13, z18, z19, z20, hsA, rfl, rfl⟩
    obtain ⟨hw, fr, v1, v2, v3, v4, v5, k0, k1, c1, c2, c3, c4⟩ := id hsA
    refine wp_ret (EvP.drop 0 ?_)
    walk_at "gor @_law_script,_law_row,_law_top,_law_low,_law_line,_law_begin,_law_size,_law_many,_law_told,_law_at_here,_law_some,_law_places,_law_tops,_law_windows,_law_bits_wrong,_law_index,_law_kind,_law_bad_here,_law_place,_law_k,_law_one;_law_fraction,_law_states,_law_taken,_law_odd_bits,_law_refused,_law_at,first_place,places_with,window_count,_law_bad,tops_with,_law_bits,kth_top;len;tuple,set;;;law;2:_law_top:3:_law_low,4:_law_line:5:_law_begin,6:_law_size:7:_law_many,14:_law_bits_wrong:15:_law_index;;;;"
    · exact .inr ⟨by omega, by omega, c1, v1, .inl c2⟩
    rw [show refW (3 + k % 2) d v = .lst [d] by unfold refW; rw [if_neg (by omega), if_neg (by rw [c2]; exact Bool.false_ne_true)]]
    refine opd_eqR hr (x := .lst [d]) (by show (okD 8 d && true) = true; rw [c3]; rfl) ?_
    walk_at "fin"
    rfl
end
end CR
open PySem PySem.W PySem.Calls PyProof.Rows
theorem PySem.Challenge.cw_carriedrows_k26_whole_windows_holds : PySem.Challenge.rw_carriedrows_k26_whole_windows.Holds := by
  w_on; o_law
  refine HandSHeadRun.head_any (r := OpenLaw.row PySem.Challenge.rw_carriedrows_k26_whole_windows) (q := view (OpenLaw.row PySem.Challenge.rw_carriedrows_k26_whole_windows).prog [47]) (H := CR.hk) (ob := CR.ob) (M := 6000) (loose := CR.names) (d := HandSHeadRun.topDef (OpenLaw.row PySem.Challenge.rw_carriedrows_k26_whole_windows).prog 47) (kwd := []) CR.ob_eq
    (by kernel_rfl) (fun s => by kernel_rfl) CR.run (by kernel_rfl) (by kernel_rfl) (by kernel_rfl) (by rfl) (by first | assumption | decide +kernel) (by decide +kernel) ⟨rfl, rfl, rfl, rfl, rfl, by decide +kernel⟩ ?hw ?hc
  case hw => w_witness2
  case hc => exact CR.law_wk (l := PySem.Challenge.rw_carriedrows_k26_whole_windows) (n := 63) rfl (by decide) (by kernel_rfl) ⟨rfl, by decide, by decide⟩ 32 rfl CR.law_ok
