import PyProof.Rows.All
import Wide.All
import OpenK.AllK
import Wide.FinOn
import HandS.ForMost
import HandS.ForExc
import HandS.ExcSuper
import HandS.ExcField
import HandS.CallSlots
import HandS.RaiseMore
import HandS.Style
import HandS.Wide
import HandS.Deep
import HandS.SortInts
import HandS.Conv
import HandS.Zip
import HandS.TupAny
import HandS.TupMul
import HandS.DictTup
import HandS.More
import HandS.IsInst
import HandS.Gcd
import PySem.Challenge.RW_tracetriples_k52_lines_in_common
set_option Elab.async false
set_option linter.all false
set_option maxRecDepth 100000
set_option autoImplicit false
/-! Pt: a layer of pure data over the hand layer. A: data, heaps, the relation of slots to data. -/
namespace Pt
open PySem PySem.Spec PyProof.Rows L2

abbrev D := PyData
/-- the state of the law's source of numbers -/
structure Src where
  cells : List Int
  left : Int
  mixed : Int
  turn : Int
/-- an argument: data, or the source -/
inductive Ar where
  | d (x : D)
  | src
  | scr (ns : List Int)
/-- a slot: nothing known, data that stands still, an own list, an own dict (keys ints and texts; tuples), the source -/
inductive Sl where
  | un
  | d (x : D)
  | l (xs : List D)
  | k (kvs : List (D × D))
  | t (kvs : List (D × D))
  | src
  | scr (ns : List Int)
  | h (xs : List D)
abbrev Sg := List Sl
inductive Rs (α : Type) where
  | ok (a : α) (s : Src)
  | ex (c : Str) (x : List (Str × D)) (s : Src)
  | no
abbrev Mn (α : Type) := Sg → Src → Rs α
inductive Sr where
  | nx (e : Sg) (s : Src)
  | bk (e : Sg) (s : Src)
  | ct (e : Sg) (s : Src)
  | rt (d : D) (s : Src)
  | ex (c : Str) (x : List (Str × D)) (e : Sg) (s : Src)
  | no
abbrev Ms := Sg → Src → Sr

def keyD : Key → D
  | .inl i => .int i
  | .inr x => .str x

mutual
/-- v stands for d, by what stands still -/
inductive Is (K : PySem.W.Frag) (F : Hp) : V → D → Prop
  | non : Is K F .non .none
  | bl (b : Bool) : Is K F (.bl b) (.bool b)
  | int (i : Int) : Is K F (.int i) (.int i)
  | str (x : Str) : Is K F (.str x) (.str x)
  | lst {a : Addr} {xs : List V} {ds : List D} : F a = some (.lst xs) → IsAll K F xs ds → ds.length ≤ sizeLine → Is K F (.ref a) (.list ds)
  | tup {a : Addr} {xs : List V} {ds : List D} : SqT K F a xs → IsAll K F xs ds → ds.length ≤ sizeLine → Is K F (.ref a) (.tuple ds)
  | dct {a : Addr} {ws : List (Key × V)} {kvs : List (D × D)} : F a = some (.dK ws) → IsKV K F ws kvs → Is K F (.ref a) (.dict kvs)
  | dtt {a : Addr} {ws : List (List Key × V)} {kvs : List (D × D)} : F a = some (.dT ws) → IsTV K F ws kvs → Is K F (.ref a) (.dict ((.none, .none) :: kvs))
inductive IsAll (K : PySem.W.Frag) (F : Hp) : List V → List D → Prop
  | nil : IsAll K F [] []
  | cons {v : V} {vs : List V} {d : D} {ds : List D} : Is K F v d → IsAll K F vs ds → IsAll K F (v :: vs) (d :: ds)
inductive IsKV (K : PySem.W.Frag) (F : Hp) : List (Key × V) → List (D × D) → Prop
  | nil : IsKV K F [] []
  | cons {k : Key} {v : V} {ws : List (Key × V)} {d : D} {kvs : List (D × D)} : Is K F v d → IsKV K F ws kvs → IsKV K F ((k, v) :: ws) ((keyD k, d) :: kvs)
inductive IsTV (K : PySem.W.Frag) (F : Hp) : List (List Key × V) → List (D × D) → Prop
  | nil : IsTV K F [] []
  | cons {k : List Key} {v : V} {ws : List (List Key × V)} {d : D} {kvs : List (D × D)} : Is K F v d → IsTV K F ws kvs → IsTV K F ((k, v) :: ws) ((.tuple (k.map keyD), d) :: kvs)
end

theorem Same.seqT {K : PySem.W.Frag} {H H' : Hp} {a : Addr} {xs : List V} (e : Same H H') (h : SqT K H a xs) : SqT K H' a xs := by
  rcases h with (h | ⟨o, h⟩) | h
  · exact .inl (.inl (e _ _ h))
  · exact .inl (.inr ⟨o, e _ _ h⟩)
  · exact .inr h

section
variable {K : PySem.W.Frag} {F F' : Hp}
mutual
theorem Is.mono (e : Same F F') : ∀ {d : D} {v : V}, Is K F v d → Is K F' v d
  | .none, _, h => by cases h; exact .non
  | .bool _, _, h => by cases h; exact .bl _
  | .int _, _, h => by cases h; exact .int _
  | .str _, _, h => by cases h; exact .str _
  | .list ds, _, h => by
    cases h with
    | lst a b c => exact .lst (e _ _ a) (IsAll.mono e b) c
  | .tuple ds, _, h => by
    cases h with
    | tup a b c => exact .tup (Same.seqT e a) (IsAll.mono e b) c
  | .dict kvs, _, h => by
    cases h with
    | dct a b => exact .dct (e _ _ a) (IsKV.mono e b)
    | dtt a b => exact .dtt (e _ _ a) (IsTV.mono e b)
theorem IsAll.mono (e : Same F F') : ∀ {ds : List D} {vs : List V}, IsAll K F vs ds → IsAll K F' vs ds
  | [], _, h => by cases h; exact .nil
  | _ :: _, _, h => by
    cases h with
    | cons a b => exact .cons (Is.mono e a) (IsAll.mono e b)
theorem IsKV.mono (e : Same F F') : ∀ {ds : List (D × D)} {vs : List (Key × V)}, IsKV K F vs ds → IsKV K F' vs ds
  | [], _, h => by cases h; exact .nil
  | (_, _) :: _, _, h => by
    cases h with
    | cons a b => exact .cons (Is.mono e a) (IsKV.mono e b)
theorem IsTV.mono (e : Same F F') : ∀ {ds : List (D × D)} {vs : List (List Key × V)}, IsTV K F vs ds → IsTV K F' vs ds
  | [], _, h => by cases h; exact .nil
  | (_, _) :: _, _, h => by
    cases h with
    | cons a b => exact .cons (Is.mono e a) (IsTV.mono e b)
end
theorem IsAll.length : ∀ {vs : List V} {ds : List D}, IsAll K F vs ds → vs.length = ds.length
  | [], _, h => by cases h; rfl
  | _ :: _, _, h => by
    cases h with
    | cons a b => exact congrArg (· + 1) (IsAll.length b)
theorem IsAll.get : ∀ {vs : List V} {ds : List D} {i : Nat} {d : D}, IsAll K F vs ds → ds[i]? = some d → ∃ v, vs[i]? = some v ∧ Is K F v d
  | [], _, i, d, h, e => by cases h; simp at e
  | _ :: _, _, 0, d, h, e => by
    cases h with
    | cons a b =>
      have e' : some _ = some d := e
      cases e'
      exact ⟨_, rfl, a⟩
  | _ :: _, _, i + 1, d, h, e => by
    cases h with
    | cons a b =>
      obtain ⟨v, h1, h2⟩ := IsAll.get (i := i) (d := d) b (by simpa using e)
      exact ⟨v, by simpa using h1, h2⟩
theorem IsAll.append : ∀ {vs ws : List V} {ds es : List D}, IsAll K F vs ds → IsAll K F ws es → IsAll K F (vs ++ ws) (ds ++ es)
  | [], _, _, _, h, g => by cases h; exact g
  | _ :: _, _, _, _, h, g => by
    cases h with
    | cons a b => exact .cons a (IsAll.append b g)
theorem IsAll.take : ∀ {vs : List V} {ds : List D} (n : Nat), IsAll K F vs ds → IsAll K F (vs.take n) (ds.take n)
  | _, _, 0, _ => .nil
  | [], _, _ + 1, h => by cases h; exact .nil
  | _ :: _, _, n + 1, h => by
    cases h with
    | cons a b => exact .cons a (IsAll.take n b)
theorem IsAll.drop : ∀ {vs : List V} {ds : List D} (n : Nat), IsAll K F vs ds → IsAll K F (vs.drop n) (ds.drop n)
  | _, _, 0, h => h
  | [], _, _ + 1, h => by cases h; exact .nil
  | _ :: _, _, n + 1, h => by
    cases h with
    | cons a b => exact IsAll.drop n b
theorem IsAll.reverse : ∀ {vs : List V} {ds : List D}, IsAll K F vs ds → IsAll K F vs.reverse ds.reverse
  | [], _, h => by cases h; exact .nil
  | _ :: _, _, h => by
    cases h with
    | cons a b =>
      rw [List.reverse_cons, List.reverse_cons]
      exact IsAll.append (IsAll.reverse b) (.cons a .nil)
theorem IsAll.set {v : V} {d : D} (r : Is K F v d) : ∀ {vs : List V} {ds : List D} (i : Nat), IsAll K F vs ds → IsAll K F (vs.set i v) (ds.set i d)
  | [], _, _, h => by cases h; exact .nil
  | _ :: _, _, 0, h => by
    cases h with
    | cons a b => exact .cons r b
  | _ :: _, _, i + 1, h => by
    cases h with
    | cons a b => exact .cons a (IsAll.set r i b)
theorem IsAll.dropLast : ∀ {vs : List V} {ds : List D}, IsAll K F vs ds → IsAll K F vs.dropLast ds.dropLast := fun {vs ds} h => by
  rw [List.dropLast_eq_take, List.dropLast_eq_take, h.length]
  exact h.take _
theorem IsAll.eraseIdx : ∀ {vs : List V} {ds : List D} (i : Nat), IsAll K F vs ds → IsAll K F (vs.eraseIdx i) (ds.eraseIdx i) := fun {vs ds} i h => by
  rw [List.eraseIdx_eq_take_drop_succ, List.eraseIdx_eq_take_drop_succ]
  exact (h.take _).append (h.drop _)
theorem IsAll.rep {vs : List V} {ds : List D} (h : IsAll K F vs ds) : ∀ k : Nat, IsAll K F (List.replicate k vs).flatten (List.replicate k ds).flatten
  | 0 => .nil
  | k + 1 => by
    rw [List.replicate_succ, List.replicate_succ, List.flatten_cons, List.flatten_cons]
    exact h.append (IsAll.rep h k)
theorem IsAll.ints : ∀ ns : List Int, IsAll K F (ns.map V.int) (ns.map PyData.int)
  | [] => .nil
  | _ :: r => .cons (.int _) (IsAll.ints r)
theorem IsAll.of_ints : ∀ {ns : List Int} {vs : List V}, IsAll K F vs (ns.map PyData.int) → vs = ns.map V.int
  | [], _, h => by cases h; rfl
  | _ :: r, _, h => by
    cases h with
    | cons a b =>
      cases a
      rw [IsAll.of_ints b, List.map_cons]
theorem IsAll.strs : ∀ ns : List Str, IsAll K F (ns.map V.str) (ns.map PyData.str)
  | [] => .nil
  | _ :: r => .cons (.str _) (IsAll.strs r)
theorem IsAll.of_bools : ∀ {ns : List Bool} {vs : List V}, IsAll K F vs (ns.map PyData.bool) → vs = ns.map V.bl
  | [], _, h => by cases h; rfl
  | _ :: r, _, h => by
    cases h with
    | cons a b =>
      cases a
      rw [IsAll.of_bools b, List.map_cons]
end

/-! ### the heap's steps -/
def notM (M : Option (Addr × Addr)) (b : Addr) : Prop := ∀ p, M = some p → b ≠ p.1 ∧ b ≠ p.2
structure Stp (M : Option (Addr × Addr)) (H F H' F' : Hp) : Prop where
  keep : ∀ b o, notM M b → H b = some o → H' b = some o
  grow : Same F F'
  news : ∀ b, H b ≠ none → F b = none → F' b = none
  there : ∀ b, H b ≠ none → H' b ≠ none
def srcKV (c : Addr) (s : Src) : List (Key × V) := [(.inr "cells", .ref c), (.inr "left", .int s.left), (.inr "mixed", .int s.mixed), (.inr "turn", .int s.turn)]
structure Wok (M : Option (Addr × Addr)) (H F : Hp) (s : Src) : Prop where
  sub : Same F H
  src : ∀ a c, M = some (a, c) → a ≠ c ∧ H a = some (.dK (srcKV c s)) ∧ H c = some (.lst (s.cells.map V.int)) ∧ F a = none ∧ F c = none
section
variable {M : Option (Addr × Addr)} {H F H1 F1 H2 F2 : Hp} {s s1 : Src}
theorem Stp.refl : Stp M H F H F := ⟨fun _ _ _ h => h, Same.refl _, fun _ _ h => h, fun _ h => h⟩
theorem Stp.trans (a : Stp M H F H1 F1) (b : Stp M H1 F1 H2 F2) : Stp M H F H2 F2 :=
  ⟨fun c o n h => b.keep c o n (a.keep c o n h), a.grow.trans b.grow, fun c n h => b.news c (a.there c n) (a.news c n h), fun c n => b.there c (a.there c n)⟩
theorem Wok.has (w : Wok M H F s) {a c : Addr} (h : M = some (a, c)) : H a ≠ none ∧ H c ≠ none := by
  obtain ⟨_, h1, h2, _⟩ := w.src a c h
  exact ⟨by rw [h1]; simp, by rw [h2]; simp⟩
theorem notM_new (w : Wok M H F s) {p : Addr} (h : H p = none) : notM M p := fun q e => by
  obtain ⟨a, c⟩ := q
  obtain ⟨h1, h2⟩ := w.has e
  exact ⟨fun z => h1 (by rw [← show p = a from z]; exact h), fun z => h2 (by rw [← show p = c from z]; exact h)⟩
/-- a new object, not frozen -/
theorem Stp.alloc {p : Addr} {o : HO} (h : H p = none) : Stp M H F (upd H p o) F :=
  ⟨fun b u _ e => by rw [upd_ne (ne_of_none e h)]; exact e, Same.refl _, fun _ _ e => e, fun b e => by
    unfold upd; split
    · simp
    · exact e⟩
theorem Wok.alloc {p : Addr} {o : HO} (w : Wok M H F s) (h : H p = none) : Wok M (upd H p o) F s :=
  ⟨fun b u e => by rw [upd_ne (ne_of_none (w.sub b u e) h)]; exact w.sub b u e, fun a c e => by
    obtain ⟨h1, h2, h3, h4, h5⟩ := w.src a c e
    exact ⟨h1, by rw [upd_ne (ne_of_none h2 h)]; exact h2, by rw [upd_ne (ne_of_none h3 h)]; exact h3, h4, h5⟩⟩
/-- what is new is frozen -/
theorem Stp.freeze {p : Addr} {o : HO} (st : Stp M H F H1 F1) (h : H p = none) (hf : F p = none) (h1 : F1 p = none) : Stp M H F H1 (upd F1 p o) :=
  ⟨st.keep, fun b u e => by rw [upd_ne (ne_of_none (st.grow b u e) h1)]; exact st.grow b u e, fun b n e => by
    rw [upd_ne (show b ≠ p from fun z => n (by rw [z]; exact h))]
    exact st.news b n e, st.there⟩
theorem Wok.freeze {p : Addr} {o : HO} (w : Wok M H F s) (h : H p = some o) (hm : notM M p) : Wok M H (upd F p o) s :=
  ⟨fun b u e => by
    by_cases z : b = p
    · subst z; rw [upd_same] at e; rw [h]; exact e
    · rw [upd_ne z] at e; exact w.sub b u e, fun a c e => by
    obtain ⟨h1, h2, h3, h4, h5⟩ := w.src a c e
    obtain ⟨n1, n2⟩ := hm _ e
    exact ⟨h1, h2, h3, by rw [upd_ne (Ne.symm n1)]; exact h4, by rw [upd_ne (Ne.symm n2)]; exact h5⟩⟩
theorem free_of (w : Wok M H F s) {p : Addr} (h : H p = none) : F p = none := w.sub.free h
/-- a new object, frozen at once -/
theorem Stp.make {p : Addr} {o : HO} (w : Wok M H F s) (h : H p = none) : Stp M H F (upd H p o) (upd F p o) := Stp.freeze (Stp.alloc h) h (free_of w h) (free_of w h)
theorem Wok.make {p : Addr} {o : HO} (w : Wok M H F s) (h : H p = none) : Wok M (upd H p o) (upd F p o) s := (w.alloc h).freeze upd_same (notM_new w h)
end

/-! ### slots -/
structure Gh where
  M : Option (Addr × Addr)
  H0 : Hp
  F0 : Hp
def own : Sl → Bool
  | .l _ => true
  | .k _ => true
  | .t _ => true
  | _ => false
/-- what slot i holds -/
def SlOk (K : PySem.W.Frag) (G : Gh) (H F : Hp) (v : Option (Option V)) : Sl → Prop
  | .un => True
  | .d x => ∃ u, v = some (some u) ∧ Is K F u x
  | .l xs => ∃ a vs, v = some (some (.ref a)) ∧ H a = some (.lst vs) ∧ IsAll K F vs xs ∧ G.H0 a = none ∧ F a = none ∧ xs.length ≤ sizeLine
  | .k kvs => ∃ a ws, v = some (some (.ref a)) ∧ H a = some (.dK ws) ∧ IsKV K F ws kvs ∧ G.H0 a = none ∧ F a = none ∧ kvs.length ≤ sizeLine
  | .t kvs => ∃ a ws, v = some (some (.ref a)) ∧ H a = some (.dT ws) ∧ IsTV K F ws kvs ∧ G.H0 a = none ∧ F a = none ∧ kvs.length ≤ sizeLine
  | .src => ∃ a c, v = some (some (.ref a)) ∧ G.M = some (a, c)
  | .scr ns => ∃ a, v = some (some (.ref a)) ∧ SqL K F a (ns.map V.int)
  | .h xs => ∃ a vs, v = some (some (.ref a)) ∧ F a = some (.tup vs) ∧ IsAll K F vs xs ∧ xs.length ≤ sizeLine
structure Rel (K : PySem.W.Frag) (G : Gh) (σ : L2.St) (H F : Hp) (e : Sg) (s : Src) : Prop where
  w : Wok G.M H F s
  st : Stp G.M G.H0 G.F0 H F
  m0 : ∀ a c, G.M = some (a, c) → G.H0 a ≠ none ∧ G.H0 c ≠ none
  len : σ.length = e.length
  ok : ∀ (i : Nat) (y : Sl), e[i]? = some y → SlOk K G H F σ[i]? y
  inj : ∀ (i j : Nat) (y z : Sl) (a : Addr), e[i]? = some y → e[j]? = some z → own y = true → own z = true → σ[i]? = some (some (.ref a)) → σ[j]? = some (some (.ref a)) → i = j
section
variable {K : PySem.W.Frag} {G : Gh} {σ : L2.St} {H F H1 F1 : Hp} {e : Sg} {s s1 : Src}
theorem Rel.notM0 (r : Rel K G σ H F e s) {a : Addr} (h : G.H0 a = none) : notM G.M a := fun q hq => by
  obtain ⟨b, c⟩ := q
  obtain ⟨h1, h2⟩ := r.m0 b c hq
  exact ⟨fun z => h1 (by rw [← show a = b from z]; exact h), fun z => h2 (by rw [← show a = c from z]; exact h)⟩
theorem SlOk.step {y : Sl} {v : Option (Option V)} (h : SlOk K G H F v y) (nM : ∀ a, G.H0 a = none → notM G.M a) (st : Stp G.M H F H1 F1) : SlOk K G H1 F1 v y := by
  cases y with
  | un => trivial
  | d x =>
    obtain ⟨u, h1, h2⟩ := h
    exact ⟨u, h1, h2.mono st.grow⟩
  | l xs =>
    obtain ⟨a, vs, h1, h2, h3, h4, h5, h6⟩ := h
    exact ⟨a, vs, h1, st.keep a _ (nM a h4) h2, h3.mono st.grow, h4, st.news a (by rw [h2]; simp) h5, h6⟩
  | k kvs =>
    obtain ⟨a, vs, h1, h2, h3, h4, h5, h6⟩ := h
    exact ⟨a, vs, h1, st.keep a _ (nM a h4) h2, h3.mono st.grow, h4, st.news a (by rw [h2]; simp) h5, h6⟩
  | t kvs =>
    obtain ⟨a, vs, h1, h2, h3, h4, h5, h6⟩ := h
    exact ⟨a, vs, h1, st.keep a _ (nM a h4) h2, h3.mono st.grow, h4, st.news a (by rw [h2]; simp) h5, h6⟩
  | src => exact h
  | scr ns =>
    obtain ⟨a, h1, h2⟩ := h
    exact ⟨a, h1, st.grow.seq h2⟩
  | h xs =>
    obtain ⟨a, vs, h1, h2, h3, h4⟩ := h
    exact ⟨a, vs, h1, st.grow _ _ h2, h3.mono st.grow, h4⟩
theorem Rel.step (r : Rel K G σ H F e s) (st : Stp G.M H F H1 F1) (w : Wok G.M H1 F1 s1) : Rel K G σ H1 F1 e s1 :=
  ⟨w, r.st.trans st, r.m0, r.len, fun i y h => (r.ok i y h).step (fun a h => r.notM0 h) st, r.inj⟩
/-- a slot gets what stands still, or nothing, or the source -/
theorem Rel.put {i : Nat} {v : Option V} {y : Sl} (r : Rel K G σ H F e s) (hy : own y = false) (h : SlOk K G H F (some v) y) : Rel K G (σ.set i v) H F (e.set i y) s := by
  refine ⟨r.w, r.st, r.m0, by rw [List.length_set, List.length_set]; exact r.len, fun j z hj => ?_, fun j l z x a hj hl oz ox ej el => ?_⟩
  · by_cases q : i = j
    · subst q
      by_cases hi : i < e.length
      · rw [List.getElem?_set_self hi] at hj
        cases hj
        rw [List.getElem?_set_self (by rw [r.len]; exact hi)]
        exact h
      · rw [List.getElem?_eq_none (by rw [List.length_set]; omega)] at hj
        cases hj
    · rw [List.getElem?_set_ne q] at hj ⊢
      exact r.ok j z hj
  · have nj : i ≠ j := fun q => by
      subst q
      by_cases hi : i < e.length
      · rw [List.getElem?_set_self hi] at hj; cases hj; rw [hy] at oz; cases oz
      · rw [List.getElem?_eq_none (by rw [List.length_set]; omega)] at hj; cases hj
    have nl : i ≠ l := fun q => by
      subst q
      by_cases hi : i < e.length
      · rw [List.getElem?_set_self hi] at hl; cases hl; rw [hy] at ox; cases ox
      · rw [List.getElem?_eq_none (by rw [List.length_set]; omega)] at hl; cases hl
    rw [List.getElem?_set_ne nj] at hj ej
    rw [List.getElem?_set_ne nl] at hl el
    exact r.inj j l z x a hj hl oz ox ej el
/-- a slot is forgotten in the data alone -/
theorem Rel.forget {i : Nat} (r : Rel K G σ H F e s) : Rel K G σ H F (e.set i .un) s := by
  refine ⟨r.w, r.st, r.m0, by rw [List.length_set]; exact r.len, fun j z hj => ?_, fun j l z x a hj hl oz ox ej el => ?_⟩
  · by_cases q : i = j
    · subst q
      by_cases hi : i < e.length
      · rw [List.getElem?_set_self hi] at hj
        cases hj
        trivial
      · rw [List.getElem?_eq_none (by rw [List.length_set]; omega)] at hj
        cases hj
    · rw [List.getElem?_set_ne q] at hj
      exact r.ok j z hj
  · have nj : i ≠ j := fun q => by
      subst q
      by_cases hi : i < e.length
      · rw [List.getElem?_set_self hi] at hj; cases hj; cases oz
      · rw [List.getElem?_eq_none (by rw [List.length_set]; omega)] at hj; cases hj
    have nl : i ≠ l := fun q => by
      subst q
      by_cases hi : i < e.length
      · rw [List.getElem?_set_self hi] at hl; cases hl; cases ox
      · rw [List.getElem?_eq_none (by rw [List.length_set]; omega)] at hl; cases hl
    rw [List.getElem?_set_ne nj] at hj
    rw [List.getElem?_set_ne nl] at hl
    exact r.inj j l z x a hj hl oz ox ej el
/-- the address of an own slot -/
theorem Rel.ownAt (r : Rel K G σ H F e s) {i : Nat} {y : Sl} (h : e[i]? = some y) (o : own y = true) : ∃ a, σ[i]? = some (some (.ref a)) ∧ H a ≠ none ∧ G.H0 a = none ∧ F a = none := by
  have q := r.ok i y h
  cases y with
  | un => cases o
  | d x => cases o
  | src => cases o
  | scr _ => cases o
  | h _ => cases o
  | l xs =>
    obtain ⟨a, vs, h1, h2, h3, h4, h5, h6⟩ := q
    exact ⟨a, h1, by rw [h2]; simp, h4, h5⟩
  | k xs =>
    obtain ⟨a, vs, h1, h2, h3, h4, h5, h6⟩ := q
    exact ⟨a, h1, by rw [h2]; simp, h4, h5⟩
  | t xs =>
    obtain ⟨a, vs, h1, h2, h3, h4, h5, h6⟩ := q
    exact ⟨a, h1, by rw [h2]; simp, h4, h5⟩
/-- a slot gets an own object: at a, no other slot's -/
theorem Rel.putOwn {i : Nat} {a : Addr} {y : Sl} (r : Rel K G σ H F e s) (h : SlOk K G H F (some (some (.ref a))) y) (ha : ∀ (j : Nat) (z : Sl), e[j]? = some z → own z = true → j ≠ i → σ[j]? ≠ some (some (.ref a))) :
    Rel K G (σ.set i (some (.ref a))) H F (e.set i y) s := by
  refine ⟨r.w, r.st, r.m0, by rw [List.length_set, List.length_set]; exact r.len, fun j z hj => ?_, fun j l z x b hj hl oz ox ej el => ?_⟩
  · by_cases q : i = j
    · subst q
      by_cases hi : i < e.length
      · rw [List.getElem?_set_self hi] at hj
        cases hj
        rw [List.getElem?_set_self (by rw [r.len]; exact hi)]
        exact h
      · rw [List.getElem?_eq_none (by rw [List.length_set]; omega)] at hj
        cases hj
    · rw [List.getElem?_set_ne q] at hj ⊢
      exact r.ok j z hj
  · by_cases nj : i = j
    · by_cases nl : i = l
      · exact nj.symm.trans nl
      · exfalso
        subst nj
        rw [List.getElem?_set_ne nl] at hl el
        have hi : i < e.length := by
          have := (List.getElem?_eq_some_iff.mp hj).1
          rw [List.length_set] at this
          exact this
        rw [List.getElem?_set_self (by rw [r.len]; exact hi)] at ej
        cases ej
        exact ha l x hl ox (Ne.symm nl) el
    · by_cases nl : i = l
      · exfalso
        subst nl
        rw [List.getElem?_set_ne nj] at hj ej
        have hi : i < e.length := by
          have := (List.getElem?_eq_some_iff.mp hl).1
          rw [List.length_set] at this
          exact this
        rw [List.getElem?_set_self (by rw [r.len]; exact hi)] at el
        cases el
        exact ha j z hj oz (Ne.symm nj) ej
      · rw [List.getElem?_set_ne nj] at hj ej
        rw [List.getElem?_set_ne nl] at hl el
        exact r.inj j l z x b hj hl oz ox ej el
/-- an own object changes: at a, slot i's -/
theorem Rel.mut {i : Nat} {a : Addr} {o : HO} {y y' : Sl} (r : Rel K G σ H F e s) (hi : e[i]? = some y) (ho : own y = true) (ha : σ[i]? = some (some (.ref a)))
    (h : SlOk K G (upd H a o) F (some (some (.ref a))) y') : Rel K G σ (upd H a o) F (e.set i y') s := by
  obtain ⟨a', h1, h2, h3, h4⟩ := r.ownAt hi ho
  rw [ha] at h1
  cases h1
  have nM := r.notM0 h3
  have up : ∀ b, b ≠ a → upd H a o b = H b := fun b n => upd_ne n
  have w' : Wok G.M (upd H a o) F s := ⟨fun b u q => by
      have nb : b ≠ a := fun z => by rw [z, h4] at q; cases q
      rw [up b nb]
      exact r.w.sub b u q, fun b c q => by
      obtain ⟨q1, q2, q3, q4, q5⟩ := r.w.src b c q
      obtain ⟨n1, n2⟩ := nM _ q
      exact ⟨q1, by rw [up b (Ne.symm n1)]; exact q2, by rw [up c (Ne.symm n2)]; exact q3, q4, q5⟩⟩
  have st' : Stp G.M G.H0 G.F0 (upd H a o) F := ⟨fun b u n q => by
      have nb : b ≠ a := fun z => by rw [z, h3] at q; cases q
      rw [up b nb]
      exact r.st.keep b u n q, r.st.grow, r.st.news, fun b n => by
      have nb : b ≠ a := fun z => n (by rw [z]; exact h3)
      rw [up b nb]
      exact r.st.there b n⟩
  have hil : i < e.length := (List.getElem?_eq_some_iff.mp hi).1
  refine ⟨w', st', r.m0, by rw [List.length_set]; exact r.len, fun j z hj => ?_, fun j l z x b hj hl oz ox ej el => ?_⟩
  · by_cases q : i = j
    · subst q
      rw [List.getElem?_set_self hil] at hj
      cases hj
      rw [ha]
      exact h
    · rw [List.getElem?_set_ne q] at hj
      have k := r.ok j z hj
      have ne : own z = true → σ[j]? ≠ some (some (.ref a)) := fun oz ej => q (r.inj i j y z a hi hj ho oz ha ej)
      cases z with
      | un => trivial
      | d x => exact k
      | src => exact k
      | scr _ => exact k
      | h _ => exact k
      | l xs =>
        obtain ⟨b, vs, k1, k2, k3⟩ := k
        exact ⟨b, vs, k1, by rw [up b (fun z => ne rfl (by rw [k1, z]))]; exact k2, k3⟩
      | k xs =>
        obtain ⟨b, vs, k1, k2, k3⟩ := k
        exact ⟨b, vs, k1, by rw [up b (fun z => ne rfl (by rw [k1, z]))]; exact k2, k3⟩
      | t xs =>
        obtain ⟨b, vs, k1, k2, k3⟩ := k
        exact ⟨b, vs, k1, by rw [up b (fun z => ne rfl (by rw [k1, z]))]; exact k2, k3⟩
  · have old : ∀ (n : Nat) (u : Sl), (e.set i y')[n]? = some u → own u = true → ∃ u0, e[n]? = some u0 ∧ own u0 = true := fun n u hn hu => by
      by_cases q : i = n
      · subst q
        exact ⟨y, hi, ho⟩
      · rw [List.getElem?_set_ne q] at hn
        exact ⟨u, hn, hu⟩
    obtain ⟨z0, hz0, oz0⟩ := old j z hj oz
    obtain ⟨x0, hx0, ox0⟩ := old l x hl ox
    exact r.inj j l z0 x0 b hz0 hx0 oz0 ox0 ej el
end
end Pt

/-! Pt B: readings by data; expressions. -/
namespace Pt
open PySem PySem.Spec PyProof.Rows L2

def Rs.bind {α β : Type} (m : Rs α) (f : α → Src → Rs β) : Rs β :=
  match m with
  | .ok a s => f a s
  | .ex c x s => .ex c x s
  | .no => .no
def Rs.lift {α : Type} (o : Option α) (s : Src) : Rs α :=
  match o with
  | some a => .ok a s
  | none => .no

/-- an exception as data tells it -/
def Exc (X : Cx) (c : Str) (x : List (Str × D)) (cls : Value) (dd : Option Addr) (H F : Hp) : Prop :=
  ∃ (C d : Addr) (vs : List (Str × V)), X.mg c = some (.ref C) ∧ cls = .ref C ∧ dd = some d ∧ H d = some (.xd vs) ∧ Paired (fun (p : Str × V) (q : Str × D) => p.1 = q.1 ∧ Is X.K F p.2 q.2) vs x

/-- R holds of what comes; W of what is raised -/
def Po (X : Cx) (W : WX) (G : Gh) (σ : L2.St) (H F : Hp) {α : Type} (R : α → Src → Hp → Hp → Prop) : Rs α → Prop
  | .ok a s => ∀ H' F', Stp G.M H F H' F' → Wok G.M H' F' s → R a s H' F'
  | .ex c x s => ∀ cls dd H' F', Stp G.M H F H' F' → Wok G.M H' F' s → Exc X c x cls dd H' F' → W cls dd σ H'
  | .no => False
section
variable {X : Cx} {W : WX} {G : Gh} {σ : L2.St} {H F H1 F1 : Hp} {α β : Type}
theorem Po.later {R : α → Src → Hp → Hp → Prop} {m : Rs α} (h : Po X W G σ H F R m) (st : Stp G.M H F H1 F1) : Po X W G σ H1 F1 R m := by
  cases m with
  | ok a s => exact fun H' F' q w => h H' F' (st.trans q) w
  | ex c x s => exact fun cls dd H' F' q w e => h cls dd H' F' (st.trans q) w e
  | no => exact h
theorem Po.bind {R : β → Src → Hp → Hp → Prop} {m : Rs α} {f : α → Src → Rs β} (h : Po X W G σ H F R (m.bind f)) : Po X W G σ H F (fun a s H1 F1 => Po X W G σ H1 F1 R (f a s)) m := by
  cases m with
  | ok a s => exact fun H' F' q w => Po.later h q
  | ex c x s => exact h
  | no => exact h
theorem Po.mono {R R' : α → Src → Hp → Hp → Prop} {m : Rs α} (h : Po X W G σ H F R m) (k : ∀ a s H' F', Stp G.M H F H' F' → Wok G.M H' F' s → R a s H' F' → R' a s H' F') : Po X W G σ H F R' m := by
  cases m with
  | ok a s => exact fun H' F' q w => k a s H' F' q w (h H' F' q w)
  | ex c x s => exact h
  | no => exact h
theorem Po.lift {R : α → Src → Hp → Hp → Prop} {o : Option α} {s : Src} (h : Po X W G σ H F R (Rs.lift o s)) : ∃ a, o = some a ∧ ∀ H' F', Stp G.M H F H' F' → Wok G.M H' F' s → R a s H' F' := by
  cases o with
  | none => exact h.elim
  | some a => exact ⟨a, rfl, h⟩
end

/-! ### readings -/
abbrev Jt (β α : Type) := Option (Addr × Addr) → Hp → Hp → Hp → Hp → β → α → Prop
def rG (X : Cx) (W : WX) {α β : Type} (J : Jt β α) (m : Mn α) : L2.St → Hp → (β → Hp → Prop) → Prop := fun σ H Q =>
  ∃ G e s F, Rel X.K G σ H F e s ∧ Po X W G σ H F (fun a _ H' F' => ∀ b, J G.M H F H' F' b a → Q b H') (m e s)
def JD (K : PySem.W.Frag) : Jt V D := fun _ _ _ _ F' v d => Is K F' v d
def JB : Jt Bool Bool := fun _ _ _ _ _ b a => b = a
def IsAr (K : PySem.W.Frag) (M : Option (Addr × Addr)) (F : Hp) (v : V) : Ar → Prop
  | .d x => Is K F v x
  | .src => ∃ a c, v = .ref a ∧ M = some (a, c)
  | .scr ns => ∃ a, v = .ref a ∧ SqL K F a (ns.map V.int)
def IsArs (K : PySem.W.Frag) (M : Option (Addr × Addr)) (F : Hp) (vs : List V) (as : List Ar) : Prop := Paired (fun v a => IsAr K M F v a) vs as
def JA (K : PySem.W.Frag) : Jt (List V) (List Ar) := fun M _ _ _ F' vs as => IsArs K M F' vs as
def JDs (K : PySem.W.Frag) : Jt (List V) (List D) := fun _ _ _ _ F' vs ds => IsAll K F' vs ds
/-- a new list, not frozen yet -/
def JL (K : PySem.W.Frag) : Jt V (List D) := fun _ H _ H' F' v ds => ∃ a vs, v = .ref a ∧ H a = none ∧ F' a = none ∧ H' a = some (.lst vs) ∧ IsAll K F' vs ds ∧ ds.length ≤ sizeLine
def JK (K : PySem.W.Frag) : Jt V (List (D × D)) := fun _ H _ H' F' v kvs => ∃ a ws, v = .ref a ∧ H a = none ∧ F' a = none ∧ H' a = some (.dK ws) ∧ IsKV K F' ws kvs ∧ kvs.length ≤ sizeLine
def JT (K : PySem.W.Frag) : Jt V (List (D × D)) := fun _ H _ H' F' v kvs => ∃ a ws, v = .ref a ∧ H a = none ∧ F' a = none ∧ H' a = some (.dT ws) ∧ IsTV K F' ws kvs ∧ kvs.length ≤ sizeLine
/-- v shows d: what stands still, or a list, a dict as it stands now -/
def IsV (K : PySem.W.Frag) (H F : Hp) (v : V) (d : D) : Prop := Is K F v d ∨
  (∃ a vs ds, v = .ref a ∧ d = .list ds ∧ H a = some (.lst vs) ∧ IsAll K F vs ds ∧ ds.length ≤ sizeLine) ∨
  (∃ a ws kvs, v = .ref a ∧ d = .dict kvs ∧ H a = some (.dK ws) ∧ IsKV K F ws kvs) ∨
  (∃ a ws kvs, v = .ref a ∧ d = .dict ((.none, .none) :: kvs) ∧ H a = some (.dT ws) ∧ IsTV K F ws kvs)
def JV (K : PySem.W.Frag) : Jt V D := fun M _ _ H' F' v d => ∀ H2 F2, Stp M H' F' H2 F2 → Same F2 H2 → IsV K H2 F2 v d
/-- an expression is worth m -/
def DV (X : Cx) (W : WX) (e : Expr) (m : Mn D) : Prop := PE X e (rG X W (JV X.K) m)
def DE (X : Cx) (W : WX) (e : Expr) (m : Mn D) : Prop := PE X e (rG X W (JD X.K) m)
def DT (X : Cx) (W : WX) (e : Expr) (m : Mn Bool) : Prop := PT X e (rG X W JB m)
def DA (X : Cx) (W : WX) (es : List Expr) (m : Mn (List Ar)) : Prop := PA X es (rG X W (JA X.K) m)
def DDs (X : Cx) (W : WX) (es : List Expr) (m : Mn (List D)) : Prop := PA X es (rG X W (JDs X.K) m)
def DL (X : Cx) (W : WX) (e : Expr) (m : Mn (List D)) : Prop := PE X e (rG X W (JL X.K) m)
def DK (X : Cx) (W : WX) (e : Expr) (m : Mn (List (D × D))) : Prop := PE X e (rG X W (JK X.K) m)
def DTu (X : Cx) (W : WX) (e : Expr) (m : Mn (List (D × D))) : Prop := PE X e (rG X W (JT X.K) m)

section
variable {X : Cx} {W : WX} {G : Gh}
theorem pe_imp {e : Expr} {t t' : TE} (h : PE X e t) (k : ∀ σ H Q, t' σ H Q → t σ H Q) : PE X e t' := ⟨fun pins s σ H Q I q => h.run pins s σ H Q I (k σ H Q q)⟩
theorem pt_imp {e : Expr} {t t' : TT} (h : PT X e t) (k : ∀ σ H Q, t' σ H Q → t σ H Q) : PT X e t' := ⟨fun pins s σ H Q I q => h.run pins s σ H Q I (k σ H Q q)⟩
theorem pa_imp {e : List Expr} {t t' : TA} (h : PA X e t) (k : ∀ σ H Q, t' σ H Q → t σ H Q) : PA X e t' := ⟨fun pos pins s σ H Q I q => h.run pos pins s σ H Q I (k σ H Q q)⟩
theorem ps_imp {e : Stmt} {t t' : TS} (h : PS X e t) (k : ∀ D σ H, t' D σ H → t D σ H) : PS X e t' := ⟨fun pins s σ H D I q => h.run pins s σ H D I (k D σ H q)⟩
theorem pss_imp {e : List Stmt} {t t' : TS} (h : PSs X e t) (k : ∀ D σ H, t' D σ H → t D σ H) : PSs X e t' := ⟨fun pins s σ H D I q => h.run pins s σ H D I (k D σ H q)⟩

/-- first m1, then the rest -/
theorem rG_seq {α β γ : Type} {J1 : Jt β α} {m1 : Mn α} {f : α → Src → Rs γ} {σ : L2.St} {H F : Hp} {e : Sg} {s : Src} {R : γ → Src → Hp → Hp → Prop} {Q : β → Hp → Prop}
    (r : Rel X.K G σ H F e s) (h : Po X W G σ H F R ((m1 e s).bind f))
    (k : ∀ a s1 H1 F1 b, Rel X.K G σ H1 F1 e s1 → Stp G.M H F H1 F1 → Wok G.M H1 F1 s1 → J1 G.M H F H1 F1 b a → Po X W G σ H1 F1 R (f a s1) → Q b H1) : rG X W J1 m1 σ H Q :=
  ⟨G, e, s, F, r, h.bind.mono fun a s1 H1 F1 st w p b j => k a s1 H1 F1 b (r.step st w) st w j p⟩

/-! ### names and constants -/
def mVar (i : Nat) : Mn D := fun e s => match e[i]? with
  | some (.d x) => .ok x s
  | some (.h xs) => .ok (.tuple xs) s
  | _ => .no
def mC (d : D) : Mn D := fun _ s => .ok d s
theorem de_var (i : Nat) {x : Str} {pos : Pos} (hN : X.N[i]? = some x := by rfl) (hv : Vis X.env.scope x := by first | exact Or.inl rfl | exact Or.inr (Or.inl rfl) | exact Or.inr (Or.inr rfl)) (hd : (x == ("__debug__" : Str)) = false := by decide)
    (hcd : (x == ("__classdict__" : Str)) = false := by decide) : DE X W (.Name x pos) (mVar i) := 
  pe_imp (pe_var hN hv hd hcd) fun σ H Q ⟨G, e, s, F, r, h⟩ => by
    unfold mVar at h
    cases q : e[i]? with
    | none => rw [q] at h; exact h.elim
    | some y =>
      rw [q] at h
      cases y with
      | d x =>
        obtain ⟨u, h1, h2⟩ := r.ok i _ q
        exact ⟨u, h1, h H F Stp.refl r.w u h2⟩
      | h xs =>
        obtain ⟨a, vs, h1, h2, h3, h4⟩ := r.ok i _ q
        exact ⟨_, h1, h H F Stp.refl r.w _ (.tup (.inl (.inl h2)) h3 h4)⟩
      | un => exact h.elim
      | l _ => exact h.elim
      | k _ => exact h.elim
      | t _ => exact h.elim
      | src => exact h.elim
      | scr _ => exact h.elim
theorem de_c {e : Expr} {v : V} {d : D} (hp : PE X e (tC v)) (hi : ∀ F, Is X.K F v d) : DE X W e (mC d) := 
  pe_imp hp fun σ H Q ⟨G, e, s, F, r, h⟩ => h H F Stp.refl r.w v (hi F)
theorem de_int {i : Int} {j : Nat} {pos : Pos} : DE X W (.Constant (.int i) j pos) (mC (.int i)) := de_c pe_int fun _ => .int _
theorem de_bl {i : Bool} {j : Nat} {pos : Pos} : DE X W (.Constant (.bool i) j pos) (mC (.bool i)) := de_c pe_bl fun _ => .bl _
theorem de_non {j : Nat} {pos : Pos} : DE X W (.Constant .none j pos) (mC .none) := de_c pe_non fun _ => .non
theorem de_str {i : Str} {j : Nat} {pos : Pos} : DE X W (.Constant (.str i) j pos) (mC (.str i)) := de_c pe_str fun _ => .str _
/-- a module's constant -/
theorem de_glob {x : Str} {v : V} {u : Value} {d : D} {pos : Pos} (hm : X.mg x = some u) (r : RelV v u) (hi : ∀ F, Is X.K F v d) (hg : Gl X x := by rfl) (hd : (x == ("__debug__" : Str)) = false := by decide) : DE X W (.Name x pos) (mC d) :=
  de_c (pe_glob hg hm r hd) hi

/-! ### what is looked at -/
theorem IsV.list {K : PySem.W.Frag} {H F : Hp} {v : V} {ds : List D} (h : IsV K H F v (.list ds)) (sub : Same F H) : ∃ a vs, v = .ref a ∧ H a = some (.lst vs) ∧ IsAll K F vs ds ∧ ds.length ≤ sizeLine := by
  rcases h with h | ⟨a, vs, es, e1, e2, h⟩ | ⟨a, ws, kvs, e1, e2, h⟩ | ⟨a, ws, kvs, e1, e2, h⟩
  · cases h with
    | lst h1 h2 h3 => exact ⟨_, _, rfl, sub _ _ h1, h2, h3⟩
  · cases e2
    exact ⟨a, vs, e1, h⟩
  · cases e2
  · cases e2
theorem IsV.dict {K : PySem.W.Frag} {H F : Hp} {v : V} {ds : List (D × D)} (h : IsV K H F v (.dict ds)) (sub : Same F H) : (∃ a ws, v = .ref a ∧ H a = some (.dK ws) ∧ IsKV K F ws ds) ∨ (∃ a ws kvs, v = .ref a ∧ ds = (.none, .none) :: kvs ∧ H a = some (.dT ws) ∧ IsTV K F ws kvs) := by
  rcases h with h | ⟨a, vs, es, e1, e2, h⟩ | ⟨a, ws, kvs, e1, e2, h⟩ | ⟨a, ws, kvs, e1, e2, h⟩
  · cases h with
    | dct h1 h2 => exact .inl ⟨_, _, rfl, sub _ _ h1, h2⟩
    | dtt h1 h2 => exact .inr ⟨_, _, _, rfl, rfl, sub _ _ h1, h2⟩
  · cases e2
  · cases e2
    exact .inl ⟨a, ws, e1, h⟩
  · cases e2
    exact .inr ⟨a, ws, kvs, e1, rfl, h⟩
/-- what is neither a list nor a dict stands still -/
theorem IsV.still {K : PySem.W.Frag} {H F : Hp} {v : V} {d : D} (h : IsV K H F v d) (h1 : ∀ ds, d ≠ .list ds) (h2 : ∀ ds, d ≠ .dict ds) : Is K F v d := by
  rcases h with h | ⟨a, vs, es, e1, e2, h⟩ | ⟨a, ws, kvs, e1, e2, h⟩ | ⟨a, ws, kvs, e1, e2, h⟩
  · exact h
  · exact absurd e2 (h1 _)
  · exact absurd e2 (h2 _)
  · exact absurd e2 (h2 _)
theorem IsV.int {K : PySem.W.Frag} {H F : Hp} {v : V} {i : Int} (h : IsV K H F v (.int i)) : v = .int i := by
  have q := h.still (fun _ z => nomatch z) (fun _ z => nomatch z)
  cases q
  rfl
theorem IsV.bool {K : PySem.W.Frag} {H F : Hp} {v : V} {i : Bool} (h : IsV K H F v (.bool i)) : v = .bl i := by
  have q := h.still (fun _ z => nomatch z) (fun _ z => nomatch z)
  cases q
  rfl
theorem IsV.str {K : PySem.W.Frag} {H F : Hp} {v : V} {i : Str} (h : IsV K H F v (.str i)) : v = .str i := by
  have q := h.still (fun _ z => nomatch z) (fun _ z => nomatch z)
  cases q
  rfl
theorem IsV.none {K : PySem.W.Frag} {H F : Hp} {v : V} (h : IsV K H F v .none) : v = .non := by
  have q := h.still (fun _ z => nomatch z) (fun _ z => nomatch z)
  cases q
  rfl
theorem IsV.tuple {K : PySem.W.Frag} {H F : Hp} {v : V} {ds : List D} (h : IsV K H F v (.tuple ds)) : ∃ a vs, v = .ref a ∧ SqT K F a vs ∧ IsAll K F vs ds ∧ ds.length ≤ sizeLine := by
  have q := h.still (fun _ z => nomatch z) (fun _ z => nomatch z)
  cases q with
  | tup h1 h2 h3 => exact ⟨_, _, rfl, h1, h2, h3⟩
theorem dv_of {e : Expr} {m : Mn D} (h : DE X W e m) : DV X W e m := pe_imp h fun σ H Q ⟨G, e, s, F, r, p⟩ => ⟨G, e, s, F, r, p.mono fun a s1 H1 F1 st w q b j => q b fun H2 F2 st2 _ => .inl (Is.mono st2.grow j)⟩
/-- an own list, as it stands -/
def mOwn (i : Nat) : Mn D := fun e s => match e[i]? with
  | some (.l xs) => .ok (.list xs) s
  | some (.k kvs) => .ok (.dict kvs) s
  | some (.t kvs) => .ok (.dict ((.none, .none) :: kvs)) s
  | _ => .no
theorem dv_own (i : Nat) {x : Str} {pos : Pos} (hN : X.N[i]? = some x := by rfl) (hv : Vis X.env.scope x := by first | exact Or.inl rfl | exact Or.inr (Or.inl rfl) | exact Or.inr (Or.inr rfl)) (hd : (x == ("__debug__" : Str)) = false := by decide)
    (hcd : (x == ("__classdict__" : Str)) = false := by decide) : DV X W (.Name x pos) (mOwn i) := 
  pe_imp (pe_var hN hv hd hcd) fun σ H Q ⟨G, e, s, F, r, h⟩ => by
    unfold mOwn at h
    cases q : e[i]? with
    | none => rw [q] at h; exact h.elim
    | some y =>
      rw [q] at h
      cases y with
      | l xs =>
        obtain ⟨a, vs, h1, h2, h3, h4, h5, h6⟩ := r.ok i _ q
        exact ⟨_, h1, h H F Stp.refl r.w _ fun H2 F2 st _ => .inr (.inl ⟨a, vs, xs, rfl, rfl, st.keep a _ (r.notM0 h4) h2, IsAll.mono st.grow h3, h6⟩)⟩
      | k xs =>
        obtain ⟨a, vs, h1, h2, h3, h4, h5, h6⟩ := r.ok i _ q
        exact ⟨_, h1, h H F Stp.refl r.w _ fun H2 F2 st _ => .inr (.inr (.inl ⟨a, vs, xs, rfl, rfl, st.keep a _ (r.notM0 h4) h2, IsKV.mono st.grow h3⟩))⟩
      | t xs =>
        obtain ⟨a, vs, h1, h2, h3, h4, h5, h6⟩ := r.ok i _ q
        exact ⟨_, h1, h H F Stp.refl r.w _ fun H2 F2 st _ => .inr (.inr (.inr ⟨a, vs, xs, rfl, rfl, st.keep a _ (r.notM0 h4) h2, IsTV.mono st.grow h3⟩))⟩
      | un => exact h.elim
      | d _ => exact h.elim
      | src => exact h.elim
      | scr _ => exact h.elim
      | h _ => exact h.elim

/-! ### operators -/
/-- the heap only grows -/
structure Al (H F H' F' : Hp) : Prop where
  keep : Same H H'
  grow : Same F F'
  sub : Same F' H'
  news : ∀ b, H b ≠ none → F b = none → F' b = none
theorem Al.refl {H F : Hp} (h : Same F H) : Al H F H F := ⟨Same.refl _, Same.refl _, h, fun _ _ e => e⟩
theorem same_upd {H : Hp} {p : Addr} {o : HO} (h : H p = none) : Same H (upd H p o) := fun b x e => by
  rw [upd_ne (ne_of_none e h)]
  exact e
theorem Al.make {H F : Hp} {p : Addr} {o : HO} (h : Same F H) (n : H p = none) : Al H F (upd H p o) (upd F p o) :=
  ⟨same_upd n, same_upd (h.free n), fun b u e => by
    by_cases z : b = p
    · subst z; rw [upd_same] at e ⊢; exact e
    · rw [upd_ne z] at e ⊢; exact h b u e, fun b nb e => by
    rw [upd_ne (show b ≠ p from fun z => nb (by rw [z]; exact n))]
    exact e⟩
theorem Al.trans {H F H1 F1 H2 F2 : Hp} (a : Al H F H1 F1) (b : Al H1 F1 H2 F2) : Al H F H2 F2 :=
  ⟨a.keep.trans b.keep, a.grow.trans b.grow, b.sub, fun c n e => b.news c (by
    cases q : H c with
    | none => exact absurd q n
    | some o => rw [a.keep c o q]; simp) (a.news c n e)⟩
theorem Al.stp {M : Option (Addr × Addr)} {H F H1 F1 : Hp} (a : Al H F H1 F1) : Stp M H F H1 F1 := ⟨fun b o _ h => a.keep b o h, a.grow, a.news, fun b n => by
    cases q : H b with
    | none => exact absurd q n
    | some o => rw [a.keep b o q]; simp⟩
theorem Al.wok {M : Option (Addr × Addr)} {H F H1 F1 : Hp} {s : Src} (a : Al H F H1 F1) (w : Wok M H F s) : Wok M H1 F1 s := ⟨a.sub, fun b c e => by
    obtain ⟨h1, h2, h3, h4, h5⟩ := w.src b c e
    exact ⟨h1, a.keep _ _ h2, a.keep _ _ h3, a.news b (by rw [h2]; simp) h4, a.news c (by rw [h3]; simp) h5⟩⟩

def rO2 (K : PySem.W.Frag) (f : D → D → Option D) : R2 := fun x y H Q => ∃ F a b r, Same F H ∧ IsV K H F x a ∧ IsV K H F y b ∧ f a b = some r ∧ ∀ v H' F', Al H F H' F' → Is K F' v r → Q v H'
def rO1 (K : PySem.W.Frag) (f : D → Option D) : V → Hp → VK → Prop := fun x H Q => ∃ F a r, Same F H ∧ IsV K H F x a ∧ f a = some r ∧ ∀ v H' F', Al H F H' F' → Is K F' v r → Q v H'
def mBin (f : D → D → Option D) (ma mb : Mn D) : Mn D := fun e s => (ma e s).bind fun a s1 => (mb e s1).bind fun b s2 => Rs.lift (f a b) s2
def mUn (f : D → Option D) (ma : Mn D) : Mn D := fun e s => (ma e s).bind fun a s1 => Rs.lift (f a) s1
theorem two_of {f : D → D → Option D} {r : R2} {ma mb : Mn D} (hr : ∀ x y H Q, rO2 X.K f x y H Q → r x y H Q) {σ : L2.St} {H : Hp} {Q : VK} (h : rG X W (JD X.K) (mBin f ma mb) σ H Q) :
    tOp r (rG X W (JV X.K) ma) (rG X W (JV X.K) mb) σ H Q := by
  obtain ⟨G, e, s, F, rl, p⟩ := h
  refine rG_seq rl p fun a s1 H1 F1 x rl1 st1 w1 jx p1 => rG_seq rl1 p1 fun b s2 H2 F2 y rl2 st2 w2 jy p2 => hr x y H2 Q ?_
  obtain ⟨c, e1, q⟩ := p2.lift
  exact ⟨F2, a, b, c, w2.sub, jx H2 F2 st2 w2.sub, jy H2 F2 Stp.refl w2.sub, e1, fun v H' F' al i => q H' F' al.stp (al.wok w2) v i⟩
theorem de_bin {f : D → D → Option D} {op : Operator} {a b : Expr} {ma mb : Mn D} {pos : Pos} (ho : OpR X (binaryOp op) (rO2 X.K f)) (ha : DV X W a ma) (hb : DV X W b mb) : DE X W (.BinOp a op b pos) (mBin f ma mb) := 
  pe_imp (pe_op ho ha hb) fun σ H Q h => two_of (fun _ _ _ _ q => q) h
theorem de_un {f : D → Option D} {op : UnaryOp} {a : Expr} {ma : Mn D} {pos : Pos} (ho : UnR X (unaryOp op) (rO1 X.K f)) (ha : DV X W a ma) : DE X W (.UnaryOp op a pos) (mUn f ma) := 
  pe_imp (pe_un ho ha) fun σ H Q ⟨G, e, s, F, rl, p⟩ => by
    refine rG_seq rl p fun a s1 H1 F1 x rl1 st1 w1 jx p1 => ?_
    obtain ⟨c, e1, q⟩ := p1.lift
    exact ⟨F1, a, c, w1.sub, jx H1 F1 Stp.refl w1.sub, e1, fun v H' F' al i => q H' F' al.stp (al.wok w1) v i⟩
theorem de_cmp {f : D → D → Option D} {op : CmpOp} {a b : Expr} {ma mb : Mn D} {pos : Pos} (ho : OpR X (compareOp op) (rO2 X.K f)) (ha : DV X W a ma) (hb : DV X W b mb) (hm : behindInMarks op b = false := by first | exact nomark _ | rfl) : DE X W (.Compare a [op] [b] pos) (mBin f ma mb) := 
  pe_imp (pe_cmpR ho ha hb hm) fun σ H Q h => two_of (fun _ _ _ _ q => q) h
/-- a comparison as a test -/
def tst (d : D) : Option Bool := match d with
  | .bool b => some b
  | _ => none
def mTst (m : Mn D) : Mn Bool := fun e s => (m e s).bind fun d s1 => Rs.lift (tst d) s1
theorem tst_some {d : D} {b : Bool} (h : tst d = some b) : d = .bool b := by
  cases d with
  | bool c => exact congrArg _ (Option.some.inj h)
  | _ => cases h
theorem test_of {m : Mn D} {σ : L2.St} {H : Hp} {Q : Bool → Hp → Prop} (h : rG X W JB (mTst m) σ H Q) : rG X W (JD X.K) m σ H fun x H' => ∃ k, x = .bl k ∧ Q k H' := by
  obtain ⟨G, e, s, F, rl, p⟩ := h
  refine rG_seq rl p fun a s1 H1 F1 x rl1 st1 w1 jx p1 => ?_
  obtain ⟨b, e1, q⟩ := p1.lift
  rw [tst_some e1] at jx
  cases jx
  exact ⟨b, rfl, q H1 F1 Stp.refl w1 b rfl⟩
theorem dt_cmp {f : D → D → Option D} {op : CmpOp} {a b : Expr} {ma mb : Mn D} {pos : Pos} (ho : OpR X (compareOp op) (rO2 X.K f)) (ha : DV X W a ma) (hb : DV X W b mb) (hm : behindInMarks op b = false := by first | exact nomark _ | rfl) :
    DT X W (.Compare a [op] [b] pos) (mTst (mBin f ma mb)) := 
  pt_imp (pt_cmpR ho ha hb hm) fun σ H Q h => by
    have h2 := test_of h
    exact two_of (fun _ _ _ _ q => q) h2
theorem dt_val {e : Expr} {m : Mn D} (he : DE X W e m) (hp : ∀ whole, isTrue e X.env whole = (do let v ← whole; standAt e.pos; holding [v] (truthy v)) := by intro _; rfl) : DT X W e (mTst m) := 
  pt_imp (pt_val he hp) fun σ H Q h => test_of h
/-! ### and, or, not, if .. else -/
def mAndT (a b : Mn Bool) : Mn Bool := fun e s => (a e s).bind fun c s1 => if c then b e s1 else .ok false s1
def mOrT (a b : Mn Bool) : Mn Bool := fun e s => (a e s).bind fun c s1 => if c then .ok true s1 else b e s1
def mNotT (a : Mn Bool) : Mn Bool := fun e s => (a e s).bind fun c s1 => .ok (!c) s1
/-- and, or within, whatever stands around -/
def DW (X : Cx) (W : WX) (e : Expr) (m : Mn Bool) : Prop := PW X e (rG X W JB m)
theorem pw_imp {e : Expr} {t t' : TT} (h : PW X e t) (k : ∀ σ H Q, t' σ H Q → t σ H Q) : PW X e t' := ⟨fun whole pins s σ H Q I q => h.run whole pins s σ H Q I (k σ H Q q)⟩
theorem dw_and1 {a : Expr} {m : Mn Bool} {pos : Pos} (h : DT X W a m) : DW X W (.BoolOp .And [a] pos) m := pw_and1 h
theorem dw_or1 {a : Expr} {m : Mn Bool} {pos : Pos} (h : DT X W a m) : DW X W (.BoolOp .Or [a] pos) m := pw_or1 h
theorem dw_and {a b : Expr} {rest : List Expr} {ma mb : Mn Bool} {pos : Pos} (ha : DT X W a ma) (hb : DW X W (.BoolOp .And (b :: rest) pos) mb) : DW X W (.BoolOp .And (a :: b :: rest) pos) (mAndT ma mb) := 
  pw_imp (pw_and ha hb) fun σ H Q ⟨G, e, s, F, rl, p⟩ => rG_seq rl p fun c s1 H1 F1 k rl1 st1 w1 jk p1 => by
    have jk : k = c := jk
    subst jk
    cases k with
    | true => exact ⟨G, e, s1, F1, rl1, p1⟩
    | false => exact p1 H1 F1 Stp.refl w1 false rfl
theorem dw_or {a b : Expr} {rest : List Expr} {ma mb : Mn Bool} {pos : Pos} (ha : DT X W a ma) (hb : DW X W (.BoolOp .Or (b :: rest) pos) mb) : DW X W (.BoolOp .Or (a :: b :: rest) pos) (mOrT ma mb) := 
  pw_imp (pw_or ha hb) fun σ H Q ⟨G, e, s, F, rl, p⟩ => rG_seq rl p fun c s1 H1 F1 k rl1 st1 w1 jk p1 => by
    have jk : k = c := jk
    subst jk
    cases k with
    | true => exact p1 H1 F1 Stp.refl w1 true rfl
    | false => exact ⟨G, e, s1, F1, rl1, p1⟩
theorem dt_w {e : Expr} {m : Mn Bool} (h : DW X W e m) : DT X W e m := h.pt
theorem dt_not {a : Expr} {m : Mn Bool} {pos : Pos} (h : DT X W a m) : DT X W (.UnaryOp .Not a pos) (mNotT m) := 
  pt_imp (pt_not h) fun σ H Q ⟨G, e, s, F, rl, p⟩ => rG_seq rl p fun c s1 H1 F1 k rl1 st1 w1 jk p1 => by
    have jk : k = c := jk
    subst jk
    exact p1 H1 F1 Stp.refl w1 _ rfl
/-- as values, all but the last one True or False -/
def mAnd (a : Mn D) (b : Mn D) : Mn D := fun e s => (mTst a e s).bind fun c s1 => if c then b e s1 else .ok (.bool false) s1
def mOr (a : Mn D) (b : Mn D) : Mn D := fun e s => (mTst a e s).bind fun c s1 => if c then .ok (.bool true) s1 else b e s1
def mNot (a : Mn D) : Mn D := fun e s => (mTst a e s).bind fun c s1 => .ok (.bool (!c)) s1
theorem tst_seq {m : Mn D} {γ : Type} {f : Bool → Src → Rs γ} {σ : L2.St} {H F : Hp} {e : Sg} {s : Src} {R : γ → Src → Hp → Hp → Prop} {Q : V → Hp → Prop}
    (r : Rel X.K G σ H F e s) (h : Po X W G σ H F R ((mTst m e s).bind f))
    (k : ∀ c s1 H1 F1, Rel X.K G σ H1 F1 e s1 → Stp G.M H F H1 F1 → Wok G.M H1 F1 s1 → Po X W G σ H1 F1 R (f c s1) → Q (.bl c) H1) : rG X W (JD X.K) m σ H Q := by
  have h2 : Po X W G σ H F R ((m e s).bind fun d s1 => (Rs.lift (tst d) s1).bind f) := by
    have e1 : ((mTst m e s).bind f) = ((m e s).bind fun d s1 => (Rs.lift (tst d) s1).bind f) := by
      unfold mTst
      cases m e s <;> rfl
    rw [← e1]
    exact h
  refine rG_seq r h2 fun a s1 H1 F1 x rl1 st1 w1 jx p1 => ?_
  obtain ⟨b, e1, q⟩ := p1.bind.lift
  rw [tst_some e1] at jx
  cases jx
  exact k b s1 H1 F1 rl1 st1 w1 (q H1 F1 Stp.refl w1)
theorem de_one {op : BoolOp} {a : Expr} {m : Mn D} {pos : Pos} (h : DE X W a m) : DE X W (.BoolOp op [a] pos) m := pe_one h
theorem de_and {a b : Expr} {rest : List Expr} {ma mb : Mn D} {pos : Pos} (ha : DE X W a ma) (hb : DE X W (.BoolOp .And (b :: rest) pos) mb) : DE X W (.BoolOp .And (a :: b :: rest) pos) (mAnd ma mb) := 
  pe_imp (pe_and ha hb) fun σ H Q ⟨G, e, s, F, rl, p⟩ => tst_seq rl p fun c s1 H1 F1 rl1 st1 w1 p1 => by
    refine ⟨c, rfl, ?_⟩
    cases c with
    | true => exact ⟨G, e, s1, F1, rl1, p1⟩
    | false => exact p1 H1 F1 Stp.refl w1 _ (.bl _)
theorem de_or {a b : Expr} {rest : List Expr} {ma mb : Mn D} {pos : Pos} (ha : DE X W a ma) (hb : DE X W (.BoolOp .Or (b :: rest) pos) mb) : DE X W (.BoolOp .Or (a :: b :: rest) pos) (mOr ma mb) := 
  pe_imp (pe_or ha hb) fun σ H Q ⟨G, e, s, F, rl, p⟩ => tst_seq rl p fun c s1 H1 F1 rl1 st1 w1 p1 => by
    refine ⟨c, rfl, ?_⟩
    cases c with
    | true => exact p1 H1 F1 Stp.refl w1 _ (.bl _)
    | false => exact ⟨G, e, s1, F1, rl1, p1⟩
theorem de_not {a : Expr} {m : Mn D} {pos : Pos} (h : DE X W a m) : DE X W (.UnaryOp .Not a pos) (mNot m) := 
  pe_imp (pe_not h) fun σ H Q ⟨G, e, s, F, rl, p⟩ => tst_seq rl p fun c s1 H1 F1 rl1 st1 w1 p1 => ⟨c, rfl, p1 H1 F1 Stp.refl w1 _ (.bl _)⟩
def mIf {α : Type} (t : Mn Bool) (a b : Mn α) : Mn α := fun e s => (t e s).bind fun c s1 => if c then a e s1 else b e s1
theorem de_if {c a b : Expr} {t : Mn Bool} {ma mb : Mn D} {pos : Pos} (hc : DT X W c t) (ha : DE X W a ma) (hb : DE X W b mb) : DE X W (.IfExp c a b pos) (mIf t ma mb) := 
  pe_imp (pe_ifExp hc ha hb) fun σ H Q ⟨G, e, s, F, rl, p⟩ => rG_seq rl p fun c s1 H1 F1 k rl1 st1 w1 jk p1 => by
    have jk : k = c := jk
    subst jk
    cases k with
    | true => exact ⟨G, e, s1, F1, rl1, p1⟩
    | false => exact ⟨G, e, s1, F1, rl1, p1⟩
/-- an if .. else of new lists -/
theorem JL.later {H F H1 F1 H2 F2 : Hp} {v : V} {ds : List D} {M : Option (Addr × Addr)} (st : Stp M H F H1 F1) (h : JL X.K M H1 F1 H2 F2 v ds) : JL X.K M H F H2 F2 v ds := by
  obtain ⟨a, vs, h1, h2, h3⟩ := h
  refine ⟨a, vs, h1, ?_, h3⟩
  cases q : H a with
  | none => rfl
  | some o => exact absurd h2 (st.there a (by rw [q]; simp))
theorem dl_if {c a b : Expr} {t : Mn Bool} {ma mb : Mn (List D)} {pos : Pos} (hc : DT X W c t) (ha : DL X W a ma) (hb : DL X W b mb) : DL X W (.IfExp c a b pos) (mIf t ma mb) := 
  pe_imp (pe_ifExp hc ha hb) fun σ H Q ⟨G, e, s, F, rl, p⟩ => rG_seq rl p fun c s1 H1 F1 k rl1 st1 w1 jk p1 => by
    have jk : k = c := jk
    subst jk
    cases k with
    | true => exact ⟨G, e, s1, F1, rl1, Po.mono p1 fun ds s2 H2 F2 st2 w2 q b j => q b (j.later st1)⟩
    | false => exact ⟨G, e, s1, F1, rl1, Po.mono p1 fun ds s2 H2 F2 st2 w2 q b j => q b (j.later st1)⟩

/-! ### argument lists, displays -/
def mNil {α : Type} : Mn (List α) := fun _ s => .ok [] s
def mCons (a : Mn D) (r : Mn (List D)) : Mn (List D) := fun e s => (a e s).bind fun x s1 => (r e s1).bind fun xs s2 => .ok (x :: xs) s2
def mConsA (a : Mn D) (r : Mn (List Ar)) : Mn (List Ar) := fun e s => (a e s).bind fun x s1 => (r e s1).bind fun xs s2 => .ok (.d x :: xs) s2
def mConsS (i : Nat) (r : Mn (List Ar)) : Mn (List Ar) := fun e s => match e[i]? with
  | some .src => (r e s).bind fun xs s2 => .ok (.src :: xs) s2
  | _ => .no
theorem dds_nil : DDs X W [] mNil := pa_imp pa_nil fun σ H Q ⟨G, e, s, F, rl, p⟩ => p H F Stp.refl rl.w [] .nil
theorem da_nil : DA X W [] mNil := pa_imp pa_nil fun σ H Q ⟨G, e, s, F, rl, p⟩ => p H F Stp.refl rl.w [] .nil
theorem dds_cons {a : Expr} {es : List Expr} {m : Mn D} {r : Mn (List D)} (ha : DE X W a m) (hr : DDs X W es r) (hs : starEach (a :: es) X.env = (false, eval a X.env) :: starEach es X.env := by rfl) : DDs X W (a :: es) (mCons m r) := 
  pa_imp (pa_cons ha hr hs) fun σ H Q ⟨G, e, s, F, rl, p⟩ => rG_seq rl p fun x s1 H1 F1 v rl1 st1 w1 jv p1 => rG_seq rl1 p1 fun xs s2 H2 F2 vs rl2 st2 w2 jvs p2 =>
    p2 H2 F2 Stp.refl w2 (v :: vs) (.cons (Is.mono st2.grow jv) jvs)
theorem da_cons {a : Expr} {es : List Expr} {m : Mn D} {r : Mn (List Ar)} (ha : DE X W a m) (hr : DA X W es r) (hs : starEach (a :: es) X.env = (false, eval a X.env) :: starEach es X.env := by rfl) : DA X W (a :: es) (mConsA m r) := 
  pa_imp (pa_cons ha hr hs) fun σ H Q ⟨G, e, s, F, rl, p⟩ => rG_seq rl p fun x s1 H1 F1 v rl1 st1 w1 jv p1 => rG_seq rl1 p1 fun xs s2 H2 F2 vs rl2 st2 w2 jvs p2 =>
    p2 H2 F2 Stp.refl w2 (v :: vs) (.cons (Is.mono st2.grow jv) jvs)
/-- the source is handed on -/
theorem da_src {i : Nat} {x : Str} {pos : Pos} {es : List Expr} {r : Mn (List Ar)} (hr : DA X W es r) (hN : X.N[i]? = some x := by rfl) (hv : Vis X.env.scope x := by first | exact Or.inl rfl | exact Or.inr (Or.inl rfl) | exact Or.inr (Or.inr rfl)) (hd : (x == ("__debug__" : Str)) = false := by decide)
    (hcd : (x == ("__classdict__" : Str)) = false := by decide) (hs : starEach (.Name x pos :: es) X.env = (false, eval (.Name x pos) X.env) :: starEach es X.env := by rfl) : DA X W (.Name x pos :: es) (mConsS i r) := 
  pa_imp (pa_cons (pe_var hN hv hd hcd) hr hs) fun σ H Q ⟨G, e, s, F, rl, p⟩ => by
    unfold mConsS at p
    cases q : e[i]? with
    | none => rw [q] at p; exact p.elim
    | some y =>
      rw [q] at p
      cases y with
      | src =>
        obtain ⟨a, c, h1, h2⟩ := rl.ok i _ q
        exact ⟨.ref a, h1, rG_seq rl p fun xs s2 H2 F2 vs rl2 st2 w2 jvs p2 => p2 H2 F2 Stp.refl w2 (.ref a :: vs) (.cons ⟨a, c, rfl, h2⟩ jvs)⟩
      | un => exact p.elim
      | l _ => exact p.elim
      | k _ => exact p.elim
      | t _ => exact p.elim
      | scr _ => exact p.elim
      | h _ => exact p.elim
      | d _ => exact p.elim
def szB (n : Nat) : Bool := decide (n ≤ 16777216)
theorem szB_ok {n : Nat} (h : szB n = true) : n ≤ sizeLine := by
  rw [sizeLine_eq]
  exact of_decide_eq_true h
def mTup (r : Mn (List D)) : Mn D := fun e s => (r e s).bind fun xs s1 => if szB xs.length then .ok (.tuple xs) s1 else .no
def mLst (r : Mn (List D)) : Mn (List D) := fun e s => (r e s).bind fun xs s1 => if szB xs.length then .ok xs s1 else .no
theorem ite_po {σ : L2.St} {H F : Hp} {α : Type} {R : α → Src → Hp → Hp → Prop} {c : Bool} {m : Rs α} (h : Po X W G σ H F R (if c then m else .no)) : c = true ∧ Po X W G σ H F R m := by
  cases c with
  | true => exact ⟨rfl, h⟩
  | false => exact h.elim
theorem de_tup {es : List Expr} {r : Mn (List D)} {k : Nat} {pos : Pos} (h : DDs X W es r) : DE X W (.Tuple es k pos) (mTup r) := 
  pe_imp (pe_tup h) fun σ H Q ⟨G, e, s, F, rl, p⟩ => rG_seq rl p fun xs s1 H1 F1 vs rl1 st1 w1 jv p1 => by
    obtain ⟨z, p2⟩ := ite_po p1
    have hz := szB_ok z
    refine ⟨by rw [IsAll.length jv]; exact hz, fun q nq => ?_⟩
    exact p2 _ _ (Stp.make w1 nq) (Wok.make w1 nq) _ (.tup (.inl (.inl upd_same)) (IsAll.mono (same_upd (free_of w1 nq)) jv) hz)
theorem dl_lst {es : List Expr} {r : Mn (List D)} {pos : Pos} (h : DDs X W es r) : DL X W (.List es pos) (mLst r) := 
  pe_imp (pe_lst h) fun σ H Q ⟨G, e, s, F, rl, p⟩ => rG_seq rl p fun xs s1 H1 F1 vs rl1 st1 w1 jv p1 => by
    obtain ⟨z, p2⟩ := ite_po p1
    have hz := szB_ok z
    refine ⟨by rw [IsAll.length jv]; exact hz, fun q nq => ?_⟩
    refine p2 _ _ (Stp.alloc nq) (w1.alloc nq) _ ⟨q, vs, rfl, ?_, free_of w1 nq, upd_same, jv, hz⟩
    cases z2 : H q with
    | none => rfl
    | some o => exact absurd nq (st1.there q (by rw [z2]; simp))
/-- a new list stands still from now on -/
def mFz (m : Mn (List D)) : Mn D := fun e s => (m e s).bind fun xs s1 => .ok (.list xs) s1
theorem rG_fz {m : Mn (List D)} {σ : L2.St} {H : Hp} {Q : VK} (h : rG X W (JD X.K) (mFz m) σ H Q) : rG X W (JL X.K) m σ H Q := by
  obtain ⟨G, e, s, F, rl, p⟩ := h
  refine ⟨G, e, s, F, rl, ?_⟩
  unfold mFz at p
  cases hm : m e s with
  | no => rw [hm] at p; exact p.elim
  | ex c x s1 => rw [hm] at p; exact p
  | ok xs s1 =>
    rw [hm] at p
    intro H1 F1 st w b j
    obtain ⟨a, vs, rfl, h1, h2, h3, h4, h5⟩ := j
    exact p H1 (upd F1 a (.lst vs)) (st.freeze h1 (free_of rl.w h1) h2) (w.freeze h3 (notM_new rl.w h1)) _ (.lst upd_same (IsAll.mono (same_upd h2) h4) h5)
theorem de_fz {e : Expr} {m : Mn (List D)} (h : DL X W e m) : DE X W e (mFz m) := pe_imp h fun σ H Q q => rG_fz q
def mFzD (m : Mn (List (D × D))) : Mn D := fun e s => (m e s).bind fun xs s1 => .ok (.dict xs) s1
theorem de_fzK {e : Expr} {m : Mn (List (D × D))} (h : DK X W e m) : DE X W e (mFzD m) := pe_imp h fun σ H Q q => by
  obtain ⟨G, e, s, F, rl, p⟩ := q
  refine ⟨G, e, s, F, rl, ?_⟩
  unfold mFzD at p
  cases hm : m e s with
  | no => rw [hm] at p; exact p.elim
  | ex c x s1 => rw [hm] at p; exact p
  | ok xs s1 =>
    rw [hm] at p
    intro H1 F1 st w b j
    obtain ⟨a, vs, rfl, h1, h2, h3, h4, h5⟩ := j
    exact p H1 (upd F1 a (.dK vs)) (st.freeze h1 (free_of rl.w h1) h2) (w.freeze h3 (notM_new rl.w h1)) _ (.dct upd_same (IsKV.mono (same_upd h2) h4))
end
end Pt

/-! Pt C: operators by data. -/
namespace Pt
open PySem PySem.Spec PyProof.Rows L2

section
variable {K : PySem.W.Frag} {H F : Hp}
mutual
theorem Is.dp (sub : Same F H) : ∀ {d : D} {v : V}, Is K F v d → d.canLay0 = true → Dp K H v d
  | .none, _, h, _ => by cases h; exact .non
  | .bool _, _, h, _ => by cases h; exact .bl _
  | .int _, _, h, _ => by cases h; exact .int _
  | .str _, _, h, _ => by cases h; exact .str _
  | .list ds, _, h, c => by
    cases h with
    | lst a b _ => exact .lst (.inl (.inl (sub _ _ a))) (IsAll.dp sub b (by simpa only [PyData.canLay0] using c))
  | .tuple ds, _, h, c => by
    cases h with
    | tup a b _ => exact .tup (Same.seqT sub a) (IsAll.dp sub b (by simpa only [PyData.canLay0] using c))
  | .dict _, _, _, c => by simp only [PyData.canLay0] at c; exact absurd c Bool.false_ne_true
theorem IsAll.dp (sub : Same F H) : ∀ {ds : List D} {vs : List V}, IsAll K F vs ds → PyData.canLayAll0 ds = true → DpAll K H vs ds
  | [], _, h, _ => by cases h; exact .nil
  | d :: ds, _, h, c => by
    have c' : d.canLay0 = true ∧ PyData.canLayAll0 ds = true := by simpa only [PyData.canLayAll0, Bool.and_eq_true] using c
    cases h with
    | cons a b => exact .cons (Is.dp sub a c'.1) (IsAll.dp sub b c'.2)
end
theorem IsV.dp (sub : Same F H) {d : D} {v : V} (h : IsV K H F v d) (c : d.canLay0 = true) : Dp K H v d := by
  rcases h with h | ⟨a, vs, es, e1, e2, h1, h2, h3⟩ | ⟨a, ws, kvs, e1, e2, h⟩ | ⟨a, ws, kvs, e1, e2, h⟩
  · exact h.dp sub c
  · subst e1 e2
    exact .lst (.inl (.inl h1)) (IsAll.dp sub h2 (by simpa only [PyData.canLay0] using c))
  · subst e2
    simp only [PyData.canLay0] at c
    exact absurd c Bool.false_ne_true
  · subst e2
    simp only [PyData.canLay0] at c
    exact absurd c Bool.false_ne_true
end
section
variable {X : Cx}
theorem or_imp {f : Value → Value → Sem Value} {r r' : R2} (h : OpR X f r) (k : ∀ x y H Q, r' x y H Q → r x y H Q) : OpR X f r' := fun pins s σ H x y v u Q I rx ry q => h pins s σ H x y v u Q I rx ry (k _ _ _ _ q)
theorem ur_imp {f : Value → Sem Value} {r r' : V → Hp → VK → Prop} (h : UnR X f r) (k : ∀ x H Q, r' x H Q → r x H Q) : UnR X f r' := fun pins s σ H x v Q I rx q => h pins s σ H x v Q I rx (k _ _ _ q)
theorem cr_imp {f : Value} {r r' : List V → Hp → VK → Prop} (h : CallR X f r) (k : ∀ x H Q, r' x H Q → r x H Q) : CallR X f r' := fun pins s σ H x v Q I rx q => h pins s σ H x v Q I rx (k _ _ _ q)

/-! ### numbers -/
def smB (i : Int) : Bool := decide (-18446744073709551616 < i) && decide (i < 18446744073709551616)
def mulB (i j : Int) : Bool := smB j || smB i || decide (i.natAbs.log2 + j.natAbs.log2 < 1000000)
theorem smB_ok {i : Int} (h : smB i = true) : -(2 ^ 64) < i ∧ i < 2 ^ 64 := by
  unfold smB at h
  rw [Bool.and_eq_true] at h
  have h1 := of_decide_eq_true h.1
  have h2 := of_decide_eq_true h.2
  exact ⟨by omega, by omega⟩
def divB (j : Int) : Bool := decide (0 < j) && decide (j.natAbs.log2 < 9000)
def dSub : D → D → Option D
  | .int i, .int j => some (.int (i - j))
  | _, _ => none
def dAdd : D → D → Option D
  | .int i, .int j => some (.int (i + j))
  | .str i, .str j => if szB (i.length + j.length) then some (.str (i ++ j)) else none
  | .list a, .list b => if szB (a.length + b.length) then some (.list (a ++ b)) else none
  | .tuple a, .tuple b => if szB (a.length + b.length) then some (.tuple (a ++ b)) else none
  | _, _ => none
def dMul : D → D → Option D
  | .int i, .int j => if mulB i j then some (.int (i * j)) else none
  | .list a, .int k => if decide (0 ≤ k) && szB (a.length * k.toNat) && szB k.toNat then some (.list (List.replicate k.toNat a).flatten) else none
  | .tuple a, .int k => if decide (2 ≤ k) && decide (k ≤ 1000) && decide (a.length ≤ 1000) && decide (0 < a.length) then some (.tuple (List.replicate k.toNat a).flatten) else none
  | _, _ => none
def dDiv : D → D → Option D
  | .int i, .int j => if divB j then some (.int (i / j)) else if decide (j < 0) && decide (j.natAbs < 1073741824) then some (.int (i.fdiv j)) else none
  | _, _ => none
def dMod : D → D → Option D
  | .int i, .int j => if decide (0 < j) then some (.int (i % j)) else if decide (j < 0) then some (.int (i.fmod j)) else none
  | _, _ => none
def dPow : D → D → Option D
  | .int i, .int j => if decide (0 ≤ j) && decide (j ≤ 1000) && decide (i.natAbs < 18446744073709551616) then some (.int (i ^ j.toNat)) else none
  | _, _ => none
def dNeg : D → Option D
  | .int i => some (.int (-i))
  | _ => none
theorem or_sub : OpR X (binaryOp .Sub) (rO2 X.K dSub) := or_imp op_sub fun x y H Q ⟨F, a, b, r, sub, hx, hy, e, q⟩ => by
  unfold dSub at e
  split at e
  · cases e
    exact ⟨_, _, hx.int, hy.int, q _ H F (Al.refl sub) (.int _)⟩
  · cases e
theorem or_add : OpR X (binaryOp .Add) (rO2 X.K dAdd) := or_imp (OpR.or op_add (OpR.or op_add_str (OpR.or op_cat op_catA))) fun x y H Q ⟨F, a, b, r, sub, hx, hy, e, q⟩ => by
  unfold dAdd at e
  split at e
  · cases e
    exact .inl ⟨_, _, hx.int, hy.int, q _ H F (Al.refl sub) (.int _)⟩
  · split at e
    · cases e
      rename_i z
      exact .inr (.inl ⟨_, _, hx.str, hy.str, szB_ok z, q _ H F (Al.refl sub) (.str _)⟩)
    · cases e
  · split at e
    · cases e
      rename_i z
      obtain ⟨a1, vs, rfl, h1, h2, h3⟩ := hx.list sub
      obtain ⟨b1, ws, rfl, k1, k2, k3⟩ := hy.list sub
      refine .inr (.inr (.inl ⟨a1, b1, vs, ws, rfl, rfl, h1, k1, by rw [h2.length, k2.length]; exact szB_ok z, fun p n => q _ _ _ (Al.make (o := .lst (vs ++ ws)) sub n) (.lst upd_same (IsAll.mono (same_upd (sub.free n)) (h2.append k2)) (by rw [List.length_append]; exact szB_ok z))⟩))
    · cases e
  · split at e
    · cases e
      rename_i z
      obtain ⟨a1, vs, rfl, h1, h2, h3⟩ := hx.tuple
      obtain ⟨b1, ws, rfl, k1, k2, k3⟩ := hy.tuple
      refine .inr (.inr (.inr ⟨a1, b1, vs, ws, rfl, rfl, Same.seqT sub h1, Same.seqT sub k1, by rw [h2.length, k2.length]; exact szB_ok z, fun z1 => ?_, fun z1 z2 => ?_, fun z1 z2 p n => ?_⟩))
      · subst z1
        cases h2
        exact q _ H F (Al.refl sub) (.tup k1 k2 k3)
      · subst z2
        cases k2
        exact q _ H F (Al.refl sub) (by rw [List.append_nil]; exact .tup h1 h2 h3)
      · exact q _ _ _ (Al.make (o := .tup (vs ++ ws)) sub n) (.tup (.inl (.inl upd_same)) (IsAll.mono (same_upd (sub.free n)) (h2.append k2)) (by rw [List.length_append]; exact szB_ok z))
    · cases e
  · cases e
theorem flat_len {α : Type} (a : List α) : ∀ k : Nat, (List.replicate k a).flatten.length = a.length * k
  | 0 => rfl
  | k + 1 => by
    rw [List.replicate_succ, List.flatten_cons, List.length_append, flat_len a k, Nat.mul_succ, Nat.add_comm]
theorem or_mul : OpR X (binaryOp .Mult) (rO2 X.K dMul) := or_imp (OpR.or (OpR.or op_mulW op_mul) (OpR.or op_rep op_repT)) fun x y H Q ⟨F, a, b, r, sub, hx, hy, e, q⟩ => by
  unfold dMul at e
  split at e
  · split at e
    · cases e
      rename_i z
      unfold mulB at z
      rw [Bool.or_eq_true, Bool.or_eq_true] at z
      rcases z with (z | z) | z
      · exact .inl (.inr ⟨_, _, hx.int, hy.int, .inr (smB_ok z), q _ H F (Al.refl sub) (.int _)⟩)
      · exact .inl (.inr ⟨_, _, hx.int, hy.int, .inl (smB_ok z), q _ H F (Al.refl sub) (.int _)⟩)
      · exact .inl (.inl ⟨_, _, hx.int, hy.int, of_decide_eq_true (p := _ < _) z, q _ H F (Al.refl sub) (.int _)⟩)
    · cases e
  · split at e
    · cases e
      rename_i z
      rw [Bool.and_eq_true, Bool.and_eq_true] at z
      obtain ⟨⟨z1, z2⟩, z3⟩ := z
      have z1 := of_decide_eq_true z1
      have z3' : _ ≤ 16777216 := of_decide_eq_true z3
      obtain ⟨a1, vs, rfl, h1, h2, h3⟩ := hx.list sub
      refine .inr (.inl ⟨a1, _, vs, rfl, hy.int, h1, by omega, by omega, by rw [h2.length]; exact szB_ok z2, fun p n => q _ _ _ (Al.make (o := .lst _) sub n) (.lst upd_same (IsAll.mono (same_upd (sub.free n)) (h2.rep _)) (by rw [flat_len]; exact szB_ok z2))⟩)
    · cases e
  · split at e
    · cases e
      rename_i z
      rw [Bool.and_eq_true, Bool.and_eq_true, Bool.and_eq_true] at z
      obtain ⟨⟨⟨z1, z2⟩, z3⟩, z4⟩ := z
      have z1 := of_decide_eq_true z1
      have z2 := of_decide_eq_true z2
      have z3 := of_decide_eq_true z3
      have z4 := of_decide_eq_true z4
      obtain ⟨a1, vs, rfl, h1, h2, h3⟩ := hx.tuple
      refine .inr (.inr ⟨a1, _, vs, rfl, hy.int, Same.seqT sub h1, fun z5 => ?_, z1, z2, by rw [h2.length]; exact z3, fun p n => q _ _ _ (Al.make (o := .tup _) sub n) (.tup (.inl (.inl upd_same)) (IsAll.mono (same_upd (sub.free n)) (h2.rep _)) ?_)⟩)
      · subst z5
        cases h2
        exact absurd z4 (by decide)
      · rw [flat_len, sizeLine_eq]
        refine Nat.le_trans (Nat.mul_le_mul z3 (show Int.toNat _ ≤ 1000 by omega)) (by decide)
    · cases e
  · cases e
theorem or_div : OpR X (binaryOp .FloorDiv) (rO2 X.K dDiv) := or_imp (OpR.or op_fdivW op_fdivN) fun x y H Q ⟨F, a, b, r, sub, hx, hy, e, q⟩ => by
  unfold dDiv at e
  split at e
  · split at e
    · cases e
      rename_i z
      unfold divB at z
      rw [Bool.and_eq_true] at z
      exact .inl ⟨_, _, hx.int, hy.int, ⟨of_decide_eq_true z.1, of_decide_eq_true z.2⟩, q _ H F (Al.refl sub) (.int _)⟩
    · split at e
      · cases e
        rename_i z
        rw [Bool.and_eq_true] at z
        have z1 := of_decide_eq_true z.1
        exact .inr ⟨_, _, hx.int, hy.int, ⟨by omega, of_decide_eq_true z.2⟩, q _ H F (Al.refl sub) (.int _)⟩
      · cases e
  · cases e
theorem or_mod : OpR X (binaryOp .Mod) (rO2 X.K dMod) := or_imp (OpR.or op_mod op_modN) fun x y H Q ⟨F, a, b, r, sub, hx, hy, e, q⟩ => by
  unfold dMod at e
  split at e
  · split at e
    · cases e
      rename_i z
      exact .inl ⟨_, _, hx.int, hy.int, of_decide_eq_true (p := _ < _) z, q _ H F (Al.refl sub) (.int _)⟩
    · split at e
      · cases e
        rename_i z
        have z1 := of_decide_eq_true z
        exact .inr ⟨_, _, hx.int, hy.int, by omega, q _ H F (Al.refl sub) (.int _)⟩
      · cases e
  · cases e
theorem or_pow : OpR X (binaryOp .Pow) (rO2 X.K dPow) := or_imp op_pow fun x y H Q ⟨F, a, b, r, sub, hx, hy, e, q⟩ => by
  unfold dPow at e
  split at e
  · split at e
    · cases e
      rename_i z
      rw [Bool.and_eq_true, Bool.and_eq_true] at z
      obtain ⟨⟨z1, z2⟩, z3⟩ := z
      have z1 := of_decide_eq_true z1
      have z2 := of_decide_eq_true z2
      have z3 := of_decide_eq_true z3
      exact ⟨_, _, hx.int, hy.int, ⟨z1, by omega, z3⟩, q _ H F (Al.refl sub) (.int _)⟩
    · cases e
  · cases e
theorem ur_neg : UnR X (unaryOp .USub) (rO1 X.K dNeg) := ur_imp un_neg fun x H Q ⟨F, a, r, sub, hx, e, q⟩ => by
  unfold dNeg at e
  split at e
  · cases e
    exact ⟨_, hx.int, q _ H F (Al.refl sub) (.int _)⟩
  · cases e

/-! ### comparisons -/
def dCmp (p : Int → Int → Bool) : D → D → Option D
  | .int i, .int j => some (.bool (p i j))
  | _, _ => none
theorem or_cmp {op : CmpOp} {p : Int → Int → Bool} (h : OpR X (compareOp op) (rI0 fun i j => .bl (p i j))) : OpR X (compareOp op) (rO2 X.K (dCmp p)) := or_imp h fun x y H Q ⟨F, a, b, r, sub, hx, hy, e, q⟩ => by
  unfold dCmp at e
  split at e
  · cases e
    exact ⟨_, _, hx.int, hy.int, q _ H F (Al.refl sub) (.bl _)⟩
  · cases e
def dLt : D → D → Option D := dCmp fun i j => decide (i < j)
def dLe : D → D → Option D := dCmp fun i j => decide (i ≤ j)
def dGt : D → D → Option D := dCmp fun i j => decide (j < i)
def dGe : D → D → Option D := dCmp fun i j => decide (j ≤ i)
theorem or_lt : OpR X (compareOp .Lt) (rO2 X.K dLt) := or_cmp op_lt
theorem or_le : OpR X (compareOp .LtE) (rO2 X.K dLe) := or_cmp op_le
theorem or_gt : OpR X (compareOp .Gt) (rO2 X.K dGt) := or_cmp op_gt
theorem or_ge : OpR X (compareOp .GtE) (rO2 X.K dGe) := or_cmp op_ge
/-- data that may be compared and shown -/
def shB (d : D) : Bool := SeqAt.shaped d
theorem shB_lay {d : D} (h : shB d = true) : d.canLay0 = true := SeqAt.canLay_of_shaped h
/-- two numbers, two texts -/
def flat2 : D → D → Option Bool
  | .int i, .int j => some (decide (i = j))
  | .str i, .str j => some (decide (i = j))
  | _, _ => none
theorem flat2_some {K : PySem.W.Frag} {H F : Hp} {x y : V} {a b : D} {k : Bool} (h : flat2 a b = some k) (hx : IsV K H F x a) (hy : IsV K H F y b) : scal x y = true ∧ decide (x = y) = k := by
  unfold flat2 at h
  split at h
  · cases h
    rw [hx.int, hy.int]
    exact ⟨rfl, decide_eq_decide.mpr ⟨fun z => by cases z; rfl, fun z => by rw [z]⟩⟩
  · cases h
    rw [hx.str, hy.str]
    exact ⟨rfl, decide_eq_decide.mpr ⟨fun z => by cases z; rfl, fun z => by rw [z]⟩⟩
  · cases h
def dEq (a b : D) : Option D := match flat2 a b with
  | some k => some (.bool k)
  | none => if shB a && shB b then some (.bool (PyData.eqv a b)) else none
def dNe (a b : D) : Option D := match flat2 a b with
  | some k => some (.bool (!k))
  | none => if shB a && shB b then some (.bool (!PyData.eqv a b)) else none
theorem or_eq (hu : X.A.units + 64 < cLine) : OpR X (compareOp .Eq) (rO2 X.K dEq) := or_imp (OpR.or op_eq (op_eqD hu)) fun x y H Q ⟨F, a, b, r, sub, hx, hy, e, q⟩ => by
  unfold dEq at e
  split at e
  · rename_i k z
    cases e
    obtain ⟨z1, z2⟩ := flat2_some z hx hy
    exact .inl ⟨z1, by rw [z2]; exact q _ H F (Al.refl sub) (.bl _)⟩
  · split at e
    · cases e
      rename_i z
      rw [Bool.and_eq_true] at z
      exact .inr ⟨a, b, hx.dp sub (shB_lay z.1), hy.dp sub (shB_lay z.2), z.1, z.2, q _ H F (Al.refl sub) (.bl _)⟩
    · cases e
theorem or_ne (hu : X.A.units + 64 < cLine) : OpR X (compareOp .NotEq) (rO2 X.K dNe) := or_imp (OpR.or op_ne (op_neD hu)) fun x y H Q ⟨F, a, b, r, sub, hx, hy, e, q⟩ => by
  unfold dNe at e
  split at e
  · rename_i k z
    cases e
    obtain ⟨z1, z2⟩ := flat2_some z hx hy
    exact .inl ⟨z1, by rw [z2]; exact q _ H F (Al.refl sub) (.bl _)⟩
  · split at e
    · cases e
      rename_i z
      rw [Bool.and_eq_true] at z
      exact .inr ⟨a, b, hx.dp sub (shB_lay z.1), hy.dp sub (shB_lay z.2), z.1, z.2, q _ H F (Al.refl sub) (.bl _)⟩
    · cases e
def isNoneD : D → Bool
  | .none => true
  | _ => false
theorem none_iff {F H : Hp} {K : PySem.W.Frag} {x : V} {a : D} (h : IsV K H F x a) : decide (x = V.non) = isNoneD a := by
  rcases h with h | ⟨a, vs, es, rfl, rfl, h⟩ | ⟨a, vs, es, rfl, rfl, h⟩ | ⟨a, vs, es, rfl, rfl, h⟩
  · cases h <;> rfl
  · rfl
  · rfl
  · rfl
def dIs : D → D → Option D
  | a, .none => some (.bool (isNoneD a))
  | .bool j, .bool k => some (.bool (decide (j = k)))
  | _, _ => none
def dIsNot : D → D → Option D
  | a, .none => some (.bool (!isNoneD a))
  | .bool j, .bool k => some (.bool (!decide (j = k)))
  | _, _ => none
theorem or_is : OpR X (compareOp .Is) (rO2 X.K dIs) := or_imp (OpR.or op_isN op_isBl) fun x y H Q ⟨F, a, b, r, sub, hx, hy, e, q⟩ => by
  unfold dIs at e
  split at e
  · cases e
    refine .inl ⟨hy.none, ?_⟩
    rw [none_iff hx]
    exact q _ H F (Al.refl sub) (.bl _)
  · cases e
    exact .inr ⟨_, _, hx.bool, hy.bool, q _ H F (Al.refl sub) (.bl _)⟩
  · cases e
theorem or_isNot : OpR X (compareOp .IsNot) (rO2 X.K dIsNot) := or_imp (OpR.or op_notN op_notBl) fun x y H Q ⟨F, a, b, r, sub, hx, hy, e, q⟩ => by
  unfold dIsNot at e
  split at e
  · cases e
    refine .inl ⟨hy.none, ?_⟩
    rw [none_iff hx]
    exact q _ H F (Al.refl sub) (.bl _)
  · cases e
    exact .inr ⟨_, _, hx.bool, hy.bool, q _ H F (Al.refl sub) (.bl _)⟩
  · cases e
/-- x in a list, a tuple, of data -/
def dIn (neg : Bool) : D → D → Option D
  | a, .list ds => if shB a && shB (.list ds) then some (.bool (if neg then !ds.any fun z => PyData.eqv z a else ds.any fun z => PyData.eqv z a)) else none
  | a, .tuple ds => if shB a && shB (.tuple ds) then some (.bool (if neg then !ds.any fun z => PyData.eqv z a else ds.any fun z => PyData.eqv z a)) else none
  | _, _ => none
theorem or_in (hu : X.A.units + 65 < cLine) : OpR X (compareOp .In) (rO2 X.K (dIn false)) := by
  intro pins s σ H x y v u Q I rx ry h
  obtain ⟨F, a, b, r, sub, hx, hy, e, q⟩ := h
  unfold dIn at e
  split at e
  · split at e
    · cases e
      rename_i z
      rw [Bool.and_eq_true] at z
      obtain ⟨as, r1⟩ := Dp.reads I _ x v (hx.dp sub (shB_lay z.1)) rx
      obtain ⟨bs, r2⟩ := Dp.reads I _ y u (hy.dp sub (shB_lay z.2)) ry
      exact SeqAt.in_list_reads r2 r1 (by simpa only [PyData.canLay0] using shB_lay z.2) (shB_lay z.1) (room_in_shaped z.1 hu) ⟨.bl _, H, I, rfl, q _ H F (Al.refl sub) (.bl _)⟩
    · cases e
  · split at e
    · cases e
      rename_i z
      rw [Bool.and_eq_true] at z
      obtain ⟨as, r1⟩ := Dp.reads I _ x v (hx.dp sub (shB_lay z.1)) rx
      obtain ⟨bs, r2⟩ := Dp.reads I _ y u (hy.dp sub (shB_lay z.2)) ry
      exact SeqAt.in_tuple_reads r2 r1 (by simpa only [PyData.canLay0] using shB_lay z.2) (shB_lay z.1) (room_in_shaped z.1 hu) ⟨.bl _, H, I, rfl, q _ H F (Al.refl sub) (.bl _)⟩
    · cases e
  · cases e
theorem or_notIn (hu : X.A.units + 65 < cLine) : OpR X (compareOp .NotIn) (rO2 X.K (dIn true)) := by
  intro pins s σ H x y v u Q I rx ry h
  obtain ⟨F, a, b, r, sub, hx, hy, e, q⟩ := h
  unfold dIn at e
  split at e
  · split at e
    · cases e
      rename_i z
      rw [Bool.and_eq_true] at z
      obtain ⟨as, r1⟩ := Dp.reads I _ x v (hx.dp sub (shB_lay z.1)) rx
      obtain ⟨bs, r2⟩ := Dp.reads I _ y u (hy.dp sub (shB_lay z.2)) ry
      exact SeqAt.notIn_list_reads r2 r1 (by simpa only [PyData.canLay0] using shB_lay z.2) (shB_lay z.1) (room_in_shaped z.1 hu) ⟨.bl _, H, I, rfl, q _ H F (Al.refl sub) (.bl _)⟩
    · cases e
  · split at e
    · cases e
      rename_i z
      rw [Bool.and_eq_true] at z
      obtain ⟨as, r1⟩ := Dp.reads I _ x v (hx.dp sub (shB_lay z.1)) rx
      obtain ⟨bs, r2⟩ := Dp.reads I _ y u (hy.dp sub (shB_lay z.2)) ry
      exact SeqAt.notIn_tuple_reads r2 r1 (by simpa only [PyData.canLay0] using shB_lay z.2) (shB_lay z.1) (room_in_shaped z.1 hu) ⟨.bl _, H, I, rfl, q _ H F (Al.refl sub) (.bl _)⟩
    · cases e
  · cases e
end
end Pt

/-! Pt D: subscripts, slices, built-ins. -/
namespace Pt
open PySem PySem.Spec PyProof.Rows L2

/-! ### subscripts -/
def dIx : D → D → Option D
  | .list ds, .int i => atI ds i
  | .tuple ds, .int i => atI ds i
  | .str z, .int i => if szB z.length then (atI z.cps.toList i).map fun c => .str ⟨#[c]⟩ else none
  | _, _ => none
section
variable {X : Cx} {W : WX} {K : PySem.W.Frag} {F : Hp}
theorem IsAll.atI {vs : List V} {ds : List D} (h : IsAll K F vs ds) {i : Int} {d : D} (e : L2.atI ds i = some d) : ∃ v, L2.atI vs i = some v ∧ Is K F v d := by
  unfold L2.atI at e ⊢
  rw [h.length]
  cases q : ixN ds.length i with
  | none => rw [q] at e; cases e
  | some j =>
    rw [q] at e
    exact h.get (show ds[j]? = some d from e)
theorem ix_d : IxR X (rO2 X.K dIx) := by
  intro value slice pins s σ H x y v u Q I rx ry h hs
  refine ix_seq value slice pins s σ H x y v u Q I rx ry ?_ hs
  obtain ⟨F, a, b, r, sub, hx, hy, e, q⟩ := h
  unfold dIx at e
  split at e
  · obtain ⟨a1, vs, rfl, h1, h2, h3⟩ := hx.list sub
    obtain ⟨w, e1, e2⟩ := h2.atI e
    exact .inl ⟨a1, vs, _, w, rfl, hy.int, .inl (.inl h1), e1, q _ H F (Al.refl sub) e2⟩
  · obtain ⟨a1, vs, rfl, h1, h2, h3⟩ := hx.tuple
    obtain ⟨w, e1, e2⟩ := h2.atI e
    exact .inr (.inl ⟨a1, vs, _, w, rfl, hy.int, Same.seqT sub h1, e1, q _ H F (Al.refl sub) e2⟩)
  · split at e
    · rename_i z
      rw [Option.map_eq_some_iff] at e
      obtain ⟨c, e1, rfl⟩ := e
      exact .inr (.inr ⟨_, _, c, hx.str, hy.int, szB_ok z, e1, q _ H F (Al.refl sub) (.str _)⟩)
    · cases e
  · cases e
theorem de_ix {a b : Expr} {ma mb : Mn D} {pos : Pos} (ha : DV X W a ma) (hb : DV X W b mb) (hs : PlainIx b := by intro _ _; rfl) : DE X W (.Subscript a b pos) (mBin dIx ma mb) := 
  pe_imp (pe_ix ix_d ha hb hs) fun σ H Q h => two_of (fun _ _ _ _ q => q) h

/-! ### slices -/
def cutD (ds : List D) (lo hi : Option Int) : List D := (ds.drop (HT.sIx ds.length 0 lo)).take (HT.sIx ds.length ds.length hi - HT.sIx ds.length 0 lo)
theorem cut_all {vs : List V} {ds : List D} (h : IsAll K F vs ds) (lo hi : Option Int) : IsAll K F (cutV vs lo hi) (cutD ds lo hi) := by
  unfold cutV cutD
  rw [h.length]
  exact (h.drop _).take _
theorem cutD_len (ds : List D) (lo hi : Option Int) : (cutD ds lo hi).length ≤ ds.length := by
  unfold cutD
  rw [List.length_take, List.length_drop]
  omega
theorem cutD_whole {ds : List D} {lo hi : Option Int} (h : HT.sIx ds.length 0 lo = 0 ∧ HT.sIx ds.length ds.length hi = ds.length) : cutD ds lo hi = ds := by
  unfold cutD
  rw [h.1, h.2, List.drop_zero, Nat.sub_zero, List.take_length]
def dSl : D → Option Int → Option Int → Option D
  | .list ds, lo, hi => some (.list (cutD ds lo hi))
  | .tuple ds, lo, hi => some (.tuple (cutD ds lo hi))
  | _, _, _ => none
theorem sl_d : SlR X fun x lo hi H Q => ∃ F a r, Same F H ∧ IsV X.K H F x a ∧ dSl a lo hi = some r ∧ ∀ v H' F', Al H F H' F' → Is X.K F' v r → Q v H' := by
  intro pins s σ H x v vl vu lo hi sl Q I rx hs pl pu h
  refine (SlR.or sl_list sl_tupA) pins s σ H x v vl vu lo hi sl Q I rx hs pl pu ?_
  obtain ⟨F, a, r, sub, hx, e, q⟩ := h
  unfold dSl at e
  split at e
  · cases e
    obtain ⟨a1, vs, rfl, h1, h2, h3⟩ := hx.list sub
    exact .inl ⟨a1, vs, rfl, .inl (.inl h1), fun p n => q _ _ _ (Al.make (o := .lst _) sub n) (.lst upd_same (IsAll.mono (same_upd (sub.free n)) (cut_all h2 lo hi)) (Nat.le_trans (cutD_len _ _ _) h3))⟩
  · cases e
    obtain ⟨a1, vs, rfl, h1, h2, h3⟩ := hx.tuple
    refine .inr ⟨a1, vs, rfl, Same.seqT sub h1, fun z => ?_, fun z p n => ?_⟩
    · rw [h2.length] at z
      exact q _ H F (Al.refl sub) (by rw [cutD_whole z]; exact .tup h1 h2 h3)
    · exact q _ _ _ (Al.make (o := .tup _) sub n) (.tup (.inl (.inl upd_same)) (IsAll.mono (same_upd (sub.free n)) (cut_all h2 lo hi)) (Nat.le_trans (cutD_len _ _ _) h3))
  · cases e
def JO : Jt (Option Int) (Option Int) := fun _ _ _ _ _ b a => b = a
def DO (X : Cx) (W : WX) (e : Option Expr) (m : Mn (Option Int)) : Prop := PO X e (rG X W JO m)
theorem po_imp {e : Option Expr} {t t' : TO} (h : PO X e t) (k : ∀ σ H Q, t' σ H Q → t σ H Q) : PO X e t' := ⟨fun pins s σ H Q I q => h.run pins s σ H Q I (k σ H Q q)⟩
def intD : D → Option Int
  | .int i => some i
  | _ => none
theorem intD_some {d : D} {i : Int} (h : intD d = some i) : d = .int i := by
  cases d with
  | int c => exact congrArg _ (Option.some.inj h)
  | _ => cases h
def mNone : Mn (Option Int) := fun _ s => .ok none s
def mSome (m : Mn D) : Mn (Option Int) := fun e s => (m e s).bind fun d s1 => Rs.lift ((intD d).map some) s1
theorem do_none : DO X W none mNone := po_imp po_none fun σ H Q ⟨G, e, s, F, rl, p⟩ => p H F Stp.refl rl.w none rfl
theorem do_some {e : Expr} {m : Mn D} (h : DE X W e m) : DO X W (some e) (mSome m) := po_imp (po_some h) fun σ H Q ⟨G, e, s, F, rl, p⟩ =>
  rG_seq rl p fun a s1 H1 F1 x rl1 st1 w1 jx p1 => by
    obtain ⟨c, e1, q⟩ := p1.lift
    rw [Option.map_eq_some_iff] at e1
    obtain ⟨i, e2, rfl⟩ := e1
    rw [intD_some e2] at jx
    cases jx
    exact ⟨i, rfl, q H1 F1 Stp.refl w1 _ rfl⟩
def mSl (m : Mn D) (lo hi : Mn (Option Int)) : Mn D := fun e s => (m e s).bind fun d s1 => (lo e s1).bind fun l s2 => (hi e s2).bind fun h s3 => Rs.lift (dSl d l h) s3
theorem de_slice {e : Expr} {lo hi : Option Expr} {m : Mn D} {ml mh : Mn (Option Int)} {p2 pos : Pos} (he : DV X W e m) (hl : DO X W lo ml) (hh : DO X W hi mh) : DE X W (.Subscript e (.Slice lo hi none p2) pos) (mSl m ml mh) := 
  pe_imp (pe_slice sl_d he hl hh) fun σ H Q ⟨G, e, s, F, rl, p⟩ => rG_seq rl p fun d s1 H1 F1 x rl1 st1 w1 jx p1 => rG_seq rl1 p1 fun l s2 H2 F2 l' rl2 st2 w2 jl p2 => rG_seq rl2 p2 fun h s3 H3 F3 h' rl3 st3 w3 jh p3 => by
    have jl : l' = l := jl
    have jh : h' = h := jh
    subst jl jh
    obtain ⟨c, e1, q⟩ := p3.lift
    exact ⟨F3, d, c, w3.sub, jx H3 F3 (st2.trans st3) w3.sub, e1, fun v H' F' al i => q H' F' al.stp (al.wok w3) v i⟩
/-- xs[::-1] of a list -/
def mRev (m : Mn D) : Mn (List D) := fun e s => (m e s).bind fun d s1 => match d with
  | .list ds => .ok ds.reverse s1
  | _ => .no
theorem dl_rev {e : Expr} {m : Mn D} {k : Nat} {p1 p2 p3 pos : Pos} (he : DV X W e m) : DL X W (.Subscript e (.Slice none none (some (.UnaryOp .USub (.Constant (.int 1) k p1) p2)) p3) pos) (mRev m) := 
  pe_imp (pe_revL he) fun σ H Q ⟨G, e, s, F, rl, p⟩ => rG_seq rl p fun d s1 H1 F1 x rl1 st1 w1 jx p1 => by
    cases d with
    | list ds =>
      obtain ⟨a1, vs, rfl, h1, h2, h3⟩ := (jx H1 F1 Stp.refl w1.sub).list w1.sub
      refine ⟨a1, vs, rfl, .inl (.inl h1), fun q n => ?_⟩
      refine p1 _ _ (Stp.alloc n) (w1.alloc n) _ ⟨q, vs.reverse, rfl, ?_, free_of w1 n, upd_same, h2.reverse, by rw [List.length_reverse]; exact h3⟩
      cases z : H q with
      | none => rfl
      | some o => exact absurd n (st1.there q (by rw [z]; simp))
    | _ => exact p1.elim

/-! ### built-ins by their arguments -/
def JVs (K : PySem.W.Frag) : Jt (List V) (List D) := fun M _ _ H' F' vs ds => ∀ H2 F2, Stp M H' F' H2 F2 → Same F2 H2 → Paired (fun v d => IsV K H2 F2 v d) vs ds
def DVs (X : Cx) (W : WX) (es : List Expr) (m : Mn (List D)) : Prop := PA X es (rG X W (JVs X.K) m)
theorem dvs_nil : DVs X W [] mNil := pa_imp pa_nil fun σ H Q ⟨G, e, s, F, rl, p⟩ => p H F Stp.refl rl.w [] fun _ _ _ _ => .nil
theorem dvs_cons {a : Expr} {es : List Expr} {m : Mn D} {r : Mn (List D)} (ha : DV X W a m) (hr : DVs X W es r) (hs : starEach (a :: es) X.env = (false, eval a X.env) :: starEach es X.env := by rfl) : DVs X W (a :: es) (mCons m r) := 
  pa_imp (pa_cons ha hr hs) fun σ H Q ⟨G, e, s, F, rl, p⟩ => rG_seq rl p fun x s1 H1 F1 v rl1 st1 w1 jv p1 => rG_seq rl1 p1 fun xs s2 H2 F2 vs rl2 st2 w2 jvs p2 =>
    p2 H2 F2 Stp.refl w2 (v :: vs) fun H3 F3 st3 sub3 => .cons (jv H3 F3 (st2.trans st3) sub3) (jvs H3 F3 st3 sub3)
/-- a call by values -/
def rOC (K : PySem.W.Frag) (f : List D → Option D) : List V → Hp → VK → Prop := fun xs H Q => ∃ F ds r, Same F H ∧ Paired (fun v d => IsV K H F v d) xs ds ∧ f ds = some r ∧ ∀ v H' F', Al H F H' F' → Is K F' v r → Q v H'
def mCall (f : List D → Option D) (ma : Mn (List D)) : Mn D := fun e s => (ma e s).bind fun a s1 => Rs.lift (f a) s1
theorem call_of {f : List D → Option D} {ma : Mn (List D)} {σ : L2.St} {H : Hp} {Q : VK} (h : rG X W (JD X.K) (mCall f ma) σ H Q) : rG X W (JVs X.K) ma σ H fun vs H1 => rOC X.K f vs H1 Q := by
  obtain ⟨G, e, s, F, rl, p⟩ := h
  refine rG_seq rl p fun a s1 H1 F1 x rl1 st1 w1 jx p1 => ?_
  obtain ⟨c, e1, q⟩ := p1.lift
  exact ⟨F1, a, c, w1.sub, jx H1 F1 Stp.refl w1.sub, e1, fun v H' F' al i => q H' F' al.stp (al.wok w1) v i⟩
theorem de_callB {f : List D → Option D} {id : String} {x : Str} {p pos : Pos} {a : Expr} {es : List Expr} {ma : Mn (List D)} (hc : CallR X (.builtin id) (rOC X.K f)) (hm : X.mg x = none) (hv : bootBuiltins x = some (.builtin id)) (ha : DVs X W (a :: es) ma) (hg : Gl X x := by rfl)
    (hn : x ≠ "__name__" := by decide) (hdb : (x == ("__debug__" : Str)) = false := by decide) (he : starEach (a :: es) X.env = (false, eval a X.env) :: starEach es X.env := by rfl) (hpl : (backTo pos (starEach es X.env)).any (·.1) = false := by rfl) :
    DE X W (.Call (.Name x p) (a :: es) [] pos) (mCall f ma) := pe_imp (pe_callB hc hg hm hv ha hn hdb he hpl) fun σ H Q h => call_of h
theorem de_callTy {f : List D → Option D} {id : String} {x : Str} {p pos : Pos} {a : Expr} {es : List Expr} {ma : Mn (List D)} (hc : CallR X (.type id) (rOC X.K f)) (hm : X.mg x = none) (hv : bootBuiltins x = some (.type id)) (ha : DVs X W (a :: es) ma) (hg : Gl X x := by rfl)
    (hn : x ≠ "__name__" := by decide) (hdb : (x == ("__debug__" : Str)) = false := by decide) (he : starEach (a :: es) X.env = (false, eval a X.env) :: starEach es X.env := by rfl) (hpl : (backTo pos (starEach es X.env)).any (·.1) = false := by rfl) :
    DE X W (.Call (.Name x p) (a :: es) [] pos) (mCall f ma) := pe_imp (pe_callTy hc hg hm hv ha hn hdb he hpl) fun σ H Q h => call_of h
theorem pr1 {α β : Type} {R : α → β → Prop} {xs : List α} {d : β} (h : Paired R xs [d]) : ∃ x, xs = [x] ∧ R x d := by
  cases h with
  | cons a b =>
    cases b
    exact ⟨_, rfl, a⟩
theorem pr2 {α β : Type} {R : α → β → Prop} {xs : List α} {d d' : β} (h : Paired R xs [d, d']) : ∃ x y, xs = [x, y] ∧ R x d ∧ R y d' := by
  cases h with
  | cons a b =>
    obtain ⟨y, rfl, q⟩ := pr1 b
    exact ⟨_, y, rfl, a, q⟩
def dLen : List D → Option D
  | [.list ds] => some (.int ds.length)
  | [.tuple ds] => some (.int ds.length)
  | [.str z] => if szB z.length then some (.int z.length) else none
  | _ => none
theorem cr_len : CallR X (.builtin "len") (rOC X.K dLen) := cr_imp (CallR.or call_len_seq call_len_str) fun xs H Q ⟨F, ds, r, sub, hx, e, q⟩ => by
  unfold dLen at e
  split at e
  · cases e
    obtain ⟨x, rfl, h⟩ := pr1 hx
    obtain ⟨a1, vs, rfl, h1, h2, h3⟩ := h.list sub
    exact .inl ⟨a1, vs, rfl, .inl (.inl (.inl h1)), by rw [h2.length]; exact q _ H F (Al.refl sub) (.int _)⟩
  · cases e
    obtain ⟨x, rfl, h⟩ := pr1 hx
    obtain ⟨a1, vs, rfl, h1, h2, h3⟩ := h.tuple
    exact .inl ⟨a1, vs, rfl, .inr (Same.seqT sub h1), by rw [h2.length]; exact q _ H F (Al.refl sub) (.int _)⟩
  · split at e
    · cases e
      rename_i z
      obtain ⟨x, rfl, h⟩ := pr1 hx
      exact .inr ⟨_, by rw [h.str], szB_ok z, q _ H F (Al.refl sub) (.int _)⟩
    · cases e
  · cases e
def dAbs : List D → Option D
  | [.int i] => some (.int (if i < 0 then -i else i))
  | _ => none
theorem cr_abs : CallR X (.builtin "abs") (rOC X.K dAbs) := cr_imp call_abs fun xs H Q ⟨F, ds, r, sub, hx, e, q⟩ => by
  unfold dAbs at e
  split at e
  · cases e
    obtain ⟨x, rfl, h⟩ := pr1 hx
    exact ⟨_, by rw [h.int], q _ H F (Al.refl sub) (.int _)⟩
  · cases e
def dInt : List D → Option D
  | [.int i] => some (.int i)
  | [.bool k] => some (.int (if k then 1 else 0))
  | _ => none
theorem cr_int : CallR X (.type "int") (rOC X.K dInt) := cr_imp call_int1 fun xs H Q ⟨F, ds, r, sub, hx, e, q⟩ => by
  unfold dInt at e
  split at e
  · cases e
    obtain ⟨x, rfl, h⟩ := pr1 hx
    exact .inl ⟨_, by rw [h.int], q _ H F (Al.refl sub) (.int _)⟩
  · cases e
    obtain ⟨x, rfl, h⟩ := pr1 hx
    exact .inr ⟨_, by rw [h.bool], q _ H F (Al.refl sub) (.int _)⟩
  · cases e
theorem int_list {K : PySem.W.Frag} {F : Hp} : ∀ {ds : List D} {ns : List Int}, ds.mapM intD = some ns → ds = ns.map PyData.int
  | [], ns, h => by
    cases ns with
    | nil => rfl
    | cons a b => simp at h
  | d :: ds, ns, h => by
    rw [List.mapM_cons] at h
    cases q : intD d with
    | none => rw [q] at h; cases h
    | some i =>
      rw [q] at h
      cases q2 : ds.mapM intD with
      | none => rw [q2] at h; cases h
      | some js =>
        rw [q2] at h
        cases h
        rw [List.map_cons, ← int_list (K := K) (F := F) q2, intD_some q]
/-- the greatest of some -/
def maxL : Int → List Int → Int
  | m, [] => m
  | m, x :: r => maxL (if x > m then x else m) r
theorem maxL_ge : ∀ (r : List Int) (m : Int), m ≤ maxL m r
  | [], m => Int.le_refl _
  | x :: r, m => by
    unfold maxL
    have := maxL_ge r (if x > m then x else m)
    split at this <;> rename_i c
    · rw [if_pos c]; omega
    · rw [if_neg c]; omega
theorem maxL_all : ∀ (r : List Int) (m : Int), ∀ y ∈ r, y ≤ maxL m r
  | [], m, y, h => by cases h
  | x :: r, m, y, h => by
    unfold maxL
    rcases List.mem_cons.mp h with e | h
    · subst e
      have := maxL_ge r (if y > m then y else m)
      split at this <;> rename_i c
      · rw [if_pos c]; exact this
      · rw [if_neg c]; omega
    · exact maxL_all r _ y h
theorem maxL_mem : ∀ (r : List Int) (m : Int), maxL m r = m ∨ maxL m r ∈ r
  | [], m => .inl rfl
  | x :: r, m => by
    unfold maxL
    rcases maxL_mem r (if x > m then x else m) with h | h
    · by_cases c : x > m
      · rw [if_pos c] at h ⊢
        exact .inr (by rw [h]; exact List.mem_cons_self)
      · rw [if_neg c] at h ⊢
        exact .inl h
    · exact .inr (List.mem_cons_of_mem _ h)
def dMax : List D → Option D
  | [.int i, .int j] => some (.int (if j > i then j else i))
  | [.list (.int m :: ds)] => (ds.mapM intD).map fun ns => .int (maxL m ns)
  | _ => none
theorem cr_maxD (hc : X.calm = true) : CallR X (.builtin "max") (rOC X.K dMax) := cr_imp (CallR.or (call_max2 hc) (cr_max hc)) fun xs H Q ⟨F, ds, r, sub, hx, e, q⟩ => by
  unfold dMax at e
  split at e
  · cases e
    obtain ⟨x, y, rfl, h, h'⟩ := pr2 hx
    exact .inl ⟨_, _, by rw [h.int, h'.int], q _ H F (Al.refl sub) (.int _)⟩
  · rename_i m ds
    rw [Option.map_eq_some_iff] at e
    obtain ⟨ns, e1, rfl⟩ := e
    obtain ⟨x, rfl, h⟩ := pr1 hx
    obtain ⟨a1, vs, rfl, h1, h2, h3⟩ := h.list sub
    have e2 := int_list (K := X.K) (F := F) e1
    subst e2
    have e3 : vs = (m :: ns).map V.int := IsAll.of_ints (ns := m :: ns) h2
    subst e3
    refine .inr ⟨a1, m :: ns, rfl, .inl (.inl h1), by simp, fun z hz hz2 => ?_⟩
    have e4 : z = maxL m ns := by
      have k1 : maxL m ns ≤ z := hz2 _ (by
        rcases maxL_mem ns m with k | k
        · rw [k]; exact List.mem_cons_self
        · exact List.mem_cons_of_mem _ k)
      rcases List.mem_cons.mp hz with k | k
      · have := maxL_ge ns m
        omega
      · have := maxL_all ns m z k
        omega
    rw [e4]
    exact q _ H F (Al.refl sub) (.int _)
  · cases e
def dMin2 : List D → Option D
  | [.int i, .int j] => some (.int (if j < i then j else i))
  | _ => none
theorem cr_minD (hc : X.calm = true) : CallR X (.builtin "min") (rOC X.K dMin2) := cr_imp (call_min2 hc) fun xs H Q ⟨F, ds, r, sub, hx, e, q⟩ => by
  unfold dMin2 at e
  split at e
  · cases e
    obtain ⟨x, y, rfl, h, h'⟩ := pr2 hx
    exact ⟨_, _, by rw [h.int, h'.int], q _ H F (Al.refl sub) (.int _)⟩
  · cases e
def dTuple : List D → Option D
  | [.list ds] => some (.tuple ds)
  | [.tuple ds] => some (.tuple ds)
  | _ => none
theorem cr_tuple : CallR X (.type "tuple") (rOC X.K dTuple) := cr_imp call_tuple_of fun xs H Q ⟨F, ds, r, sub, hx, e, q⟩ => by
  unfold dTuple at e
  split at e
  · cases e
    obtain ⟨x, rfl, h⟩ := pr1 hx
    obtain ⟨a1, vs, rfl, h1, h2, h3⟩ := h.list sub
    exact ⟨a1, vs, rfl, .inl ⟨.inl (.inl h1), fun p n => q _ _ _ (Al.make (o := .tup _) sub n) (.tup (.inl (.inl upd_same)) (IsAll.mono (same_upd (sub.free n)) h2) h3)⟩⟩
  · cases e
    obtain ⟨x, rfl, h⟩ := pr1 hx
    obtain ⟨a1, vs, rfl, h1, h2, h3⟩ := h.tuple
    exact ⟨a1, vs, rfl, .inr ⟨Same.seqT sub h1, q _ H F (Al.refl sub) (.tup h1 h2 h3)⟩⟩
  · cases e
def dSum : List D → Option D
  | [.list ds] => (ds.mapM intD).map fun ns => .int ns.sum
  | _ => none
theorem cr_sumD (hc : X.calm = true) : CallR X (.builtin "sum") (rOC X.K dSum) := cr_imp (cr_sum hc) fun xs H Q ⟨F, ds, r, sub, hx, e, q⟩ => by
  unfold dSum at e
  split at e
  · rename_i ds
    rw [Option.map_eq_some_iff] at e
    obtain ⟨ns, e1, rfl⟩ := e
    obtain ⟨x, rfl, h⟩ := pr1 hx
    obtain ⟨a1, vs, rfl, h1, h2, h3⟩ := h.list sub
    have e2 := int_list (K := X.K) (F := F) e1
    subst e2
    have e3 : vs = ns.map V.int := IsAll.of_ints h2
    subst e3
    exact ⟨a1, ns, rfl, .inl (.inl h1), q _ H F (Al.refl sub) (.int _)⟩
  · cases e
def bolD : D → Option Bool := tst
theorem bool_list : ∀ {ds : List D} {ns : List Bool}, ds.mapM tst = some ns → ds = ns.map PyData.bool
  | [], ns, h => by
    cases ns with
    | nil => rfl
    | cons a b => simp at h
  | d :: ds, ns, h => by
    rw [List.mapM_cons] at h
    cases q : tst d with
    | none => rw [q] at h; cases h
    | some i =>
      rw [q] at h
      cases q2 : ds.mapM tst with
      | none => rw [q2] at h; cases h
      | some js =>
        rw [q2] at h
        cases h
        rw [List.map_cons, ← bool_list q2, tst_some q]
def dAll : List D → Option D
  | [.list ds] => (ds.mapM tst).map fun bs => .bool (bs.all id)
  | _ => none
theorem cr_allD (hc : X.calm = true) : CallR X (.builtin "all") (rOC X.K dAll) := cr_imp (cr_all hc) fun xs H Q ⟨F, ds, r, sub, hx, e, q⟩ => by
  unfold dAll at e
  split at e
  · rename_i ds
    rw [Option.map_eq_some_iff] at e
    obtain ⟨ns, e1, rfl⟩ := e
    obtain ⟨x, rfl, h⟩ := pr1 hx
    obtain ⟨a1, vs, rfl, h1, h2, h3⟩ := h.list sub
    have e2 := bool_list e1
    subst e2
    have e3 : vs = ns.map V.bl := IsAll.of_bools h2
    subst e3
    exact ⟨a1, ns, rfl, .inl (.inl h1), q _ H F (Al.refl sub) (.bl _)⟩
  · cases e

/-! ### new lists from built-ins -/
/-- a call that makes a new list -/
def rOL (K : PySem.W.Frag) (f : List D → Option (List D)) : List V → Hp → VK → Prop := fun xs H Q => ∃ F ds r, Same F H ∧ Paired (fun v d => IsV K H F v d) xs ds ∧ f ds = some r ∧ ∀ p vs, H p = none → IsAll K F vs r → r.length ≤ sizeLine → Q (.ref p) (upd H p (.lst vs))
def mCallL (f : List D → Option (List D)) (ma : Mn (List D)) : Mn (List D) := fun e s => (ma e s).bind fun a s1 => Rs.lift (f a) s1
theorem callL_of {f : List D → Option (List D)} {ma : Mn (List D)} {σ : L2.St} {H : Hp} {Q : VK} (h : rG X W (JL X.K) (mCallL f ma) σ H Q) : rG X W (JVs X.K) ma σ H fun vs H1 => rOL X.K f vs H1 Q := by
  obtain ⟨G, e, s, F, rl, p⟩ := h
  refine rG_seq rl p fun a s1 H1 F1 x rl1 st1 w1 jx p1 => ?_
  obtain ⟨c, e1, q⟩ := p1.lift
  refine ⟨F1, a, c, w1.sub, jx H1 F1 Stp.refl w1.sub, e1, fun b vs n i z => q _ _ (Stp.alloc n) (w1.alloc n) _ ⟨b, vs, rfl, ?_, free_of w1 n, upd_same, i, z⟩⟩
  cases z2 : H b with
  | none => rfl
  | some o => exact absurd n (st1.there b (by rw [z2]; simp))
theorem dl_callB {f : List D → Option (List D)} {id : String} {x : Str} {p pos : Pos} {a : Expr} {es : List Expr} {ma : Mn (List D)} (hc : CallR X (.builtin id) (rOL X.K f)) (hm : X.mg x = none) (hv : bootBuiltins x = some (.builtin id)) (ha : DVs X W (a :: es) ma) (hg : Gl X x := by rfl)
    (hn : x ≠ "__name__" := by decide) (hdb : (x == ("__debug__" : Str)) = false := by decide) (he : starEach (a :: es) X.env = (false, eval a X.env) :: starEach es X.env := by rfl) (hpl : (backTo pos (starEach es X.env)).any (·.1) = false := by rfl) :
    DL X W (.Call (.Name x p) (a :: es) [] pos) (mCallL f ma) := pe_imp (pe_callB hc hg hm hv ha hn hdb he hpl) fun σ H Q h => callL_of h
theorem dl_callTy {f : List D → Option (List D)} {id : String} {x : Str} {p pos : Pos} {a : Expr} {es : List Expr} {ma : Mn (List D)} (hc : CallR X (.type id) (rOL X.K f)) (hm : X.mg x = none) (hv : bootBuiltins x = some (.type id)) (ha : DVs X W (a :: es) ma) (hg : Gl X x := by rfl)
    (hn : x ≠ "__name__" := by decide) (hdb : (x == ("__debug__" : Str)) = false := by decide) (he : starEach (a :: es) X.env = (false, eval a X.env) :: starEach es X.env := by rfl) (hpl : (backTo pos (starEach es X.env)).any (·.1) = false := by rfl) :
    DL X W (.Call (.Name x p) (a :: es) [] pos) (mCallL f ma) := pe_imp (pe_callTy hc hg hm hv ha hn hdb he hpl) fun σ H Q h => callL_of h
def dListL : List D → Option (List D)
  | [.list ds] => some ds
  | [.tuple ds] => some ds
  | _ => none
theorem cl_list : CallR X (.type "list") (rOL X.K dListL) := cr_imp call_list_of fun xs H Q ⟨F, ds, r, sub, hx, e, q⟩ => by
  unfold dListL at e
  split at e
  · cases e
    obtain ⟨x, rfl, h⟩ := pr1 hx
    obtain ⟨a1, vs, rfl, h1, h2, h3⟩ := h.list sub
    exact ⟨a1, vs, rfl, .inl (.inl (.inl h1)), fun p n => q p vs n h2 h3⟩
  · cases e
    obtain ⟨x, rfl, h⟩ := pr1 hx
    obtain ⟨a1, vs, rfl, h1, h2, h3⟩ := h.tuple
    exact ⟨a1, vs, rfl, .inr (Same.seqT sub h1), fun p n => q p vs n h2 h3⟩
  · cases e
/-- the ascending arrangement -/
def insI (x : Int) : List Int → List Int
  | [] => [x]
  | y :: r => if x ≤ y then x :: y :: r else y :: insI x r
def sortI : List Int → List Int
  | [] => []
  | x :: r => insI x (sortI r)
theorem insI_perm (x : Int) : ∀ l : List Int, (insI x l).Perm (x :: l)
  | [] => List.Perm.refl _
  | y :: r => by
    unfold insI
    split
    · exact List.Perm.refl _
    · exact ((insI_perm x r).cons y).trans (List.Perm.swap x y r)
theorem sortI_perm : ∀ l : List Int, (sortI l).Perm l
  | [] => List.Perm.refl _
  | x :: r => (insI_perm x (sortI r)).trans ((sortI_perm r).cons x)
theorem insI_pair (x : Int) : ∀ l : List Int, l.Pairwise (· ≤ ·) → (insI x l).Pairwise (· ≤ ·)
  | [], _ => List.pairwise_singleton _ _
  | y :: r, h => by
    unfold insI
    cases h with
    | cons h1 h2 =>
      split
      · rename_i c
        refine .cons (fun z hz => ?_) (.cons h1 h2)
        rcases List.mem_cons.mp hz with e | hz
        · omega
        · have := h1 z hz
          omega
      · rename_i c
        refine .cons (fun z hz => ?_) (insI_pair x r h2)
        rcases List.mem_cons.mp ((insI_perm x r).mem_iff.mp hz) with e | hz
        · omega
        · exact h1 z hz
theorem sortI_pair : ∀ l : List Int, (sortI l).Pairwise (· ≤ ·)
  | [] => .nil
  | x :: r => insI_pair x _ (sortI_pair r)
theorem sort_one : ∀ {a b : List Int}, a.Perm b → a.Pairwise (· ≤ ·) → b.Pairwise (· ≤ ·) → a = b := fun {a b} p h1 h2 =>
  List.Perm.eq_of_pairwise (fun x y _ _ q1 q2 => Int.le_antisymm q1 q2) h1 h2 p
def dSorted : List D → Option (List D)
  | [.list ds] => (ds.mapM intD).map fun ns => (sortI ns).map PyData.int
  | _ => none
theorem cl_sorted : CallR X (.builtin "sorted") (rOL X.K dSorted) := cr_imp cr_sortedI fun xs H Q ⟨F, ds, r, sub, hx, e, q⟩ => by
  unfold dSorted at e
  split at e
  · rename_i ds
    rw [Option.map_eq_some_iff] at e
    obtain ⟨ns, e1, rfl⟩ := e
    obtain ⟨x, rfl, h⟩ := pr1 hx
    obtain ⟨a1, vs, rfl, h1, h2, h3⟩ := h.list sub
    have e2 := int_list (K := X.K) (F := F) e1
    subst e2
    have e3 : vs = ns.map V.int := IsAll.of_ints h2
    subst e3
    refine ⟨a1, ns, rfl, .inl (.inl h1), fun ns' p k1 k2 n => ?_⟩
    have e4 : ns' = sortI ns := sort_one (k1.trans (sortI_perm ns).symm) k2 (sortI_pair ns)
    subst e4
    refine q p _ n (IsAll.ints _) ?_
    rw [List.length_map] at h3 ⊢
    rw [(sortI_perm ns).length_eq]
    exact h3
  · cases e
end
end Pt

/-! Pt E: defs, calls, repr; statements. -/
namespace Pt
open PySem PySem.Spec PyProof.Rows L2

/-- a def's promise where no text of a container is being made -/
structure FnG (P : Program) (w : World) (K : PySem.W.Frag) (mg : Str → Option Value) (base : Heap) (k : Nat) (f : Addr) (fd : FuncData) (ps : List Str) (sp : Sp) : Prop where
  len : ∀ vs H Q E, sp vs H Q E → vs.length = ps.length
  run : ∀ (A : Around) (outer : List Env) (s : Shared) (H : Hp) (args : Args) (us : List Value) (vs : List V) (Q : VK) (E : XK), Room k A → A.guards = some [] →
    Env0 P w K mg base A outer s H → BindsTo s fd args (ps.zip us) → Vals vs us → sp vs H Q E → codeAny (model P w) A (.call (.ref f) args) (CR (L2.CX P w) outer P w H s Q E) s
section
variable {P : Program} {w : World} {K : PySem.W.Frag} {mg : Str → Option Value} {base : Heap} {k j : Nat} {f : Addr} {fd : FuncData} {ps : List Str} {sp sp' : Sp}
theorem FnG.of (F : FnOk P w K mg base (L2.CX P w) k f fd ps sp) : FnG P w K mg base k f fd ps sp := ⟨F.len, fun A outer s H args us vs Q E hr _ => F.run A outer s H args us vs Q E hr⟩
theorem FnG.mono (F : FnG P w K mg base j f fd ps sp) (h : j ≤ k) : FnG P w K mg base k f fd ps sp := ⟨F.len, fun A outer s H args us vs Q E hr => F.run A outer s H args us vs Q E (hr.mono h)⟩
theorem FnG.imp (F : FnG P w K mg base k f fd ps sp) (h : ∀ vs H Q E, sp' vs H Q E → sp vs H Q E) : FnG P w K mg base k f fd ps sp' :=
  ⟨fun vs H Q E q => F.len vs H Q E (h _ _ _ _ q), fun A outer s H args us vs Q E hr hg he hb hv q => F.run A outer s H args us vs Q E hr hg he hb hv (h _ _ _ _ q)⟩
/-- from the body's walk -/
theorem fnG_of {x qual : Str} {st : Stmt} {N : List Str} (F : Fun K x qual st f fd) (S : FnScope N ps (defScope st)) (len : ∀ vs H Q E, sp vs H Q E → vs.length = ps.length)
    (body : ∀ (cdv : Value) (A : Around) (outer : List Env) (s : Shared) (H : Hp) (vs : List V) (Q : VK) (E : XK), Room k (A.deeper (envOfC qual (defScope st) s.heap.objs.size f cdv)) → A.guards = some [] → sp vs H Q E →
      ∃ t, PSs (cxOf (L2.CX P w) P w K mg base N qual (defScope st) f cdv A outer s H E) (defBody st) t ∧ t { nx := fun _ H' => Q .non H', rt := Q } (start N vs) H) :
    FnG P w K mg base (k + 1) f fd ps sp := by
  obtain ⟨oc, od, kV, doc, pm, an, cdv, ct, osl, rfl, lk, hcd⟩ := F.ex
  constructor
  · exact len
  intro A outer s H args us vs Q E hr hgd env0 binds rel promise
  have count : vs.length = ps.length := len vs H Q E promise
  have stays : ∀ (b : Addr) (o : Obj), base.get? b = some o → s.heap.get? b = some o := fun b o q => (env0.bs b o q).1
  have inK : K.In s.heap := env0.mod.kin.keeps stays
  have noLim : s.heap.NoLimit := env0.mod.nolimit.keeps stays
  have kinds : ∀ y ∈ ps.zip us, (defScope st).names.lookup y.1 = some .local ∨ ((defScope st).names.lookup y.1 = some .cell ∧ ((cellsFrom (s.heap.objs.size + 1) (defScope st).names []).lookup y.1).isSome = true) := by
    rintro ⟨n, v⟩ hy
    cases S.par n (List.of_mem_zip hy).1 with
    | inl q => exact Or.inl q
    | inr q => exact Or.inr ⟨q, PySem.W.cellsFrom_some _ _ _ (Or.inl q)⟩
  apply codeAny_call_function hr.depth (inK f _ lk) rfl S.co S.gen rfl (PySem.W.codeRec_of inK hcd)
  apply binds
  apply wpAny_newFunctionEnv_cells S.kind kinds
  intro env he s1 new
  cases he
  refine ⟨noLim.keeps new.toInCall.keep, ?_⟩
  apply codeAny_func
  obtain ⟨t, walk, reads⟩ := body cdv A outer s H vs Q E (hr.deeper _) hgd promise
  have J := inv_start (CX := L2.CX P w) (E := E) S hr.hd env0 count rel new
  apply wpAny_mono (walk.run [] s1 (start N vs) H _ J reads)
  · intro fl s' ends
    match fl, ends with
    | .ret u, ⟨v, σ', H', J', rv, q⟩ => exact ⟨v, H', J'.os, J'.bare, J'.base, J'.hok, rv, q⟩
    | .next, ⟨σ', H', J', q⟩ => exact ⟨V.non, H', J'.os, J'.bare, J'.base, J'.hok, rfl, q⟩
    | .brk, ⟨_, _, _, q⟩ => exact q.elim
    | .cont, ⟨_, _, _, q⟩ => exact q.elim
  · intro e s' ends
    exact ends
end
/-- the promise by a function on data -/
abbrev Fs := List Ar → Src → Rs D
def ExcK (mg : Str → Option Value) (K : PySem.W.Frag) (c : Str) (x : List (Str × D)) (cls : Value) (dd : Option Addr) (H F : Hp) : Prop :=
  ∃ (C d : Addr) (vs : List (Str × V)), mg c = some (.ref C) ∧ cls = .ref C ∧ dd = some d ∧ H d = some (.xd vs) ∧ Paired (fun (p : Str × V) (q : Str × D) => p.1 = q.1 ∧ Is K F p.2 q.2) vs x
def PoF (mg : Str → Option Value) (K : PySem.W.Frag) (M : Option (Addr × Addr)) (H F : Hp) (Q : VK) (E : XK) : Rs D → Prop
  | .ok d s => ∀ v H' F', Stp M H F H' F' → Wok M H' F' s → Is K F' v d → Q v H'
  | .ex c x s => ∀ cls dd H' F', Stp M H F H' F' → Wok M H' F' s → ExcK mg K c x cls dd H' F' → E cls dd H'
  | .no => False
def spD (mg : Str → Option Value) (K : PySem.W.Frag) (np : Nat) (f : Fs) : Sp := fun vs H Q E => ∃ M F as s, Wok M H F s ∧ IsArs K M F vs as ∧ as.length = np ∧ PoF mg K M H F Q E (f as s)
theorem paired_len {α β : Type} {R : α → β → Prop} : ∀ {xs : List α} {ys : List β}, Paired R xs ys → xs.length = ys.length
  | _, _, .nil => rfl
  | _, _, .cons _ t => congrArg (· + 1) (paired_len t)
theorem spD_len {mg : Str → Option Value} {K : PySem.W.Frag} {np : Nat} {f : Fs} : ∀ vs H Q E, spD mg K np f vs H Q E → vs.length = np := fun vs H Q E ⟨M, F, as, s, _, h, e, _⟩ => (paired_len h).trans e
/-- a promise by another function that does more -/
theorem spD_imp {mg : Str → Option Value} {K : PySem.W.Frag} {np : Nat} {f g : Fs} (h : ∀ as s, as.length = np → g as s = .no ∨ f as s = g as s) : ∀ vs H Q E, spD mg K np g vs H Q E → spD mg K np f vs H Q E := fun vs H Q E ⟨M, F, as, s, w, ia, e, p⟩ => by
  rcases h as s e with q | q
  · rw [q] at p; exact p.elim
  · exact ⟨M, F, as, s, w, ia, e, by rw [q]; exact p⟩
section
variable {X : Cx} {W : WX}
def mApp (f : Fs) (ma : Mn (List Ar)) : Mn D := fun e s => (ma e s).bind fun as s1 => f as s1
theorem mono_len (ma : Mn (List Ar)) : True := trivial
theorem de_call {f : Fs} {np k : Nat} {fa : Addr} {fd : FuncData} {ps : List Str} {x : Str} {p pos : Pos} {a : Expr} {es : List Expr} {ma : Mn (List Ar)}
    (F : FnG X.prog X.w X.K X.mg X.base k fa fd ps (spD X.mg X.K np f)) (hr : Room k X.A) (hgd : X.A.guards = some []) (tk : Takes X W) (hm : X.mg x = some (.ref fa)) (hk : PySem.W.keepIn X.K (.ref fa) = true) (hb : Binds X.K fd ps [])
    (ha : DA X W (a :: es) ma) (hl : ∀ e s as s1, ma e s = .ok as s1 → as.length = np) (hg : Gl X x := by rfl) (hdb : (x == ("__debug__" : Str)) = false := by decide) (he : starEach (a :: es) X.env = (false, eval a X.env) :: starEach es X.env := by rfl) (hpl : (backTo pos (starEach es X.env)).any (·.1) = false := by rfl) :
    DE X W (.Call (.Name x p) (a :: es) [] pos) (mApp f ma) := by
  refine ⟨fun pins s σ H Q I h => ?_⟩
  obtain ⟨G, e, s0, F0, rl, po⟩ := h
  have rd : rG X W (JA X.K) ma σ H fun vs H1 => spD X.mg X.K np f vs H1 Q fun cls dd H' => W cls dd σ H' := by
    unfold mApp at po
    refine ⟨G, e, s0, F0, rl, ?_⟩
    cases hm : ma e s0 with
    | no => rw [hm] at po; exact po.elim
    | ex c x s1 => rw [hm] at po; exact po
    | ok as s1 =>
      rw [hm] at po
      intro H1 F1 st w vs j
      refine ⟨G.M, F1, as, s1, w, j, hl _ _ _ _ hm, ?_⟩
      have po : Po X W G σ H F0 (fun (a : D) _ H' F' => ∀ b, JD X.K G.M H F0 H' F' b a → Q b H') (f as s1) := po
      have po2 := po.later st
      cases hf : f as s1 with
      | no => rw [hf] at po2; exact po2.elim
      | ok d s2 => rw [hf] at po2; exact fun v H' F' st2 w2 i => po2 H' F' st2 w2 v i
      | ex c x s2 => rw [hf] at po2; exact fun cls dd H' F' st2 w2 i => po2 cls dd H' F' st2 w2 i
  refine wpAny_Call_Name_kw (ld_glob I hg hm ?_ hdb)
  refine PySem.W.callWith_K (h₀ := X.base) I.ok.mod.kin hk (thn (ha.run pos pins s σ H _ I rd) fun us s1 ⟨vs, H1, I1, r, q⟩ => ⟨I1.kIn, ?_⟩) he hpl
  have hlen : us.length = ps.length := by rw [← r.length]; exact F.len _ _ _ _ q
  have hb' : BindsTo s1 fd ⟨us, []⟩ (ps.zip us) := by
    have := hb s1 us I1.kIn (by rw [List.append_nil]; exact hlen)
    rw [List.append_nil] at this
    exact this
  apply wpAny_call
  apply codeAny_mono (F.run X.A X.stack s1 H1 ⟨us, []⟩ us vs Q _ hr hgd I1.env0 hb' r q)
  intro rr s' hq
  match rr, hq with
  | .error e, hq => exact passAt tk σ pins H1 s1 e s' I1 hq
  | .ok (.ret u), hq => exact I1.after hq
  | .ok .next, hq => exact hq.elim
  | .ok .brk, hq => exact hq.elim
  | .ok .cont, hq => exact hq.elim

/-! ### repr -/
def textOk (d : D) : Bool := SeqAt.shaped d && d.showable && szB d.shown.length
def dRepr : List D → Option D
  | [d] => if textOk d then some (.str d.shown) else none
  | _ => none
theorem cr_repr (hgd : X.A.guards = some []) (hu : X.A.units + 70 < cLine) : CallR X (.builtin "repr") (rOC X.K dRepr) := by
  intro pins s σ H xs us Q I r h
  obtain ⟨F, ds, c, sub, hx, e, q⟩ := h
  unfold dRepr at e
  split at e
  · rename_i d
    split at e
    · cases e
      rename_i z
      unfold textOk at z
      rw [Bool.and_eq_true, Bool.and_eq_true] at z
      obtain ⟨⟨z1, z2⟩, z3⟩ := z
      obtain ⟨x, rfl, hv⟩ := pr1 hx
      obtain ⟨u, rfl, ru⟩ := vals1 r
      have lay := SeqAt.canLay_of_shaped z1
      have dep := SeqAt.depth_of_shaped z1
      have dp := hv.dp sub lay
      have fin : ∀ (h' : Heap) (t : Tok) (tk : Nat), (∀ b o, s.heap.get? b = some o → h'.get? b = some o) → EP X pins σ Q (.str d.shown t) { s with heap := h', toks := tk } := fun h' t tk kp =>
        ⟨.str d.shown, H, I.kept (t' := tk) kp, ⟨t, rfl⟩, q _ H F (Al.refl sub) (.str _)⟩
      cases dp with
      | non => cases ru; exact PySem.P.repr_of_none (fin s.heap _ _ fun _ _ q => q)
      | bl b => cases ru; exact PySem.P.repr_of_bool (fin s.heap _ _ fun _ _ q => q)
      | int i =>
        obtain ⟨t, rfl⟩ := ru
        exact PySem.P.repr_of_int (of_decide_eq_true (by simpa only [PyData.showable] using z2)) (fin s.heap _ _ fun _ _ q => q)
      | str b =>
        obtain ⟨t, rfl⟩ := ru
        exact PySem.P.repr_of_str (fin s.heap _ _ fun _ _ q => q) (szB_ok z3)
      | lst h1 h2 =>
        obtain ⟨as, rd⟩ := Dp.reads I _ _ u (.lst h1 h2) ru
        cases ru
        exact repr_of_reads' rd z2 (PyData.noDict_hsm (PyData.hasDict_of_canLay _ lay)) hgd (by omega) (fun _ _ q => q) (fun h' t tk kp => fin h' t tk kp) (szB_ok z3)
      | tup h1 h2 =>
        obtain ⟨as, rd⟩ := Dp.reads I _ _ u (.tup h1 h2) ru
        cases ru
        exact repr_of_reads' rd z2 (PyData.noDict_hsm (PyData.hasDict_of_canLay _ lay)) hgd (by omega) (fun _ _ q => q) (fun h' t tk kp => fin h' t tk kp) (szB_ok z3)
    · cases e
  · cases e
end
end Pt

/-! Pt F: statements. -/
namespace Pt
open PySem PySem.Spec PyProof.Rows L2

def PoS (X : Cx) (W : WX) (G : Gh) (Z : Ends) : Sr → Prop
  | .nx e s => ∀ σ' H' F', Rel X.K G σ' H' F' e s → Z.nx σ' H'
  | .bk e s => ∀ σ' H' F', Rel X.K G σ' H' F' e s → Z.bk σ' H'
  | .ct e s => ∀ σ' H' F', Rel X.K G σ' H' F' e s → Z.ct σ' H'
  | .rt d s => ∀ v H' F', Stp G.M G.H0 G.F0 H' F' → Wok G.M H' F' s → Is X.K F' v d → Z.rt v H'
  | .ex c x e s => ∀ cls dd σ' H' F', Rel X.K G σ' H' F' e s → Exc X c x cls dd H' F' → W cls dd σ' H'
  | .no => False
def rS (X : Cx) (W : WX) (m : Ms) : TS := fun Z σ H => ∃ G e s F, Rel X.K G σ H F e s ∧ PoS X W G Z (m e s)
def DS (X : Cx) (W : WX) (st : Stmt) (m : Ms) : Prop := PS X st (rS X W m)
def DSs (X : Cx) (W : WX) (st : List Stmt) (m : Ms) : Prop := PSs X st (rS X W m)
def mSeq (a b : Ms) : Ms := fun e s => match a e s with
  | .nx e1 s1 => b e1 s1
  | r => r
def mSkip : Ms := fun e s => .nx e s
def mE {α : Type} (m : Mn α) (k : α → Sg → Src → Sr) : Ms := fun e s => match m e s with
  | .ok a s1 => k a e s1
  | .ex c x s1 => .ex c x e s1
  | .no => .no
def mMap {α β : Type} (g : α → β) (m : Mn α) : Mn β := fun e s => (m e s).bind fun a s1 => .ok (g a) s1
section
variable {X : Cx} {W : WX}
theorem dss_nil : DSs X W [] mSkip := pss_imp pss_nil fun Z σ H ⟨G, e, s, F, rl, p⟩ => p σ H F rl
theorem dss_cons {st : Stmt} {rest : List Stmt} {a b : Ms} (h1 : DS X W st a) (h2 : DSs X W rest b) : DSs X W (st :: rest) (mSeq a b) := pss_imp (pss_cons h1 h2) fun Z σ H ⟨G, e, s, F, rl, p⟩ => by
  refine ⟨G, e, s, F, rl, ?_⟩
  unfold mSeq at p
  cases q : a e s with
  | nx e1 s1 => rw [q] at p; exact fun σ' H' F' rl' => ⟨G, e1, s1, F', rl', p⟩
  | bk e1 s1 => rw [q] at p; exact p
  | ct e1 s1 => rw [q] at p; exact p
  | rt d s1 => rw [q] at p; exact p
  | ex c x e1 s1 => rw [q] at p; exact p
  | no => rw [q] at p; exact p
theorem dss_one {st : Stmt} {a : Ms} (h1 : DS X W st a) : DSs X W [st] a := pss_one h1
/-- from a statement's end to its expression's reading -/
theorem E_of {α β : Type} {J : Jt β α} {m : Mn α} {k : α → Sg → Src → Sr} {Z : Ends} {G : Gh} {e : Sg} {s : Src} {F : Hp} {σ : L2.St} {H : Hp} {Q : β → Hp → Prop} (rl : Rel X.K G σ H F e s) (p : PoS X W G Z (mE m k e s))
    (q : ∀ a s1 H1 F1 b, Rel X.K G σ H1 F1 e s1 → Stp G.M H F H1 F1 → J G.M H F H1 F1 b a → PoS X W G Z (k a e s1) → Q b H1) : rG X W J m σ H Q := by
  refine ⟨G, e, s, F, rl, ?_⟩
  unfold mE at p
  cases hm : m e s with
  | no => rw [hm] at p; exact p
  | ex c x s1 => rw [hm] at p; exact fun cls dd H' F' st w ex => p cls dd σ H' F' (rl.step st w) ex
  | ok a s1 => rw [hm] at p; exact fun H1 F1 st w b j => q a s1 H1 F1 b (rl.step st w) st j p
theorem rS_E {α β : Type} {J : Jt β α} {m : Mn α} {k : α → Sg → Src → Sr} {Z : Ends} {σ : L2.St} {H : Hp} {Q : β → Hp → Prop} (h : rS X W (mE m k) Z σ H)
    (q : ∀ G e F s a s1 H1 F1 b, Rel X.K G σ H F e s → Rel X.K G σ H1 F1 e s1 → Stp G.M H F H1 F1 → J G.M H F H1 F1 b a → PoS X W G Z (k a e s1) → Q b H1) : rG X W J m σ H Q := by
  obtain ⟨G, e, s, F, rl, p⟩ := h
  exact E_of rl p fun a s1 H1 F1 b rl1 st j p1 => q G e F s a s1 H1 F1 b rl rl1 st j p1

/-! ### what is stored -/
def JS (K : PySem.W.Frag) : Jt V Sl := fun M H F H' F' v y => match y with
  | .d x => Is K F' v x
  | .l xs => JL K M H F H' F' v xs
  | .k kvs => JK K M H F H' F' v kvs
  | .t kvs => JT K M H F H' F' v kvs
  | .h xs => ∃ a vs, v = .ref a ∧ F' a = some (.tup vs) ∧ IsAll K F' vs xs ∧ xs.length ≤ sizeLine
  | _ => False
/-- v may be stored as y: its address is no other slot's -/
def Rdy (K : PySem.W.Frag) (G : Gh) (σ : L2.St) (H F : Hp) (e : Sg) (v : V) (y : Sl) : Prop :=
  SlOk K G H F (some (some v)) y ∧ (own y = true → ∃ a, v = .ref a ∧ ∀ (j : Nat) (z : Sl), e[j]? = some z → own z = true → σ[j]? ≠ some (some (.ref a)))
theorem Rel.store {K : PySem.W.Frag} {G : Gh} {σ : L2.St} {H F : Hp} {e : Sg} {s : Src} {v : V} {y : Sl} (i : Nat) (r : Rel K G σ H F e s) (h : Rdy K G σ H F e v y) : Rel K G (σ.set i (some v)) H F (e.set i y) s := by
  obtain ⟨h1, h2⟩ := h
  cases o : own y with
  | false => exact r.put o h1
  | true =>
    obtain ⟨a, rfl, h3⟩ := h2 o
    exact r.putOwn h1 fun j z hj oz _ => h3 j z hj oz
/-- a value is ready where it is made -/
theorem rdy_of {K : PySem.W.Frag} {G : Gh} {σ : L2.St} {H F H1 F1 : Hp} {e : Sg} {s : Src} {v : V} {y : Sl} (r : Rel K G σ H F e s) (j : JS K G.M H F H1 F1 v y) : Rdy K G σ H1 F1 e v y := by
  have other : ∀ a, H a = none → ∀ (j : Nat) (z : Sl), e[j]? = some z → own z = true → σ[j]? ≠ some (some (.ref a)) := fun a ha j z hj oz q => by
    obtain ⟨b, h1, h2, _⟩ := r.ownAt hj oz
    rw [q] at h1
    cases h1
    exact h2 ha
  have h0 : ∀ a, H a = none → G.H0 a = none := fun a ha => by
    cases q : G.H0 a with
    | none => rfl
    | some o => exact absurd ha (r.st.there a (by rw [q]; simp))
  cases y with
  | un => exact j.elim
  | src => exact j.elim
  | scr _ => exact j.elim
  | h xs =>
    obtain ⟨a, vs, rfl, h1, h2, h3⟩ := j
    exact ⟨⟨a, vs, rfl, h1, h2, h3⟩, fun z => by cases z⟩
  | d x => exact ⟨⟨v, rfl, j⟩, fun z => by cases z⟩
  | l xs =>
    obtain ⟨a, vs, rfl, h1, h2, h3, h4, h5⟩ := j
    exact ⟨⟨a, vs, rfl, h3, h4, h0 a h1, h2, h5⟩, fun _ => ⟨a, rfl, other a h1⟩⟩
  | k xs =>
    obtain ⟨a, vs, rfl, h1, h2, h3, h4, h5⟩ := j
    exact ⟨⟨a, vs, rfl, h3, h4, h0 a h1, h2, h5⟩, fun _ => ⟨a, rfl, other a h1⟩⟩
  | t xs =>
    obtain ⟨a, vs, rfl, h1, h2, h3, h4, h5⟩ := j
    exact ⟨⟨a, vs, rfl, h3, h4, h0 a h1, h2, h5⟩, fun _ => ⟨a, rfl, other a h1⟩⟩
theorem Rdy.step {K : PySem.W.Frag} {G : Gh} {σ : L2.St} {H F H1 F1 : Hp} {e : Sg} {s : Src} {v : V} {y : Sl} (h : Rdy K G σ H F e v y) (r : Rel K G σ H F e s) (st : Stp G.M H F H1 F1) : Rdy K G σ H1 F1 e v y :=
  ⟨h.1.step (fun a q => r.notM0 q) st, h.2⟩
/-- still ready behind another store -/
theorem Rdy.after {K : PySem.W.Frag} {G : Gh} {σ : L2.St} {H F : Hp} {e : Sg} {v w : V} {y z : Sl} {i : Nat} (h : Rdy K G σ H F e v y) (ne : own y = true → own z = true → v ≠ w) : Rdy K G (σ.set i (some w)) H F (e.set i z) v y := by
  refine ⟨h.1, fun oy => ?_⟩
  obtain ⟨a, rfl, h2⟩ := h.2 oy
  refine ⟨a, rfl, fun j x hj ox q => ?_⟩
  by_cases c : i = j
  · subst c
    have hi : i < e.length := by
      have := (List.getElem?_eq_some_iff.mp hj).1
      rw [List.length_set] at this
      exact this
    rw [List.getElem?_set_self hi] at hj
    cases hj
    have hs : i < σ.length := by
      have := (List.getElem?_eq_some_iff.mp q).1
      rw [List.length_set] at this
      exact this
    rw [List.getElem?_set_self hs] at q
    cases q
    exact ne oy ox rfl
  · rw [List.getElem?_set_ne c] at hj q
    exact h2 j x hj ox q
/-- two that are made one behind the other differ -/
theorem two_own {K : PySem.W.Frag} {G : Gh} {H F H1 F1 H2 F2 : Hp} {v w : V} {y z : Sl} (j1 : JS K G.M H F H1 F1 v y) (j2 : JS K G.M H1 F1 H2 F2 w z) (oy : own y = true) (oz : own z = true) : v ≠ w := by
  have a1 : ∃ a, v = .ref a ∧ H1 a ≠ none := by
    cases y with
    | l xs => obtain ⟨a, vs, rfl, h1, h2, h3, _⟩ := j1; exact ⟨a, rfl, by rw [h3]; simp⟩
    | k xs => obtain ⟨a, vs, rfl, h1, h2, h3, _⟩ := j1; exact ⟨a, rfl, by rw [h3]; simp⟩
    | t xs => obtain ⟨a, vs, rfl, h1, h2, h3, _⟩ := j1; exact ⟨a, rfl, by rw [h3]; simp⟩
    | d x => cases oy
    | un => cases oy
    | src => cases oy
    | scr _ => cases oy
    | h _ => cases oy
  have a2 : ∃ a, w = .ref a ∧ H1 a = none := by
    cases z with
    | l xs => obtain ⟨a, vs, rfl, h1, h2, h3, _⟩ := j2; exact ⟨a, rfl, h1⟩
    | k xs => obtain ⟨a, vs, rfl, h1, h2, h3, _⟩ := j2; exact ⟨a, rfl, h1⟩
    | t xs => obtain ⟨a, vs, rfl, h1, h2, h3, _⟩ := j2; exact ⟨a, rfl, h1⟩
    | d x => cases oz
    | un => cases oz
    | src => cases oz
    | scr _ => cases oz
    | h _ => cases oz
  obtain ⟨a, rfl, h1⟩ := a1
  obtain ⟨b, rfl, h2⟩ := a2
  intro q
  cases q
  exact h1 h2
def DSl (X : Cx) (W : WX) (e : Expr) (m : Mn Sl) : Prop := PE X e (rG X W (JS X.K) m)
theorem rG_map {α β γ : Type} {J : Jt β α} {J' : Jt β γ} {g : α → γ} {m : Mn α} {σ : L2.St} {H : Hp} {Q : β → Hp → Prop} (h : rG X W J' (mMap g m) σ H Q) (k : ∀ M H F H' F' b a, J M H F H' F' b a → J' M H F H' F' b (g a)) : rG X W J m σ H Q := by
  obtain ⟨G, e, s, F, rl, p⟩ := h
  refine ⟨G, e, s, F, rl, ?_⟩
  unfold mMap at p
  cases hm : m e s with
  | no => rw [hm] at p; exact p
  | ex c x s1 => rw [hm] at p; exact p
  | ok a s1 => rw [hm] at p; exact fun H1 F1 st w b j => p H1 F1 st w b (k _ _ _ _ _ _ _ j)
theorem dsl_d {e : Expr} {m : Mn D} (h : DE X W e m) : DSl X W e (mMap Sl.d m) := pe_imp h fun σ H Q q => rG_map q fun _ _ _ _ _ _ _ j => j
theorem dsl_l {e : Expr} {m : Mn (List D)} (h : DL X W e m) : DSl X W e (mMap Sl.l m) := pe_imp h fun σ H Q q => rG_map q fun _ _ _ _ _ _ _ j => j
theorem dsl_k {e : Expr} {m : Mn (List (D × D))} (h : DK X W e m) : DSl X W e (mMap Sl.k m) := pe_imp h fun σ H Q q => rG_map q fun _ _ _ _ _ _ _ j => j
theorem dsl_t {e : Expr} {m : Mn (List (D × D))} (h : DTu X W e m) : DSl X W e (mMap Sl.t m) := pe_imp h fun σ H Q q => rG_map q fun _ _ _ _ _ _ _ j => j
/-- name = value -/
def mPut (i : Nat) (m : Mn Sl) : Ms := mE m fun y e s => .nx (e.set i y) s
theorem put_of {i : Nat} {m : Mn Sl} {Z : Ends} {σ : L2.St} {H : Hp} (h : rS X W (mPut i m) Z σ H) : rG X W (JS X.K) m σ H fun v H1 => Z.nx (σ.set i (some v)) H1 :=
  rS_E h fun G e F s y s1 H1 F1 v rl rl1 st j p => p _ H1 F1 (rl1.store i (rdy_of rl j))
theorem ds_put (i : Nat) {x : Str} {e : Expr} {m : Mn Sl} {pos' pos : Pos} (he : DSl X W e m) (hN : X.N.Nodup) (hi : X.N[i]? = some x := by rfl) (hx : Loc X.env.scope x := by first | exact Or.inl rfl | exact Or.inr rfl)
    (hs : swapsWith e (some (.Name x pos')) pos.line X.env = pure false := by rfl) (hf : X.fn x = true ∨ X.env.scope.names.lookup x = some .local := by first | exact .inl rfl | exact .inr rfl | assumption) : DS X W (.Assign [.Name x pos'] e pos) (mPut i m) :=
  ps_imp (ps_set hN hi hx he hs hf) fun Z σ H h => put_of h
def mRet (m : Mn D) : Ms := mE m fun d _ s => .rt d s
theorem ds_ret {e : Expr} {m : Mn D} {pos : Pos} (he : DE X W e m) : DS X W (.Return (some e) pos) (mRet m) :=
  ps_imp (ps_ret he) fun Z σ H h => rS_E h fun G e F s y s1 H1 F1 v rl rl1 st j p => p v H1 F1 rl1.st rl1.w j
def mDrop (m : Mn D) : Ms := mE m fun _ e s => .nx e s
theorem ds_expr {e : Expr} {m : Mn D} {pos : Pos} (he : DE X W e m) (hs : swapsWith e none pos.line X.env = pure false := by rfl) : DS X W (.Expr e pos) (mDrop m) :=
  ps_imp (ps_expr he hs) fun Z σ H h => rS_E h fun G e F s y s1 H1 F1 v rl rl1 st j p => p _ H1 F1 rl1
def mIfS (c : Mn Bool) (a b : Ms) : Ms := mE c fun k e s => if k then a e s else b e s
theorem ds_if {c : Expr} {a b : List Stmt} {mc : Mn Bool} {ma mb : Ms} {pos : Pos} (hc : DT X W c mc) (ha : DSs X W a ma) (hb : DSs X W b mb) : DS X W (.If c a b pos) (mIfS mc ma mb) :=
  ps_imp (ps_if hc ha hb) fun Z σ H h => rS_E h fun G e F s k s1 H1 F1 v rl rl1 st j p => by
    have j : v = k := j
    subst j
    cases v with
    | true => exact ⟨G, e, s1, F1, rl1, p⟩
    | false => exact ⟨G, e, s1, F1, rl1, p⟩
theorem ds_pass {pos : Pos} : DS X W (.Pass pos) mSkip := ps_imp ps_pass fun Z σ H ⟨G, e, s, F, rl, p⟩ => p σ H F rl
def mBrk : Ms := fun e s => .bk e s
def mCnt : Ms := fun e s => .ct e s
theorem ds_break {pos : Pos} : DS X W (.Break pos) mBrk := ps_imp ps_break fun Z σ H ⟨G, e, s, F, rl, p⟩ => p σ H F rl
theorem ds_continue {pos : Pos} : DS X W (.Continue pos) mCnt := ps_imp ps_continue fun Z σ H ⟨G, e, s, F, rl, p⟩ => p σ H F rl
/-- a way that is not gone -/
def mNo : Ms := fun _ _ => .no
theorem ds_no {st : Stmt} : DS X W st mNo := ps_imp ps_never fun Z σ H ⟨G, e, s, F, rl, p⟩ => p
/-- what an own slot holds stands still from now on -/
def frz (i : Nat) (e : Sg) : Sg := match e[i]? with
  | some (.l xs) => e.set i (.d (.list xs))
  | some (.k kvs) => e.set i (.d (.dict kvs))
  | some (.t kvs) => e.set i (.d (.dict ((.none, .none) :: kvs)))
  | _ => e
theorem Rel.frz {K : PySem.W.Frag} {G : Gh} {σ : L2.St} {H F : Hp} {e : Sg} {s : Src} (i : Nat) (r : Rel K G σ H F e s) : ∃ F', Rel K G σ H F' (Pt.frz i e) s := by
  have core : ∀ (y : Sl) (a : Addr) (o : HO) (d : D), e[i]? = some y → own y = true → σ[i]? = some (some (.ref a)) → H a = some o → G.H0 a = none → F a = none → Is K (upd F a o) (.ref a) d → ∃ F', Rel K G σ H F' (e.set i (.d d)) s := by
    intro y a o d hi oy hs ha h0 hf his
    refine ⟨upd F a o, ?_⟩
    have nM := r.notM0 h0
    have w' := r.w.freeze ha nM
    have st' : Stp G.M G.H0 G.F0 H (upd F a o) := ⟨r.st.keep, r.st.grow.trans (same_upd hf), fun b n q => by
      rw [upd_ne (show b ≠ a from fun z => n (by rw [z]; exact h0))]
      exact r.st.news b n q, r.st.there⟩
    refine ⟨w', st', r.m0, by rw [List.length_set]; exact r.len, fun j z hj => ?_, fun j l z x b hj hl oz ox ej el => ?_⟩
    · by_cases q : i = j
      · subst q
        rw [List.getElem?_set_self (List.getElem?_eq_some_iff.mp hi).1] at hj
        cases hj
        exact ⟨_, hs, his⟩
      · rw [List.getElem?_set_ne q] at hj
        have k := r.ok j z hj
        have ne : own z = true → σ[j]? ≠ some (some (.ref a)) := fun oz ej => q (r.inj i j y z a hi hj oy oz hs ej)
        cases z with
        | un => trivial
        | src => exact k
        | scr _ =>
          obtain ⟨b, k1, k2⟩ := k
          exact ⟨b, k1, (same_upd hf).seq k2⟩
        | h xs =>
          obtain ⟨b, vs, k1, k2, k3, k4⟩ := k
          exact ⟨b, vs, k1, same_upd hf _ _ k2, IsAll.mono (same_upd hf) k3, k4⟩
        | d x =>
          obtain ⟨u, k1, k2⟩ := k
          exact ⟨u, k1, k2.mono (same_upd hf)⟩
        | l xs =>
          obtain ⟨b, vs, k1, k2, k3, k4, k5, k6⟩ := k
          exact ⟨b, vs, k1, k2, IsAll.mono (same_upd hf) k3, k4, by rw [upd_ne (fun z => ne rfl (by rw [k1, z]))]; exact k5, k6⟩
        | k xs =>
          obtain ⟨b, vs, k1, k2, k3, k4, k5, k6⟩ := k
          exact ⟨b, vs, k1, k2, IsKV.mono (same_upd hf) k3, k4, by rw [upd_ne (fun z => ne rfl (by rw [k1, z]))]; exact k5, k6⟩
        | t xs =>
          obtain ⟨b, vs, k1, k2, k3, k4, k5, k6⟩ := k
          exact ⟨b, vs, k1, k2, IsTV.mono (same_upd hf) k3, k4, by rw [upd_ne (fun z => ne rfl (by rw [k1, z]))]; exact k5, k6⟩
    · have old : ∀ (n : Nat) (u : Sl), (e.set i (.d d))[n]? = some u → own u = true → e[n]? = some u := fun n u hn hu => by
        by_cases q : i = n
        · subst q
          rw [List.getElem?_set_self (List.getElem?_eq_some_iff.mp hi).1] at hn
          cases hn
          cases hu
        · rw [List.getElem?_set_ne q] at hn
          exact hn
      exact r.inj j l z x b (old j z hj oz) (old l x hl ox) oz ox ej el
  unfold Pt.frz
  cases q : e[i]? with
  | none => exact ⟨F, r⟩
  | some y =>
    cases y with
    | un => exact ⟨F, r⟩
    | d _ => exact ⟨F, r⟩
    | src => exact ⟨F, r⟩
    | scr _ => exact ⟨F, r⟩
    | h _ => exact ⟨F, r⟩
    | l xs =>
      obtain ⟨a, vs, h1, h2, h3, h4, h5, h6⟩ := r.ok i _ q
      exact core _ a _ (.list xs) q rfl h1 h2 h4 h5 (.lst upd_same (IsAll.mono (same_upd h5) h3) h6)
    | k xs =>
      obtain ⟨a, vs, h1, h2, h3, h4, h5, h6⟩ := r.ok i _ q
      exact core _ a _ (.dict xs) q rfl h1 h2 h4 h5 (.dct upd_same (IsKV.mono (same_upd h5) h3))
    | t xs =>
      obtain ⟨a, vs, h1, h2, h3, h4, h5, h6⟩ := r.ok i _ q
      exact core _ a _ _ q rfl h1 h2 h4 h5 (.dtt upd_same (IsTV.mono (same_upd h5) h3))
def mFrz (i : Nat) (m : Ms) : Ms := fun e s => m (frz i e) s
theorem ds_frz (i : Nat) {st : Stmt} {m : Ms} (h : DS X W st m) : DS X W st (mFrz i m) := ps_imp h fun Z σ H ⟨G, e, s, F, rl, p⟩ => by
  obtain ⟨F', rl'⟩ := rl.frz i
  exact ⟨G, _, s, F', rl', p⟩
/-- a, b = x, y -/
def mPar (i j : Nat) (a b : Mn Sl) : Ms := mE a fun y => mE b fun z e s => .nx ((e.set i y).set j z) s
theorem ds_par (i j : Nat) {x y : Str} {a b : Expr} {ma mb : Mn Sl} {px py pt pos : Pos} {kt k2 : Nat} {pt2 : Pos} (ha : DSl X W a ma) (hb : DSl X W b mb) (hc : X.calm = true) (hN : X.N.Nodup)
    (hw : swappedStores [.Tuple [.Name x px, .Name y py] kt pt] (.Tuple [a, b] k2 pt2) X.env = pure (some [x, y]) := by rfl) (hi : X.N[i]? = some x := by rfl) (hj : X.N[j]? = some y := by rfl) (hij : i ≠ j := by decide)
    (hx : X.env.scope.names.lookup x = some .local := by rfl) (hy : X.env.scope.names.lookup y = some .local := by rfl) (n1 : starEach [a, b] X.env = (false, eval a X.env) :: starEach [b] X.env := by rfl) (n2 : starEach [b] X.env = (false, eval b X.env) :: starEach [] X.env := by rfl)
    (hs : swapsWithSole [.Tuple [.Name x px, .Name y py] kt pt] (.Tuple [a, b] k2 pt2) pos.line X.env = pure false := by rfl) : DS X W (.Assign [.Tuple [.Name x px, .Name y py] kt pt] (.Tuple [a, b] k2 pt2) pos) (mPar i j ma mb) :=
  ps_imp (ps_par hc hN hi hj hij hx hy (pa_cons ha (pa_cons hb pa_nil n2) n1) hw hs) fun Z σ H h => rS_E h fun G e F s y1 s1 H1 F1 v rl rl1 st j1 p =>
    E_of rl1 p fun y2 s2 H2 F2 w rl2 st2 j2 p2 => ⟨v, w, rfl, p2 _ H2 F2 ((rl2.store i ((rdy_of rl j1).step rl1 st2)).store j ((rdy_of rl1 j2).after fun o2 o1 => (two_own j1 j2 o1 o2).symm))⟩
def mPar3 (i j l : Nat) (a b c : Mn Sl) : Ms := mE a fun y => mE b fun z => mE c fun u e s => .nx (((e.set i y).set j z).set l u) s
theorem ds_par3 (i j l : Nat) {x y z : Str} {a b c : Expr} {ma mb mc : Mn Sl} {px py pz pt pos : Pos} {kt k2 : Nat} {pt2 : Pos} (ha : DSl X W a ma) (hb : DSl X W b mb) (hcc : DSl X W c mc) (hc : X.calm = true) (hN : X.N.Nodup)
    (hw : swappedStores [.Tuple [.Name x px, .Name y py, .Name z pz] kt pt] (.Tuple [a, b, c] k2 pt2) X.env = pure (some [x, y, z]) := by rfl) (hi : X.N[i]? = some x := by rfl) (hj : X.N[j]? = some y := by rfl) (hl : X.N[l]? = some z := by rfl)
    (hij : i ≠ j := by decide) (hil : i ≠ l := by decide) (hjl : j ≠ l := by decide)
    (hx : X.env.scope.names.lookup x = some .local := by rfl) (hy : X.env.scope.names.lookup y = some .local := by rfl) (hz : X.env.scope.names.lookup z = some .local := by rfl)
    (n1 : starEach [a, b, c] X.env = (false, eval a X.env) :: starEach [b, c] X.env := by rfl) (n2 : starEach [b, c] X.env = (false, eval b X.env) :: starEach [c] X.env := by rfl) (n3 : starEach [c] X.env = (false, eval c X.env) :: starEach [] X.env := by rfl)
    (hs : swapsWithSole [.Tuple [.Name x px, .Name y py, .Name z pz] kt pt] (.Tuple [a, b, c] k2 pt2) pos.line X.env = pure false := by rfl) : DS X W (.Assign [.Tuple [.Name x px, .Name y py, .Name z pz] kt pt] (.Tuple [a, b, c] k2 pt2) pos) (mPar3 i j l ma mb mc) :=
  ps_imp (ps_par3 hc hN hi hj hl hij hil hjl hx hy hz (pa_cons ha (pa_cons hb (pa_cons hcc pa_nil n3) n2) n1) hw hs) fun Z σ H h => rS_E h fun G e F s y1 s1 H1 F1 v rl rl1 st j1 p =>
    E_of rl1 p fun y2 s2 H2 F2 w rl2 st2 j2 p2 => E_of rl2 p2 fun y3 s3 H3 F3 u rl3 st3 j3 p3 => ⟨v, w, u, rfl, p3 _ H3 F3 (by
      have r1 := (rdy_of rl j1).step rl1 (st2.trans st3)
      have r2 := ((rdy_of rl1 j2).step rl2 st3)
      have r3 := rdy_of rl2 j3
      have n12 : own y2 = true → own y1 = true → w ≠ v := fun o2 o1 => (two_own j1 j2 o1 o2).symm
      have n23 : own y3 = true → own y2 = true → u ≠ w := fun o3 o2 => (two_own j2 j3 o2 o3).symm
      have n13 : own y3 = true → own y1 = true → u ≠ v := fun o3 o1 => by
        have j1' : JS X.K G.M H F H2 F2 v y1 := by
          have keep : ∀ (a : Addr) (o : HO), H a = none → H1 a = some o → H2 a = some o := fun a o q q1 => st2.keep a o (notM_new rl.w q) q1
          cases y1 with
          | un => exact j1
          | src => exact j1
          | scr _ => exact j1
          | h xs => obtain ⟨a, vs, q1, q2, q3, q4⟩ := j1; exact ⟨a, vs, q1, st2.grow _ _ q2, IsAll.mono st2.grow q3, q4⟩
          | d _ => exact Is.mono st2.grow j1
          | l xs => obtain ⟨a, vs, q1, q2, q3, q4, q5, q6⟩ := j1; exact ⟨a, vs, q1, q2, st2.news a (by rw [q4]; simp) q3, keep a _ q2 q4, IsAll.mono st2.grow q5, q6⟩
          | k xs => obtain ⟨a, vs, q1, q2, q3, q4, q5, q6⟩ := j1; exact ⟨a, vs, q1, q2, st2.news a (by rw [q4]; simp) q3, keep a _ q2 q4, IsKV.mono st2.grow q5, q6⟩
          | t xs => obtain ⟨a, vs, q1, q2, q3, q4, q5, q6⟩ := j1; exact ⟨a, vs, q1, q2, st2.news a (by rw [q4]; simp) q3, keep a _ q2 q4, IsTV.mono st2.grow q5, q6⟩
        exact (two_own j1' j3 o1 o3).symm
      exact ((rl3.store i r1).store j (r2.after n12)).store l ((r3.after n13).after n23))⟩
end
end Pt

/-! Pt G: targets, loops, comprehensions, defs. -/
namespace Pt
open PySem PySem.Spec PyProof.Rows L2

inductive Pat where
  | n (i : Nat)
  | t (ps : List Pat)
mutual
def bindP : Pat → D → Sg → Option Sg
  | .n i, d, e => some (e.set i (.d d))
  | .t ps, .tuple ds, e => bindPs ps ds e
  | .t ps, .list ds, e => bindPs ps ds e
  | .t _, _, _ => none
def bindPs : List Pat → List D → Sg → Option Sg
  | [], [], e => some e
  | p :: ps, d :: ds, e => (bindP p d e).bind (bindPs ps ds)
  | _, _, _ => none
def patIx : Pat → List Nat
  | .n i => [i]
  | .t ps => patIxs ps
def patIxs : List Pat → List Nat
  | [] => []
  | p :: ps => patIx p ++ patIxs ps
end
/-- a target that takes data -/
def gR (X : Cx) (p : Pat) : TG := fun v σ H Q => ∃ G e s F d e', Rel X.K G σ H F e s ∧ Is X.K F v d ∧ bindP p d e = some e' ∧ ∀ σ', Rel X.K G σ' H F e' s → (∀ j, j ∉ patIx p → σ'[j]? = σ[j]?) → Q σ' H
def gRs (X : Cx) (ps : List Pat) : TGs := fun vs σ H Q => ∃ G e s F ds e', Rel X.K G σ H F e s ∧ IsAll X.K F vs ds ∧ bindPs ps ds e = some e' ∧ ∀ σ', Rel X.K G σ' H F e' s → (∀ j, j ∉ patIxs ps → σ'[j]? = σ[j]?) → Q σ' H
def DG (X : Cx) (t : Expr) (p : Pat) : Prop := PG X t (gR X p)
def DGs (X : Cx) (ts : List Expr) (ps : List Pat) : Prop := PGs X ts (gRs X ps)
section
variable {X : Cx} {W : WX}
theorem pg_imp {e : Expr} {t t' : TG} (h : PG X e t) (k : ∀ v σ H Q, t' v σ H Q → t v σ H Q) : PG X e t' := ⟨fun pins s σ H x v Q I r q => h.run pins s σ H x v Q I r (k x σ H Q q)⟩
theorem pgs_imp {e : List Expr} {t t' : TGs} (h : PGs X e t) (k : ∀ v σ H Q, t' v σ H Q → t v σ H Q) : PGs X e t' := ⟨fun pins s σ H x v Q I r q => h.run pins s σ H x v Q I r (k x σ H Q q)⟩
theorem pg_or {e : Expr} {t t' : TG} (h : PG X e t) (h' : PG X e t') : PG X e (fun v σ H Q => t v σ H Q ∨ t' v σ H Q) := ⟨fun pins s σ H x v Q I r q => q.elim (h.run pins s σ H x v Q I r) (h'.run pins s σ H x v Q I r)⟩
theorem dg_name (i : Nat) {x : Str} {pos : Pos} (hN : X.N.Nodup) (hi : X.N[i]? = some x := by rfl) (hx : Loc X.env.scope x := by first | exact Or.inl rfl | exact Or.inr rfl) (hf : X.fn x = true ∨ X.env.scope.names.lookup x = some .local := by first | exact .inl rfl | exact .inr rfl | assumption) : DG X (.Name x pos) (.n i) :=
  pg_imp (pg_name hN hi hx hf) fun v σ H Q ⟨G, e, s, F, d, e', rl, h, hb, q⟩ => by
    have hb : some (e.set i (.d d)) = some e' := by rw [← hb, bindP]
    cases hb
    refine q _ (rl.put rfl ⟨v, rfl, h⟩) fun j hj => ?_
    rw [List.getElem?_set_ne]
    intro z
    exact hj (by rw [z, patIx]; exact List.mem_cons_self)
theorem dgs_nil : DGs X [] [] := pgs_imp pgs_nil fun vs σ H Q ⟨G, e, s, F, ds, e', rl, h, hb, q⟩ => by
  cases ds with
  | cons a b => rw [bindPs] at hb <;> first | cases hb | (intro z; cases z)
  | nil =>
    rw [bindPs] at hb
    cases hb
    cases h
    exact ⟨rfl, q σ rl fun _ _ => rfl⟩
theorem dgs_cons {t : Expr} {ts : List Expr} {p : Pat} {ps : List Pat} (h1 : DG X t p) (h2 : DGs X ts ps) (hs : (assignEach (t :: ts) X.env).map (·.2) = assign t X.env :: (assignEach ts X.env).map (·.2) := by rfl) : DGs X (t :: ts) (p :: ps) :=
  pgs_imp (pgs_cons h1 h2 hs) fun vs σ H Q ⟨G, e, s, F, ds, e', rl, h, hb, q⟩ => by
    cases ds with
    | nil => rw [bindPs] at hb <;> first | cases hb | (intro z; cases z)
    | cons d ds =>
      rw [bindPs] at hb
      cases h with
      | cons a b =>
        cases k : bindP p d e with
        | none => rw [k] at hb; cases hb
        | some e1 =>
          rw [k] at hb
          refine ⟨_, _, rfl, G, e, s, F, d, e1, rl, a, k, fun σ1 rl1 f1 => ⟨G, e1, s, F, ds, e', rl1, b, hb, fun σ2 rl2 f2 => q σ2 rl2 fun j hj => ?_⟩⟩
          rw [patIxs, List.mem_append, not_or] at hj
          exact (f2 j hj.2).trans (f1 j hj.1)
theorem bindPs_len : ∀ {ps : List Pat} {ds : List D} {e e' : Sg}, bindPs ps ds e = some e' → ps.length = ds.length
  | [], [], _, _, _ => rfl
  | [], _ :: _, _, _, h => by rw [bindPs] at h <;> first | cases h | (intro z; cases z)
  | _ :: _, [], _, _, h => by rw [bindPs] at h <;> first | cases h | (intro z; cases z)
  | p :: ps, d :: ds, e, e', h => by
    rw [bindPs] at h
    cases k : bindP p d e with
    | none => rw [k] at h; cases h
    | some e1 =>
      rw [k] at h
      exact congrArg (· + 1) (bindPs_len h)
theorem dg_tup {es : List Expr} {ps : List Pat} {k : Nat} {pos : Pos} (h : DGs X es ps) (hc : X.calm = true) (hn : (assignEach es X.env).length = ps.length := by rfl) (hst : (assignEach es X.env).findIdx? (·.1) = none := by rfl) : DG X (.Tuple es k pos) (.t ps) :=
  pg_imp (pg_or (pg_tup hc h hn hst) (pg_lst hc h hn hst)) fun v σ H Q ⟨G, e, s, F, d, e', rl, hd, hb, q⟩ => by
    cases d with
    | tuple ds =>
      rw [bindP] at hb
      cases hd with
      | tup h1 h2 h3 => exact .inl ⟨_, _, rfl, Same.seqT rl.w.sub h1, by rw [h2.length, bindPs_len hb], G, e, s, F, ds, e', rl, h2, hb, fun σ' r f => q σ' r fun j hj => f j (by rw [patIx] at hj; exact hj)⟩
    | list ds =>
      rw [bindP] at hb
      cases hd with
      | lst h1 h2 h3 => exact .inr ⟨_, _, rfl, .inl (.inl (rl.w.sub _ _ h1)), by rw [h2.length, bindPs_len hb], G, e, s, F, ds, e', rl, h2, hb, fun σ' r f => q σ' r fun j hj => f j (by rw [patIx] at hj; exact hj)⟩
    | _ => rw [bindP] at hb <;> first | cases hb | (intro _ z; cases z)
/-- a, b = value -/
def mBind (p : Pat) (m : Mn D) : Ms := mE m fun d e s => match bindP p d e with
  | some e1 => .nx e1 s
  | none => .no
theorem ds_bind {tg e : Expr} {p : Pat} {m : Mn D} {pos : Pos} (he : DE X W e m) (hg : DG X tg p) (hs : swapsWithSole [tg] e pos.line X.env = pure false := by rfl) (hw : swappedStores [tg] e X.env = pure none := by rfl)
    (h1 : (assignEach [tg] X.env).map (·.2) = [assign tg X.env] := by rfl) : DS X W (.Assign [tg] e pos) (mBind p m) :=
  ps_imp (ps_asg he hg hs hw h1) fun Z σ H h => rS_E h fun G e F s d s1 H1 F1 v rl rl1 st j q => by
    cases k : bindP p d e with
    | none => rw [k] at q; exact q.elim
    | some e1 =>
      rw [k] at q
      exact ⟨G, e, s1, F1, d, e1, rl1, j, k, fun σ' rl' _ => q σ' H1 F1 rl'⟩

/-! ### what is walked -/
/-- J yields xs one by one, whatever is made meanwhile -/
def ItF (K : PySem.W.Frag) (J : It) (H1 F1 : Hp) (xs : List D) : Prop := ∀ i H2 F2, Same F1 F2 → Same F2 H2 →
  (∀ d, xs[i]? = some d → J.go i H2 ∧ ∀ x H3, J.yld i H2 x H3 → ∃ F3, Al H2 F2 H3 F3 ∧ Is K F3 x d) ∧ (xs[i]? = none → J.stop i H2)
/-- .. while what was ahead stands -/
def ItB (K : PySem.W.Frag) (M : Option (Addr × Addr)) (J : It) (H1 F1 : Hp) (xs : List D) : Prop := ∀ i H2 F2, Stp M H1 F1 H2 F2 → Same F2 H2 →
  (∀ d, xs[i]? = some d → J.go i H2 ∧ ∀ x H3, J.yld i H2 x H3 → ∃ F3, Al H2 F2 H3 F3 ∧ Is K F3 x d) ∧ (xs[i]? = none → J.stop i H2)
def rI (X : Cx) (W : WX) (m : Mn (List D)) : TI := fun σ H R => ∃ G e s F, Rel X.K G σ H F e s ∧ Po X W G σ H F (fun xs _ H1 F1 => ∀ J, ItF X.K J H1 F1 xs → R J H1) (m e s)
def rJ (X : Cx) (W : WX) (m : Mn (List D)) : TI := fun σ H R => ∃ G e s F, Rel X.K G σ H F e s ∧ Po X W G σ H F (fun xs _ H1 F1 => ∀ J, ItB X.K G.M J H1 F1 xs → xs.length ≤ sizeLine → R J H1) (m e s)
/-- what a for walks; what a comprehension walks -/
def DI (X : Cx) (W : WX) (tg iter : Expr) (m : Mn (List D)) : Prop := PI X tg iter (rI X W m)
def DJ (X : Cx) (W : WX) (tg iter : Expr) (m : Mn (List D)) : Prop := PI X tg iter (rJ X W m)
theorem pi_imp {tg e : Expr} {t t' : TI} (h : PI X tg e t) (k : ∀ σ H Q, t' σ H Q → t σ H Q) : PI X tg e t' := ⟨fun pins s σ H Q I q => h.run pins s σ H Q I (k σ H Q q)⟩
theorem pi_or {tg e : Expr} {t t' : TI} (h : PI X tg e t) (h' : PI X tg e t') : PI X tg e (fun σ H Q => t σ H Q ∨ t' σ H Q) := ⟨fun pins s σ H Q I q => q.elim (h.run pins s σ H Q I) (h'.run pins s σ H Q I)⟩
def seqD : D → Option (List D)
  | .list ds => some ds
  | .tuple ds => some ds
  | _ => none
def mSq (m : Mn D) : Mn (List D) := fun e s => (m e s).bind fun d s1 => Rs.lift (seqD d) s1
theorem itl_f {K : PySem.W.Frag} {a : Addr} {vs : List V} {xs : List D} {H2 F2 : Hp} {i : Nat} (h1 : SqL K H2 a vs) (hu : ∀ ws, SqL K H2 a ws → ws = vs ∨ True) (h2 : IsAll K F2 vs xs) (sub : Same F2 H2) :
    (∀ d, xs[i]? = some d → (Itl K a).go i H2 ∧ ∀ x H3, (Itl K a).yld i H2 x H3 → ∃ F3, Al H2 F2 H3 F3 ∧ Is K F3 x d) ∧ (xs[i]? = none → (Itl K a).stop i H2) := by
  refine ⟨fun d hd => ?_, fun hd => ⟨vs, h1, by rw [h2.length]; exact List.getElem?_eq_none_iff.mp hd⟩⟩
  obtain ⟨v, k1, k2⟩ := h2.get hd
  refine ⟨⟨vs, v, h1, k1⟩, fun x H3 ⟨e1, e2⟩ => ⟨F2, by rw [e1]; exact Al.refl sub, ?_⟩⟩
  have := e2 vs h1
  rw [k1] at this
  cases this
  exact k2
theorem itt_f {K : PySem.W.Frag} {a : Addr} {vs : List V} {xs : List D} {H2 F2 : Hp} {i : Nat} (h1 : SqT K H2 a vs) (h2 : IsAll K F2 vs xs) (sub : Same F2 H2) :
    (∀ d, xs[i]? = some d → (Itt K a).go i H2 ∧ ∀ x H3, (Itt K a).yld i H2 x H3 → ∃ F3, Al H2 F2 H3 F3 ∧ Is K F3 x d) ∧ (xs[i]? = none → (Itt K a).stop i H2) := by
  refine ⟨fun d hd => ?_, fun hd => ⟨vs, h1, by rw [h2.length]; exact List.getElem?_eq_none_iff.mp hd⟩⟩
  obtain ⟨v, k1, k2⟩ := h2.get hd
  refine ⟨⟨vs, v, h1, k1⟩, fun x H3 ⟨e1, e2⟩ => ⟨F2, by rw [e1]; exact Al.refl sub, ?_⟩⟩
  have := e2 vs h1
  rw [k1] at this
  cases this
  exact k2
/-- a list or tuple that stands still -/
theorem di_seq {tg e : Expr} {m : Mn D} (he : DE X W e m) : DI X W tg e (mSq m) := pi_imp (pi_or (pi_list he) (pi_tup he)) fun σ H Q ⟨G, e, s, F, rl, p⟩ => by
  unfold mSq at p
  cases hm : m e s with
  | no => rw [hm] at p; exact p.elim
  | ex c x s1 => rw [hm] at p; exact .inl ⟨G, e, s, F, rl, by rw [hm]; exact p⟩
  | ok d s1 =>
    rw [hm] at p
    cases d with
    | list ds =>
      refine .inl ⟨G, e, s, F, rl, ?_⟩
      rw [hm]
      intro H1 F1 st w v j
      cases j with
      | lst h1 h2 h3 =>
        refine ⟨_, rfl, ⟨_, .inl (.inl (w.sub _ _ h1))⟩, p H1 F1 st w _ fun i H2 F2 g sub => itl_f (.inl (.inl (sub _ _ (g _ _ h1)))) (fun _ _ => .inr trivial) (IsAll.mono g h2) sub⟩
    | tuple ds =>
      refine .inr ⟨G, e, s, F, rl, ?_⟩
      rw [hm]
      intro H1 F1 st w v j
      cases j with
      | tup h1 h2 h3 =>
        refine ⟨_, rfl, ⟨_, Same.seqT w.sub h1⟩, p H1 F1 st w _ fun i H2 F2 g sub => itt_f (Same.seqT (g.trans sub) h1) (IsAll.mono g h2) sub⟩
    | _ => exact p.elim
/-- for a comprehension: own lists too -/
theorem dj_seq {tg e : Expr} {m : Mn D} (he : DV X W e m) : DJ X W tg e (mSq m) := pi_imp (pi_or (pi_list he) (pi_tup he)) fun σ H Q ⟨G, e, s, F, rl, p⟩ => by
  unfold mSq at p
  cases hm : m e s with
  | no => rw [hm] at p; exact p.elim
  | ex c x s1 => rw [hm] at p; exact .inl ⟨G, e, s, F, rl, by rw [hm]; exact p⟩
  | ok d s1 =>
    rw [hm] at p
    cases d with
    | list ds =>
      refine .inl ⟨G, e, s, F, rl, ?_⟩
      rw [hm]
      intro H1 F1 st w v j
      obtain ⟨a, vs, rfl, h1, h2, h3⟩ := (j H1 F1 Stp.refl w.sub).list w.sub
      refine ⟨a, rfl, ⟨_, .inl (.inl h1)⟩, p H1 F1 st w _ (fun i H2 F2 g sub => ?_) h3⟩
      obtain ⟨a', vs', e1, h1', h2', _⟩ := (j H2 F2 g sub).list sub
      cases e1
      exact itl_f (.inl (.inl h1')) (fun _ _ => .inr trivial) h2' sub
    | tuple ds =>
      refine .inr ⟨G, e, s, F, rl, ?_⟩
      rw [hm]
      intro H1 F1 st w v j
      obtain ⟨a, vs, rfl, h1, h2, h3⟩ := (j H1 F1 Stp.refl w.sub).tuple
      exact ⟨_, rfl, ⟨_, Same.seqT w.sub h1⟩, p H1 F1 st w _ (fun i H2 F2 g sub => itt_f (Same.seqT (g.grow.trans sub) h1) (IsAll.mono g.grow h2) sub) h3⟩
    | _ => exact p.elim
/-- lo, lo + c, .. -/
def rangeL (lo c : Int) (n : Nat) : List D := (List.range n).map fun i => .int (lo + (i : Nat) * c)
theorem rangeL_get {lo c : Int} {n i : Nat} {d : D} (h : (rangeL lo c n)[i]? = some d) : i < n ∧ d = .int (lo + (i : Nat) * c) := by
  unfold rangeL at h
  rw [List.getElem?_map] at h
  by_cases hi : i < n
  · rw [List.getElem?_range hi] at h
    exact ⟨hi, (Option.some.inj h).symm⟩
  · rw [List.getElem?_eq_none (by rw [List.length_range]; omega)] at h
    cases h
theorem rangeL_len (lo c : Int) (n : Nat) : (rangeL lo c n).length = n := by
  unfold rangeL
  rw [List.length_map, List.length_range]
theorem rangeL_none {lo c : Int} {n i : Nat} (h : (rangeL lo c n)[i]? = none) : n ≤ i := by
  have := List.getElem?_eq_none_iff.mp h
  rw [rangeL_len] at this
  exact this
theorem itr_f {K : PySem.W.Frag} {lo : Int} {n : Nat} {H2 F2 : Hp} {i : Nat} (sub : Same F2 H2) :
    (∀ d, (rangeL lo 1 n)[i]? = some d → (Itr lo n).go i H2 ∧ ∀ x H3, (Itr lo n).yld i H2 x H3 → ∃ F3, Al H2 F2 H3 F3 ∧ Is K F3 x d) ∧ ((rangeL lo 1 n)[i]? = none → (Itr lo n).stop i H2) := by
  refine ⟨fun d hd => ?_, fun hd => rangeL_none hd⟩
  obtain ⟨h1, rfl⟩ := rangeL_get hd
  refine ⟨h1, fun x H3 ⟨e1, e2⟩ => ⟨F2, by rw [e1]; exact Al.refl sub, ?_⟩⟩
  rw [e2, Int.mul_one]
  exact .int _
def rgB (i : Int) : Bool := decide (-4611686018427387904 ≤ i) && decide (i < 4611686018427387904)
theorem rgB_ok {i : Int} (h : rgB i = true) : -(2 ^ 62) ≤ i ∧ i < 2 ^ 62 := by
  unfold rgB at h
  rw [Bool.and_eq_true] at h
  have h1 := of_decide_eq_true h.1
  have h2 := of_decide_eq_true h.2
  exact ⟨h1, h2⟩
def mRg1 (m : Mn (List D)) : Mn (List D) := fun e s => (m e s).bind fun ds s1 => match ds with
  | [.int n] => if rgB n then .ok (rangeL 0 1 n.toNat) s1 else .no
  | _ => .no
def mRg2 (m : Mn (List D)) : Mn (List D) := fun e s => (m e s).bind fun ds s1 => match ds with
  | [.int i, .int j] => if rgB i && rgB j then .ok (rangeL i 1 (j - i).toNat) s1 else .no
  | _ => .no
theorem rI_cut {ma : Mn (List D)} {f : List D → Src → Rs (List D)} {σ : L2.St} {H : Hp} {R : It → Hp → Prop} {Q : List V → Hp → Prop} (h : rI X W (fun e s => (ma e s).bind f) σ H R)
    (k : ∀ G e s F ds s1 H1 F1 vs, Rel X.K G σ H F e s → Wok G.M H1 F1 s1 → IsAll X.K F1 vs ds → Po X W G σ H1 F1 (fun xs _ H1 F1 => ∀ J, ItF X.K J H1 F1 xs → R J H1) (f ds s1) → Q vs H1) : rG X W (JDs X.K) ma σ H Q := by
  obtain ⟨G, e, s, F, rl, p⟩ := h
  exact rG_seq rl p fun ds s1 H1 F1 vs rl1 st1 w1 j p1 => k G e s F ds s1 H1 F1 vs rl w1 j p1
theorem rJ_cut {ma : Mn (List D)} {f : List D → Src → Rs (List D)} {σ : L2.St} {H : Hp} {R : It → Hp → Prop} {Q : List V → Hp → Prop} (h : rJ X W (fun e s => (ma e s).bind f) σ H R)
    (k : ∀ G e s F ds s1 H1 F1 vs, Rel X.K G σ H F e s → Wok G.M H1 F1 s1 → IsAll X.K F1 vs ds → Po X W G σ H1 F1 (fun xs _ H1 F1 => ∀ J, ItB X.K G.M J H1 F1 xs → xs.length ≤ sizeLine → R J H1) (f ds s1) → Q vs H1) : rG X W (JDs X.K) ma σ H Q := by
  obtain ⟨G, e, s, F, rl, p⟩ := h
  exact rG_seq rl p fun ds s1 H1 F1 vs rl1 st1 w1 j p1 => k G e s F ds s1 H1 F1 vs rl w1 j p1
theorem int1 {K : PySem.W.Frag} {F : Hp} {vs : List V} {n : Int} (h : IsAll K F vs [.int n]) : vs = [.int n] := by
  cases h with
  | cons a b =>
    cases a
    cases b
    rfl
theorem int2 {K : PySem.W.Frag} {F : Hp} {vs : List V} {n m : Int} (h : IsAll K F vs [.int n, .int m]) : vs = [.int n, .int m] := by
  cases h with
  | cons a b =>
    cases a
    rw [int1 b]
theorem int3 {K : PySem.W.Frag} {F : Hp} {vs : List V} {n m l : Int} (h : IsAll K F vs [.int n, .int m, .int l]) : vs = [.int n, .int m, .int l] := by
  cases h with
  | cons a b =>
    cases a
    rw [int2 b]
theorem di_range1 {tg a : Expr} {ma : Mn (List D)} {p pos : Pos} (ha : DDs X W [a] ma) (hm : X.mg "range" = none) (hg : Gl X "range" := by rfl) (hs : starEach [a] X.env = [(false, eval a X.env)] := by rfl) : DI X W tg (.Call (.Name "range" p) [a] [] pos) (mRg1 ma) :=
  pi_imp (pi_range1 hg hm ha hs) fun σ H R h => rI_cut h fun G e s F ds s1 H1 F1 vs rl w j p1 => by
    split at p1
    · obtain ⟨z, q⟩ := ite_po p1
      obtain ⟨z1, z2⟩ := rgB_ok z
      exact ⟨_, int1 j, z1, z2, q H1 F1 Stp.refl w _ fun i H2 F2 g sub => itr_f sub⟩
    · exact p1.elim
theorem di_range2 {tg a b : Expr} {ma : Mn (List D)} {p pos : Pos} (ha : DDs X W [a, b] ma) (hm : X.mg "range" = none) (hg : Gl X "range" := by rfl) (hs : starEach [a, b] X.env = [(false, eval a X.env), (false, eval b X.env)] := by rfl) (hs2 : starEach [b] X.env = [(false, eval b X.env)] := by rfl) : DI X W tg (.Call (.Name "range" p) [a, b] [] pos) (mRg2 ma) :=
  pi_imp (pi_range2 hg hm ha hs hs2) fun σ H R h => rI_cut h fun G e s F ds s1 H1 F1 vs rl w j p1 => by
    split at p1
    · obtain ⟨z, q⟩ := ite_po p1
      rw [Bool.and_eq_true] at z
      obtain ⟨z1, z2⟩ := rgB_ok z.1
      obtain ⟨z3, z4⟩ := rgB_ok z.2
      exact ⟨_, _, int2 j, ⟨z1, z2, z3, z4⟩, q H1 F1 Stp.refl w _ fun i H2 F2 g sub => itr_f sub⟩
    · exact p1.elim
def mRg1J (m : Mn (List D)) : Mn (List D) := fun e s => (m e s).bind fun ds s1 => match ds with
  | [.int n] => if szB n.toNat && rgB n then .ok (rangeL 0 1 n.toNat) s1 else .no
  | _ => .no
def mRg2J (m : Mn (List D)) : Mn (List D) := fun e s => (m e s).bind fun ds s1 => match ds with
  | [.int i, .int j] => if szB (j - i).toNat && (rgB i && rgB j) then .ok (rangeL i 1 (j - i).toNat) s1 else .no
  | _ => .no
theorem dj_range1 {tg a : Expr} {ma : Mn (List D)} {p pos : Pos} (ha : DDs X W [a] ma) (hm : X.mg "range" = none) (hg : Gl X "range" := by rfl) (hs : starEach [a] X.env = [(false, eval a X.env)] := by rfl) : DJ X W tg (.Call (.Name "range" p) [a] [] pos) (mRg1J ma) :=
  pi_imp (pi_range1 hg hm ha hs) fun σ H R h => rJ_cut h fun G e s F ds s1 H1 F1 vs rl w j p1 => by
    split at p1
    · obtain ⟨z, q⟩ := ite_po p1
      rw [Bool.and_eq_true] at z
      obtain ⟨z1, z2⟩ := rgB_ok z.2
      exact ⟨_, int1 j, z1, z2, q H1 F1 Stp.refl w _ (fun i H2 F2 g sub => itr_f sub) (by rw [rangeL_len]; exact szB_ok z.1)⟩
    · exact p1.elim
theorem dj_range2 {tg a b : Expr} {ma : Mn (List D)} {p pos : Pos} (ha : DDs X W [a, b] ma) (hm : X.mg "range" = none) (hg : Gl X "range" := by rfl) (hs : starEach [a, b] X.env = [(false, eval a X.env), (false, eval b X.env)] := by rfl) (hs2 : starEach [b] X.env = [(false, eval b X.env)] := by rfl) : DJ X W tg (.Call (.Name "range" p) [a, b] [] pos) (mRg2J ma) :=
  pi_imp (pi_range2 hg hm ha hs hs2) fun σ H R h => rJ_cut h fun G e s F ds s1 H1 F1 vs rl w j p1 => by
    split at p1
    · obtain ⟨z, q⟩ := ite_po p1
      rw [Bool.and_eq_true, Bool.and_eq_true] at z
      obtain ⟨z1, z2⟩ := rgB_ok z.2.1
      obtain ⟨z3, z4⟩ := rgB_ok z.2.2
      exact ⟨_, _, int2 j, ⟨z1, z2, z3, z4⟩, q H1 F1 Stp.refl w _ (fun i H2 F2 g sub => itr_f sub) (by rw [rangeL_len]; exact szB_ok z.1)⟩
    · exact p1.elim

/-! ### for -/
def forGo (p : Pat) (b : Ms) : List D → Sg → Src → Sr
  | [], e, s => .nx e s
  | d :: r, e, s => match bindP p d e with
    | none => .no
    | some e1 => match b e1 s with
      | .nx e2 s2 => forGo p b r e2 s2
      | .ct e2 s2 => forGo p b r e2 s2
      | .bk e2 s2 => .nx e2 s2
      | .rt d s2 => .rt d s2
      | .ex c x e2 s2 => .ex c x e2 s2
      | .no => .no
def mFor (m : Mn (List D)) (p : Pat) (b : Ms) : Ms := fun e s => match m e s with
  | .ok xs s1 => forGo p b xs e s1
  | .ex c x s1 => .ex c x e s1
  | .no => .no
/-- the same, from where the loop begins -/
theorem Rel.rebase {K : PySem.W.Frag} {G : Gh} {σ : L2.St} {H F F1 : Hp} {e : Sg} {s : Src} (r : Rel K G σ H F e s) (g0 : Same G.F0 F1) (g1 : Same F1 F) : Rel K ⟨G.M, G.H0, F1⟩ σ H F e s :=
  ⟨r.w, ⟨r.st.keep, g1, fun b n q => r.st.news b n (by
    cases z : G.F0 b with
    | none => rfl
    | some o =>
      have q : F1 b = none := q
      rw [g0 b o z] at q
      cases q), r.st.there⟩, r.m0, r.len, fun i y h => by
      have k := r.ok i y h
      cases y <;> exact k, r.inj⟩
theorem Rel.unbase {K : PySem.W.Frag} {G : Gh} {σ : L2.St} {H F F1 : Hp} {e : Sg} {s : Src} (r : Rel K ⟨G.M, G.H0, F1⟩ σ H F e s) (g0 : Same G.F0 F1) (nw : ∀ b, G.H0 b ≠ none → G.F0 b = none → F1 b = none) : Rel K G σ H F e s :=
  ⟨r.w, ⟨r.st.keep, g0.trans r.st.grow, fun b n q => r.st.news b n (nw b n q), r.st.there⟩, r.m0, r.len, fun i y h => by
      have k := r.ok i y h
      cases y <;> exact k, r.inj⟩
theorem ds_for {tg iter : Expr} {body : List Stmt} {m : Mn (List D)} {p : Pat} {mb : Ms} {pos : Pos} (hp : PassesOwn (model X.prog X.w) X.A X.env X.xe) (hc : X.calm = true) (hi : DI X W tg iter m) (hg : DG X tg p) (hb : DSs X W body mb)
    (hs : ∀ x, foldedSetIterable iter X.env x = pure x := by intro _; rfl) : DS X W (.For tg iter body [] pos) (mFor m p mb) :=
  ps_imp (ps_for hp hc hi hg hb hs) fun Z σ H ⟨G, e, s, F, rl, q⟩ => by
    refine ⟨G, e, s, F, rl, ?_⟩
    unfold mFor at q
    cases hm : m e s with
    | no => rw [hm] at q; exact q
    | ex c x s1 => rw [hm] at q; exact fun cls dd H' F' st w ex => q cls dd σ H' F' (rl.step st w) ex
    | ok xs s1 =>
      rw [hm] at q
      intro H1 F1 st w J it
      have rl1 := rl.step st w
      have g0 : Same G.F0 F1 := rl1.st.grow
      have nw := rl1.st.news
      refine ⟨fun i n σ H => n = xs.length - i ∧ ∃ e s F, Rel X.K ⟨G.M, G.H0, F1⟩ σ H F e s ∧ PoS X W G Z (forGo p mb (xs.drop i) e s), ⟨xs.length, by rw [Nat.sub_zero], e, s1, F1, rl1.rebase g0 (Same.refl _), q⟩, ?_⟩
      rintro i n σ2 H2 ⟨rfl, e2, s2, F2, rl2, q2⟩
      obtain ⟨it1, it2⟩ := it i H2 F2 rl2.st.grow rl2.w.sub
      cases hx : xs[i]? with
      | none =>
        rw [List.drop_of_length_le (List.getElem?_eq_none_iff.mp hx)] at q2
        exact .inl ⟨it2 hx, q2 σ2 H2 F2 (rl2.unbase g0 nw)⟩
      | some d =>
        have hlt : i < xs.length := (List.getElem?_eq_some_iff.mp hx).1
        have hd : xs.drop i = d :: xs.drop (i + 1) := by
          rw [List.drop_eq_getElem_cons hlt]
          rw [List.getElem?_eq_getElem hlt] at hx
          cases hx
          rfl
        rw [hd, forGo] at q2
        obtain ⟨g1, g2⟩ := it1 d hx
        refine .inr ⟨g1, fun σ' H' => ∃ e s F, Rel X.K ⟨G.M, G.H0, F1⟩ σ' H' F e s ∧ PoS X W G Z (forGo p mb (xs.drop (i + 1)) e s), fun σ' H' z => ⟨xs.length - (i + 1), by omega, rfl, z⟩, fun x H3 y => ?_⟩
        obtain ⟨F3, al, is⟩ := g2 x H3 y
        cases hb2 : bindP p d e2 with
        | none => rw [hb2] at q2; exact q2.elim
        | some e3 =>
          rw [hb2] at q2
          refine ⟨⟨G.M, G.H0, F1⟩, e2, s2, F3, d, e3, rl2.step al.stp (al.wok rl2.w), is, hb2, fun σ3 rl3 _ => ⟨⟨G.M, G.H0, F1⟩, e3, s2, F3, rl3, ?_⟩⟩
          have q2 : PoS X W G Z (match mb e3 s2 with
            | .nx e2 s2 => forGo p mb (xs.drop (i + 1)) e2 s2
            | .ct e2 s2 => forGo p mb (xs.drop (i + 1)) e2 s2
            | .bk e2 s2 => .nx e2 s2
            | .rt d s2 => .rt d s2
            | .ex c x e2 s2 => .ex c x e2 s2
            | .no => .no) := q2
          cases hbb : mb e3 s2 with
          | nx e4 s4 => rw [hbb] at q2; exact fun σ' H' F' r => ⟨e4, s4, F', r, q2⟩
          | ct e4 s4 => rw [hbb] at q2; exact fun σ' H' F' r => ⟨e4, s4, F', r, q2⟩
          | bk e4 s4 => rw [hbb] at q2; exact fun σ' H' F' r => q2 σ' H' F' (r.unbase g0 nw)
          | rt d4 s4 => rw [hbb] at q2; exact fun v H' F' st w is => q2 v H' F' ⟨st.keep, g0.trans st.grow, fun b n k => st.news b n (nw b n k), st.there⟩ w is
          | ex c x e4 s4 => rw [hbb] at q2; exact fun cls dd σ' H' F' r ex => q2 cls dd σ' H' F' (r.unbase g0 nw) ex
          | no => rw [hbb] at q2; exact q2

/-! ### while -/
def whGo (c : Mn Bool) (b : Ms) : Nat → Sg → Src → Sr
  | 0, _, _ => .no
  | n + 1, e, s => match c e s with
    | .ok true s1 => match b e s1 with
      | .nx e2 s2 => whGo c b n e2 s2
      | .ct e2 s2 => whGo c b n e2 s2
      | .bk e2 s2 => .nx e2 s2
      | .rt d s2 => .rt d s2
      | .ex c x e2 s2 => .ex c x e2 s2
      | .no => .no
    | .ok false s1 => .nx e s1
    | .ex c x s1 => .ex c x e s1
    | .no => .no
/-- goes as long as some number of turns is enough -/
noncomputable def mWhile (c : Mn Bool) (b : Ms) : Ms := fun e s => open Classical in if h : ∃ n, whGo c b n e s ≠ .no then whGo c b h.choose e s else .no
theorem ds_while {c : Expr} {body : List Stmt} {mc : Mn Bool} {mb : Ms} {pos : Pos} (hp : PassesOwn (model X.prog X.w) X.A X.env X.xe) (hc : DT X W c mc) (hb : DSs X W body mb) : DS X W (.While c body [] pos) (mWhile mc mb) :=
  ps_imp (ps_while hp hc hb) fun Z σ H ⟨G, e, s, F, rl, q⟩ => by
    have q2 : ∃ n, PoS X W G Z (whGo mc mb n e s) := by
      unfold mWhile at q
      split at q
      · exact ⟨_, q⟩
      · exact q.elim
    obtain ⟨n, q⟩ := q2
    refine ⟨fun n σ H => ∃ e s F, Rel X.K G σ H F e s ∧ PoS X W G Z (whGo mc mb n e s), ⟨n, e, s, F, rl, q⟩, ?_⟩
    rintro n σ2 H2 ⟨e2, s2, F2, rl2, q2⟩
    cases n with
    | zero => exact q2.elim
    | succ n =>
      rw [whGo] at q2
      refine ⟨G, e2, s2, F2, rl2, ?_⟩
      cases hm : mc e2 s2 with
      | no => rw [hm] at q2; exact q2
      | ex c x s1 => rw [hm] at q2; exact fun cls dd H' F' st w ex => q2 cls dd σ2 H' F' (rl2.step st w) ex
      | ok k s1 =>
        rw [hm] at q2
        intro H3 F3 st w b j
        have j : b = k := j
        subst j
        have rl3 := rl2.step st w
        cases b with
        | false => exact q2 σ2 H3 F3 rl3
        | true =>
          refine ⟨fun σ' H' => ∃ e s F, Rel X.K G σ' H' F e s ∧ PoS X W G Z (whGo mc mb n e s), fun σ' H' z => ⟨n, Nat.lt_succ_self n, z⟩, G, e2, s1, F3, rl3, ?_⟩
          have q2 : PoS X W G Z (match mb e2 s1 with
            | .nx e2 s2 => whGo mc mb n e2 s2
            | .ct e2 s2 => whGo mc mb n e2 s2
            | .bk e2 s2 => .nx e2 s2
            | .rt d s2 => .rt d s2
            | .ex c x e2 s2 => .ex c x e2 s2
            | .no => .no) := q2
          cases hbb : mb e2 s1 with
          | nx e4 s4 => rw [hbb] at q2; exact fun σ' H' F' r => ⟨e4, s4, F', r, q2⟩
          | ct e4 s4 => rw [hbb] at q2; exact fun σ' H' F' r => ⟨e4, s4, F', r, q2⟩
          | bk e4 s4 => rw [hbb] at q2; exact q2
          | rt d4 s4 => rw [hbb] at q2; exact q2
          | ex c x e4 s4 => rw [hbb] at q2; exact q2
          | no => rw [hbb] at q2; exact q2
/-- a number of turns that is enough -/
theorem whGo_more {c : Mn Bool} {b : Ms} : ∀ {n m : Nat} {e : Sg} {s : Src}, n ≤ m → whGo c b n e s ≠ .no → whGo c b m e s = whGo c b n e s
  | 0, _, _, _, _, h => absurd rfl h
  | n + 1, 0, _, _, h, _ => absurd h (by omega)
  | n + 1, m + 1, e, s, h, k => by
    rw [whGo] at k ⊢
    rw [whGo]
    cases hc : c e s with
    | no => rfl
    | ex c x s1 => rfl
    | ok t s1 =>
      rw [hc] at k
      cases t with
      | false => rfl
      | true =>
        show (match b e s1 with
          | .nx e2 s2 => whGo c b m e2 s2
          | .ct e2 s2 => whGo c b m e2 s2
          | .bk e2 s2 => .nx e2 s2
          | .rt d s2 => .rt d s2
          | .ex c x e2 s2 => .ex c x e2 s2
          | .no => .no) = (match b e s1 with
          | .nx e2 s2 => whGo c b n e2 s2
          | .ct e2 s2 => whGo c b n e2 s2
          | .bk e2 s2 => .nx e2 s2
          | .rt d s2 => .rt d s2
          | .ex c x e2 s2 => .ex c x e2 s2
          | .no => .no)
        have k : (match b e s1 with
          | .nx e2 s2 => whGo c b n e2 s2
          | .ct e2 s2 => whGo c b n e2 s2
          | .bk e2 s2 => .nx e2 s2
          | .rt d s2 => .rt d s2
          | .ex c x e2 s2 => .ex c x e2 s2
          | .no => .no) ≠ .no := k
        cases hb : b e s1 with
        | nx e2 s2 => rw [hb] at k; exact whGo_more (by omega) k
        | ct e2 s2 => rw [hb] at k; exact whGo_more (by omega) k
        | bk e2 s2 => rfl
        | rt d s2 => rfl
        | ex c x e2 s2 => rfl
        | no => rfl
theorem mWhile_eq {c : Mn Bool} {b : Ms} {e : Sg} {s : Src} {r : Sr} (n : Nat) (h : whGo c b n e s = r) (hr : r ≠ .no) : mWhile c b e s = r := by
  have hex : ∃ n, whGo c b n e s ≠ .no := ⟨n, by rw [h]; exact hr⟩
  unfold mWhile
  rw [dif_pos hex]
  have h1 := hex.choose_spec
  rcases Nat.le_total n hex.choose with k | k
  · rw [whGo_more k (by rw [h]; exact hr), h]
  · rw [← whGo_more k h1, h]
end
end Pt

/-! Pt H: comprehensions, defs, own lists. -/
namespace Pt
open PySem PySem.Spec PyProof.Rows L2

mutual
theorem bindP_keep : ∀ (p : Pat) (d : D) (e e' : Sg), bindP p d e = some e' → e'.length = e.length
  | .n i, d, e, e', h => by
    rw [bindP] at h
    cases h
    exact List.length_set
  | .t ps, d, e, e', h => by
    cases d with
    | tuple ds => rw [bindP] at h; exact bindPs_keep ps ds e e' h
    | list ds => rw [bindP] at h; exact bindPs_keep ps ds e e' h
    | _ => rw [bindP] at h <;> first | cases h | (intro _ z; cases z)
theorem bindPs_keep : ∀ (ps : List Pat) (ds : List D) (e e' : Sg), bindPs ps ds e = some e' → e'.length = e.length
  | [], ds, e, e', h => by
    cases ds with
    | nil => rw [bindPs] at h; cases h; rfl
    | cons a b => rw [bindPs] at h <;> first | cases h | (intro z; cases z)
  | p :: ps, ds, e, e', h => by
    cases ds with
    | nil => rw [bindPs] at h <;> first | cases h | (intro z; cases z)
    | cons d ds =>
      rw [bindPs] at h
      cases k : bindP p d e with
      | none => rw [k] at h; cases h
      | some e1 =>
        rw [k] at h
        exact (bindPs_keep ps ds e1 e' h).trans (bindP_keep p d e e1 k)
end
def wipeE (e : Sg) : List Nat → Sg
  | [] => e
  | v :: vs => (wipeE e vs).set v .un
def lcGo (p : Pat) (mt : Mn Bool) (me : Mn D) : List D → Sg → Src → Rs (List D)
  | [], _, s => .ok [] s
  | d :: r, e, s => match bindP p d e with
    | none => .no
    | some e1 => (mt e1 s).bind fun k s1 => if k then (me e1 s1).bind fun y s2 => (lcGo p mt me r e s2).bind fun ys s3 => .ok (y :: ys) s3 else lcGo p mt me r e s1
def noEx {α : Type} : Rs α → Rs α
  | .ok a s => .ok a s
  | _ => .no
def mLc (m : Mn (List D)) (p : Pat) (mt : Mn Bool) (me : Mn D) (vs : List Nat) : Mn (List D) := fun e s => (m e s).bind fun xs s1 => noEx (lcGo p mt me xs (wipeE e vs) s1)
/-- nothing may be raised -/
abbrev W0 : WX := fun _ _ _ _ => False
theorem wipe_in {σ : L2.St} {i : Nat} : ∀ {vs : List Nat}, i ∈ vs → i < σ.length → (L2.wipe σ vs)[i]? = some none
  | [], h, _ => by cases h
  | v :: vs, h, hl => by
    show ((L2.wipe σ vs).set v none)[i]? = some none
    by_cases c : v = i
    · subst c
      rw [List.getElem?_set_self (by rw [L2.wipe_length]; exact hl)]
    · rw [List.getElem?_set_ne c]
      rcases List.mem_cons.mp h with q | q
      · exact absurd q.symm c
      · exact wipe_in q hl
theorem wipe_same {σ τ : L2.St} {vs : List Nat} (hl : τ.length = σ.length) (h : ∀ j, j ∉ vs → τ[j]? = (L2.wipe σ vs)[j]?) : L2.wipe τ vs = L2.wipe σ vs := by
  apply List.ext_getElem?
  intro j
  by_cases c : j ∈ vs
  · by_cases d : j < σ.length
    · rw [wipe_in c d, wipe_in c (by rw [hl]; exact d)]
    · rw [List.getElem?_eq_none (by rw [L2.wipe_length]; omega), List.getElem?_eq_none (by rw [L2.wipe_length]; omega)]
  · rw [L2.wipe_out c]
    exact h j c
theorem Rel.wipe {K : PySem.W.Frag} {G : Gh} {σ : L2.St} {H F : Hp} {e : Sg} {s : Src} (r : Rel K G σ H F e s) : ∀ vs : List Nat, Rel K G (L2.wipe σ vs) H F (wipeE e vs) s
  | [] => r
  | _ :: vs => (Rel.wipe r vs).put rfl trivial
/-- an object of no slot's is written -/
theorem Rel.aside {K : PySem.W.Frag} {G : Gh} {σ : L2.St} {H F : Hp} {e : Sg} {s : Src} {a : Addr} {o : HO} (r : Rel K G σ H F e s) (h0 : G.H0 a = none) (hf : F a = none) (ho : ∀ (j : Nat) (z : Sl), e[j]? = some z → own z = true → σ[j]? ≠ some (some (.ref a))) :
    Rel K G σ (upd H a o) F e s := by
  have nM := r.notM0 h0
  have up : ∀ b, b ≠ a → upd H a o b = H b := fun b n => upd_ne n
  refine ⟨⟨fun b u q => ?_, fun b c q => ?_⟩, ⟨fun b u n q => ?_, r.st.grow, r.st.news, fun b n => ?_⟩, r.m0, r.len, fun i y h => ?_, r.inj⟩
  · rw [up b (fun z => by rw [z, hf] at q; cases q)]
    exact r.w.sub b u q
  · obtain ⟨q1, q2, q3, q4, q5⟩ := r.w.src b c q
    obtain ⟨n1, n2⟩ := nM _ q
    exact ⟨q1, by rw [up b (Ne.symm n1)]; exact q2, by rw [up c (Ne.symm n2)]; exact q3, q4, q5⟩
  · rw [up b (fun z => by rw [z, h0] at q; cases q)]
    exact r.st.keep b u n q
  · rw [up b (fun z => n (by rw [z]; exact h0))]
    exact r.st.there b n
  · have k := r.ok i y h
    have ne : own y = true → σ[i]? ≠ some (some (.ref a)) := fun oy => ho i y h oy
    cases y with
    | un => trivial
    | d x => exact k
    | src => exact k
    | scr _ => exact k
    | h _ => exact k
    | l xs =>
      obtain ⟨b, vs, k1, k2, k3⟩ := k
      exact ⟨b, vs, k1, by rw [up b (fun z => ne rfl (by rw [k1, z]))]; exact k2, k3⟩
    | k xs =>
      obtain ⟨b, vs, k1, k2, k3⟩ := k
      exact ⟨b, vs, k1, by rw [up b (fun z => ne rfl (by rw [k1, z]))]; exact k2, k3⟩
    | t xs =>
      obtain ⟨b, vs, k1, k2, k3⟩ := k
      exact ⟨b, vs, k1, by rw [up b (fun z => ne rfl (by rw [k1, z]))]; exact k2, k3⟩
section
variable {X : Cx} {W : WX}
theorem po_ok {G : Gh} {σ : L2.St} {H F : Hp} {α : Type} {R : α → Src → Hp → Hp → Prop} {m : Rs α} (h : Po X W0 G σ H F R m) : True := trivial
/-- the reading of a comprehension -/
theorem lc_read {m : Mn (List D)} {p : Pat} {mt : Mn Bool} {me : Mn D} {vs : List Nat} (hsub : ∀ j, j ∈ patIx p → j ∈ vs) {σ : L2.St} {H : Hp} {Q : VK} (h : rG X W (JL X.K) (mLc m p mt me vs) σ H Q) :
    tLc (rJ X W m) (gR X p) (rG X W0 JB mt) (rG X W0 (JD X.K) me) vs σ H Q := by
  obtain ⟨G, e, s, F, rl, q⟩ := h
  refine ⟨G, e, s, F, rl, ?_⟩
  unfold mLc at q
  cases hm : m e s with
  | no => rw [hm] at q; exact q
  | ex c x s1 => rw [hm] at q; exact q
  | ok xs s1 =>
    rw [hm] at q
    intro H1 F1 st w J it hsz
    have q : Po X W G σ H F (fun a _ H' F' => ∀ b, JL X.K G.M H F H' F' b a → Q b H') (noEx (lcGo p mt me xs (wipeE e vs) s1)) := q
    cases hgo : lcGo p mt me xs (wipeE e vs) s1 with
    | no => rw [hgo] at q; exact q.elim
    | ex c x s2 => rw [hgo] at q; exact q.elim
    | ok L sE =>
      rw [hgo] at q
      intro Da hD
      have rl1 := (rl.step st w).wipe vs
      have hF1 : F1 Da = none := free_of w hD
      have hD0 : H Da = none := by
        cases z : H Da with
        | none => rfl
        | some o => exact absurd hD (st.there Da (by rw [z]; simp))
      have hG0 : G.H0 Da = none := by
        cases z : G.H0 Da with
        | none => rfl
        | some o => exact absurd hD0 (rl.st.there Da (by rw [z]; simp))
      have nM := rl.notM0 hG0
      have noown : ∀ (j : Nat) (z : Sl), (wipeE e vs)[j]? = some z → own z = true → (L2.wipe σ vs)[j]? ≠ some (some (.ref Da)) := fun j z hj oz ej => by
        obtain ⟨b, h1, h2, _⟩ := rl1.ownAt hj oz
        rw [ej] at h1
        cases h1
        exact h2 hD
      refine ⟨fun i n H2 => n = xs.length - i ∧ i ≤ xs.length ∧ ∃ s2 F2 acc dacc ys, Rel X.K G (L2.wipe σ vs) H2 F2 (wipeE e vs) s2 ∧ Stp G.M H1 F1 H2 F2 ∧ H2 Da = some (.lst acc) ∧ F2 Da = none ∧ IsAll X.K F2 acc dacc ∧ dacc.length ≤ i ∧
        lcGo p mt me (xs.drop i) (wipeE e vs) s2 = .ok ys sE ∧ dacc ++ ys = L,
        ⟨xs.length, by rw [Nat.sub_zero], Nat.zero_le _, s1, F1, [], [], L, rl1.aside hG0 hF1 noown, Stp.alloc hD, upd_same, hF1, .nil, Nat.le_refl _, hgo, rfl⟩, ?_⟩
      rintro i n H2 ⟨rfl, hi, s2, F2, acc, dacc, ys, rl2, st2, hacc, hf2, isacc, hlen, go, hL⟩
      obtain ⟨it1, it2⟩ := it i H2 F2 st2 rl2.w.sub
      cases hx : xs[i]? with
      | none =>
        rw [List.drop_of_length_le (List.getElem?_eq_none_iff.mp hx), lcGo] at go
        cases go
        rw [List.append_nil] at hL
        subst hL
        exact .inl ⟨it2 hx, q H2 F2 (st.trans st2) rl2.w _ ⟨Da, acc, rfl, hD0, hf2, hacc, isacc, Nat.le_trans hlen (Nat.le_trans hi hsz)⟩⟩
      | some d =>
        have hlt : i < xs.length := (List.getElem?_eq_some_iff.mp hx).1
        have hd : xs.drop i = d :: xs.drop (i + 1) := by
          rw [List.drop_eq_getElem_cons hlt]
          rw [List.getElem?_eq_getElem hlt] at hx
          cases hx
          rfl
        rw [hd, lcGo] at go
        obtain ⟨g1, g2⟩ := it1 d hx
        refine .inr ⟨g1, _, fun H' z => ⟨xs.length - (i + 1), by omega, z⟩, fun x H3 y => ?_⟩
        obtain ⟨F3, al, is⟩ := g2 x H3 y
        have rl3 := rl2.step al.stp (al.wok rl2.w)
        have st3 : Stp G.M H1 F1 H3 F3 := st2.trans al.stp
        have hacc3 : H3 Da = some (.lst acc) := al.keep _ _ hacc
        have hf3 : F3 Da = none := al.news Da (by rw [hacc]; simp) hf2
        cases hb : bindP p d (wipeE e vs) with
        | none => rw [hb] at go; cases go
        | some e1 =>
          rw [hb] at go
          refine ⟨G, wipeE e vs, s2, F3, d, e1, rl3, is, hb, fun σ4 rl4 fr => ⟨?_, ?_⟩⟩
          · refine wipe_same ?_ fun j hj => fr j fun z => hj (hsub j z)
            have l1 := rl4.len
            have l2 := rl3.len
            have l3 : e1.length = (wipeE e vs).length := by
              exact bindP_keep p d _ _ hb
            rw [l1, l3, ← l2, L2.wipe_length]
          · -- the test
            have go : (mt e1 s2).bind (fun k s1 => if k then (me e1 s1).bind fun y s2 => (lcGo p mt me (xs.drop (i + 1)) (wipeE e vs) s2).bind fun ys s3 => .ok (y :: ys) s3 else lcGo p mt me (xs.drop (i + 1)) (wipeE e vs) s1) = .ok ys sE := go
            refine ⟨G, e1, s2, F3, rl4, ?_⟩
            cases hmt : mt e1 s2 with
            | no => rw [hmt] at go; cases go
            | ex c x s4 => rw [hmt] at go; cases go
            | ok k s4 =>
              rw [hmt] at go
              intro H5 F5 st5 w5 b j
              have j : b = k := j
              subst j
              have keepD : ∀ {H' F' : Hp}, Stp G.M H3 F3 H' F' → H' Da = some (.lst acc) ∧ F' Da = none := fun {H' F'} z => ⟨z.keep _ _ nM hacc3, z.news Da (by rw [hacc3]; simp) hf3⟩
              cases b with
              | false =>
                have go : lcGo p mt me (xs.drop (i + 1)) (wipeE e vs) s4 = .ok ys sE := go
                obtain ⟨k1, k2⟩ := keepD st5
                exact ⟨rfl, hlt, s4, F5, acc, dacc, ys, rl3.step st5 w5, st3.trans st5, k1, k2, IsAll.mono (al.grow.trans st5.grow) isacc, by omega, go, hL⟩
              | true =>
                have go : (me e1 s4).bind (fun y s2 => (lcGo p mt me (xs.drop (i + 1)) (wipeE e vs) s2).bind fun ys s3 => .ok (y :: ys) s3) = .ok ys sE := go
                refine ⟨G, e1, s4, F5, rl4.step st5 w5, ?_⟩
                cases hme : me e1 s4 with
                | no => rw [hme] at go; cases go
                | ex c x s6 => rw [hme] at go; cases go
                | ok y s6 =>
                  rw [hme] at go
                  have go : (lcGo p mt me (xs.drop (i + 1)) (wipeE e vs) s6).bind (fun ys s3 => .ok (y :: ys) s3) = .ok ys sE := go
                  cases hrest : lcGo p mt me (xs.drop (i + 1)) (wipeE e vs) s6 with
                  | no => rw [hrest] at go; cases go
                  | ex c x s7 => rw [hrest] at go; cases go
                  | ok zs s7 =>
                    rw [hrest] at go
                    cases go
                    intro H7 F7 st7 w7 v jv
                    have st57 := st5.trans st7
                    obtain ⟨k1, k2⟩ := keepD st57
                    refine ⟨acc, k1, ?_, rfl, hlt, s6, F7, acc ++ [v], dacc ++ [y], zs, ?_, ?_, upd_same, k2, ?_, ?_, hrest, ?_⟩
                    · rw [isacc.length]
                      omega
                    · exact (rl3.step st57 w7).aside hG0 k2 noown
                    · exact ⟨fun b o nb z => by rw [upd_ne (ne_of_none z hD)]; exact (st3.trans st57).keep b o nb z, (st3.trans st57).grow, (st3.trans st57).news, fun b z => by
                        unfold upd; split
                        · simp
                        · exact (st3.trans st57).there b z⟩
                    · exact (IsAll.mono (al.grow.trans st57.grow) isacc).append (.cons jv .nil)
                    · rw [List.length_append]
                      simp only [List.length_cons, List.length_nil]
                      omega
                    · rw [List.append_assoc]
                      exact hL
/-- a clause's tests -/
def DTs (X : Cx) (W : WX) (ifs : List Expr) (m : Mn Bool) : Prop := PTs X ifs (rG X W JB m)
def mYes : Mn Bool := fun _ s => .ok true s
theorem dts_nil : DTs X W [] mYes := ⟨fun pins s σ H Q I ⟨G, e, s', F, rl, p⟩ => pts_nil.run pins s σ H Q I (p H F Stp.refl rl.w true rfl)⟩
theorem dts_one {c : Expr} {m : Mn Bool} (h : DT X W c m) : DTs X W [c] m := pts_one h
theorem dl_lc {elt tg iter : Expr} {ifs : List Expr} {scope : Scope} {pos : Pos} {m : Mn (List D)} {p : Pat} {mt : Mn Bool} {me : Mn D} (own : List (Str × Nat)) (hi : DJ X W tg iter m) (hc : X.calm = true) (hN : X.N.Nodup) (ok : blkC X.N X.env.scope scope own = true)
    (hg : ∀ (s : Shared) (H : Hp) (C : Addr) (cl : List (Str × Addr)) (fp : List Addr), DG (X.blk s H scope (compEnvC scope cl C X.env) fp) tg p) (ht : ∀ (s : Shared) (H : Hp) (C : Addr) (cl : List (Str × Addr)) (fp : List Addr), DTs (X.blk s H scope (compEnvC scope cl C X.env) fp) W0 ifs mt)
    (he : ∀ (s : Shared) (H : Hp) (C : Addr) (cl : List (Str × Addr)) (fp : List Addr), DE (X.blk s H scope (compEnvC scope cl C X.env) fp) W0 elt me) (hsub : ∀ j ∈ patIx p, j ∈ own.map (·.2) := by decide) (hs : ∀ x, foldedSetIterable iter X.env x = pure x := by intro _; rfl) :
    DL X W (.ListComp elt [⟨tg, iter, ifs, 0⟩] scope pos) (mLc m p mt me (own.map (·.2))) :=
  pe_imp (pe_lc (wi := rJ X W m) (g := gR X p) (tt := rG X W0 JB mt) (te := rG X W0 (JD X.K) me) hc hN hi (blkOk_by ok) hg ht he hs) fun σ H Q h => lc_read hsub h
/-- name = [..] on one line -/
theorem ds_lc (i : Nat) {y : Str} {py : Pos} {elt tg iter : Expr} {ifs : List Expr} {scope : Scope} {pos spos : Pos} {m : Mn (List D)} {p : Pat} {mt : Mn Bool} {me : Mn D} (own : List (Str × Nat)) (hi : DJ X W tg iter m) (hc : X.calm = true) (hN : X.N.Nodup) (ok : blkC X.N X.env.scope scope own = true)
    (hg : ∀ (s : Shared) (H : Hp) (C : Addr) (cl : List (Str × Addr)) (fp : List Addr), DG (X.blk s H scope (compEnvC scope cl C X.env) fp) tg p) (ht : ∀ (s : Shared) (H : Hp) (C : Addr) (cl : List (Str × Addr)) (fp : List Addr), DTs (X.blk s H scope (compEnvC scope cl C X.env) fp) W0 ifs mt)
    (he : ∀ (s : Shared) (H : Hp) (C : Addr) (cl : List (Str × Addr)) (fp : List Addr), DE (X.blk s H scope (compEnvC scope cl C X.env) fp) W0 elt me)
    (hsw : swapsWith (.ListComp elt [⟨tg, iter, ifs, 0⟩] scope pos) (some (.Name y py)) spos.line X.env = pure true) (hsub : ∀ j ∈ patIx p, j ∈ own.map (·.2) := by decide) (hs : ∀ x, foldedSetIterable iter X.env x = pure x := by intro _; rfl)
    (hy : X.N[i]? = some y := by rfl) (hyl : X.env.scope.names.lookup y = some .local := by rfl) : DS X W (.Assign [.Name y py] (.ListComp elt [⟨tg, iter, ifs, 0⟩] scope pos) spos) (mPut i (mMap Sl.l (mLc m p mt me (own.map (·.2))))) :=
  ps_imp (ps_setLc (wi := rJ X W m) (g := gR X p) (tt := rG X W0 JB mt) (te := rG X W0 (JD X.K) me) hc hN hy hyl hsw hi (blkOk_by ok) hg ht he hs) fun Z σ H h => lc_read hsub (rG_map (put_of h) fun _ _ _ _ _ _ _ j => j)

/-! ### defs -/
def arSl : Ar → Sl
  | .d x => .d x
  | .src => .src
  | .scr ns => .scr ns
def runF (n : Nat) (m : Ms) : Fs := fun as s => match m (as.map arSl ++ List.replicate (n - as.length) .un) s with
  | .rt d s1 => .ok d s1
  | .nx _ s1 => .ok .none s1
  | .ex c x _ s1 => .ex c x s1
  | _ => .no
theorem start_rel {K : PySem.W.Frag} {M : Option (Addr × Addr)} {H F : Hp} {s : Src} {vs : List V} {as : List Ar} (N : List Str) (w : Wok M H F s) (ia : IsArs K M F vs as) : Rel K ⟨M, H, F⟩ (L2.start N vs) H F (as.map arSl ++ List.replicate (N.length - as.length) .un) s := by
  have hl := paired_len ia
  have get : ∀ {vs : List V} {as : List Ar}, IsArs K M F vs as → ∀ (i : Nat) (a : Ar), as[i]? = some a → ∃ v, vs[i]? = some v ∧ IsAr K M F v a := by
    intro vs as h
    induction h with
    | nil => intro i a q; simp at q
    | cons h1 h2 ih =>
      intro i a q
      cases i with
      | zero => cases q; exact ⟨_, rfl, h1⟩
      | succ i =>
        obtain ⟨v, k1, k2⟩ := ih i a (by simpa using q)
        exact ⟨v, by simpa using k1, k2⟩
  have at_ : ∀ (i : Nat) (y : Sl), (as.map arSl ++ List.replicate (N.length - as.length) Sl.un)[i]? = some y → (∃ a v, as[i]? = some a ∧ y = arSl a ∧ (L2.start N vs)[i]? = some (some v) ∧ IsAr K M F v a) ∨ y = .un := by
    intro i y q
    by_cases c : i < as.length
    · rw [List.getElem?_append_left (by rw [List.length_map]; exact c), List.getElem?_map, List.getElem?_eq_getElem c] at q
      have q2 := Option.some.inj q
      obtain ⟨v, k1, k2⟩ := get ia i as[i] (List.getElem?_eq_getElem c)
      refine .inl ⟨as[i], v, List.getElem?_eq_getElem c, q2.symm, ?_, k2⟩
      unfold L2.start
      rw [List.getElem?_append_left (by rw [List.length_map, hl]; exact c), List.getElem?_map, k1]
      rfl
    · rw [List.getElem?_append_right (by rw [List.length_map]; omega)] at q
      exact .inr (List.eq_of_mem_replicate (List.mem_of_getElem? q))
  refine ⟨w, Stp.refl, fun a c q => w.has q, ?_, fun i y q => ?_, fun i j y z a hi hj oy oz _ _ => ?_⟩
  · unfold L2.start
    rw [List.length_append, List.length_append, List.length_map, List.length_map, List.length_replicate, List.length_replicate, hl]
  · rcases at_ i y q with ⟨a, v, _, rfl, h1, h2⟩ | rfl
    · cases a with
      | d x => exact ⟨v, h1, h2⟩
      | src =>
        obtain ⟨b, c, rfl, k⟩ := h2
        exact ⟨b, c, h1, k⟩
      | scr ns =>
        obtain ⟨b, rfl, k⟩ := h2
        exact ⟨b, h1, k⟩
    · trivial
  · rcases at_ i y hi with ⟨a, v, _, rfl, h1, h2⟩ | rfl
    · cases a <;> cases oy
    · cases oy
theorem fn_den {P : Program} {w : World} {K : PySem.W.Frag} {mg : Str → Option Value} {base : Heap} {x qual : Str} {st : Stmt} {f : Addr} {fd : FuncData} {N ps : List Str} {k : Nat} {m : Ms} (F : Fun K x qual st f fd) (S : FnScope N ps (defScope st))
    (body : ∀ (cdv : Value) (A : Around) (outer : List Env) (s : Shared) (H : Hp) (E : XK), Room k (A.deeper (envOfC qual (defScope st) s.heap.objs.size f cdv)) → A.guards = some [] →
      DSs (cxOf (L2.CX P w) P w K mg base N qual (defScope st) f cdv A outer s H E) (fun cls dd _ H => E cls dd H) (defBody st) m) : FnG P w K mg base (k + 1) f fd ps (spD mg K ps.length (runF N.length m)) := by
  refine fnG_of F S spD_len fun cdv A outer s H vs Q E hr hgd sp => ⟨_, body cdv A outer s H E hr hgd, ?_⟩
  obtain ⟨M, Fz, as, s0, wk, ia, hl, po⟩ := sp
  refine ⟨⟨M, H, Fz⟩, _, s0, Fz, start_rel N wk ia, ?_⟩
  unfold runF at po
  cases hm : m (as.map arSl ++ List.replicate (N.length - as.length) Sl.un) s0 with
  | no => rw [hm] at po; exact po
  | bk e1 s1 => rw [hm] at po; exact po.elim
  | ct e1 s1 => rw [hm] at po; exact po.elim
  | nx e1 s1 => rw [hm] at po; exact fun σ' H' F' r => po _ H' F' r.st r.w .non
  | rt d s1 => rw [hm] at po; exact fun v H' F' st w is => po v H' F' st w is
  | ex c x e1 s1 => rw [hm] at po; exact fun cls dd σ' H' F' r ex => po cls dd H' F' r.st r.w ex

/-! ### own lists change -/
def mOwnL (i : Nat) (k : List D → Ms) : Ms := fun e s => match e[i]? with
  | some (.l xs) => k xs e s
  | _ => .no
theorem ownL_of {G : Gh} {Z : Ends} {i : Nat} {k : List D → Ms} {e : Sg} {s : Src} (p : PoS X W G Z (mOwnL i k e s)) : ∃ xs, e[i]? = some (.l xs) ∧ PoS X W G Z (k xs e s) := by
  unfold mOwnL at p
  cases q : e[i]? with
  | none => rw [q] at p; exact p.elim
  | some y =>
    rw [q] at p
    cases y with
    | l xs => exact ⟨xs, rfl, p⟩
    | un => exact p.elim
    | d _ => exact p.elim
    | k _ => exact p.elim
    | t _ => exact p.elim
    | src => exact p.elim
    | scr _ => exact p.elim
    | h _ => exact p.elim
theorem ite_pos {G : Gh} {Z : Ends} {c : Bool} {m : Sr} (h : PoS X W G Z (if c then m else .no)) : c = true ∧ PoS X W G Z m := by
  cases c with
  | true => exact ⟨rfl, h⟩
  | false => exact h.elim
/-- an own list gets another content -/
theorem Rel.mutL {K : PySem.W.Frag} {G : Gh} {σ : L2.St} {H F : Hp} {e : Sg} {s : Src} {i : Nat} {xs ys : List D} {a : Addr} {ws : List V} (r : Rel K G σ H F e s) (hi : e[i]? = some (.l xs)) (ha : σ[i]? = some (some (.ref a))) (h0 : G.H0 a = none) (hf : F a = none) (iw : IsAll K F ws ys) (hz : ys.length ≤ sizeLine) :
    Rel K G σ (upd H a (.lst ws)) F (e.set i (.l ys)) s :=
  r.mut hi rfl ha ⟨a, ws, rfl, upd_same, iw, h0, hf, hz⟩
def mApd (i : Nat) (m : Mn D) : Ms := mOwnL i fun xs => mE m fun d e s => if decide (xs.length < 16777216) then .nx (e.set i (.l (xs ++ [d]))) s else .no
theorem ds_append (i : Nat) {x : Str} {a : Expr} {m : Mn D} {apos cpos pos px : Pos} (he : DE X W a m) (hN : X.N[i]? = some x := by rfl) (hv : Vis X.env.scope x := by first | exact Or.inl rfl | exact Or.inr (Or.inl rfl) | exact Or.inr (Or.inr rfl)) (hd : (x == ("__debug__" : Str)) = false := by decide)
    (hcd : (x == ("__classdict__" : Str)) = false := by decide) (hs : swapsWith (.Call (.Attribute (.Name x px) "append" apos) [a] [] cpos) none pos.line X.env = pure false := by rfl) (hbase : attributeBase (.Name x px) "append" X.env (eval (.Name x px) X.env) = eval (.Name x px) X.env := by rfl)
    (hfew : ((backTo cpos (starEach [a] X.env)).all (fun x => !x.1) && (backToKw cpos (keywordEach [] X.env)).all (fun x => x.1.isSome) && decide (([a] : List Expr).length + ([] : List Keyword).length + (if ([] : List Keyword).isEmpty then 0 else 1) < 30)) = true := by rfl)
    (hline : (apos.endLine == cpos.line) = true := by rfl) (hst : starEach [a] X.env = (false, eval a X.env) :: starEach [] X.env := by rfl) (hplain : (backTo cpos (starEach ([] : List Expr) X.env)).any (·.1) = false := by rfl) :
    DS X W (.Expr (.Call (.Attribute (.Name x px) "append" apos) [a] [] cpos) pos) (mApd i m) :=
  ps_imp (ps_expr (pe_bm PySem.F.plainAttrs_list PySem.F.slot_list_append PySem.F.type_list_append mt_append (pe_var hN hv hd hcd) (pa_cons he pa_nil hst) hbase hfew hline hst hplain) hs) fun Z σ H ⟨G, e, s, F, rl, p⟩ => by
    obtain ⟨xs, hi, p⟩ := ownL_of p
    obtain ⟨b, vs, h1, h2, h3, h4, h5, h6⟩ := rl.ok i _ hi
    refine ⟨_, h1, Or.inl ⟨rfl, _, Or.inl (Or.inl h2)⟩, E_of rl p fun d s1 H1 F1 v rl1 st j p1 => ?_⟩
    obtain ⟨z, p2⟩ := ite_pos p1
    have z := of_decide_eq_true z
    have nM := rl.notM0 h4
    have k2 := st.keep b _ nM h2
    refine ⟨b, vs, v, rfl, rfl, k2, by rw [h3.length, sizeLine_eq]; exact z, p2 _ _ F1 (rl1.mutL hi h1 h4 (st.news b (by rw [h2]; simp) h5) ((IsAll.mono st.grow h3).append (.cons j .nil)) ?_)⟩
    rw [List.length_append, sizeLine_eq]
    simp only [List.length_cons, List.length_nil]
    omega
/-- xs.pop() of which nothing is wanted -/
def mPop (i : Nat) : Ms := mOwnL i fun xs e s => if decide (0 < xs.length) then .nx (e.set i (.l xs.dropLast)) s else .no
theorem ds_pop (i : Nat) {x : Str} {apos cpos pos px : Pos} (hN : X.N[i]? = some x := by rfl) (hv : Vis X.env.scope x := by first | exact Or.inl rfl | exact Or.inr (Or.inl rfl) | exact Or.inr (Or.inr rfl)) (hd : (x == ("__debug__" : Str)) = false := by decide)
    (hcd : (x == ("__classdict__" : Str)) = false := by decide) (hs : swapsWith (.Call (.Attribute (.Name x px) "pop" apos) [] [] cpos) none pos.line X.env = pure false := by rfl) (hbase : attributeBase (.Name x px) "pop" X.env (eval (.Name x px) X.env) = eval (.Name x px) X.env := by rfl)
    (hline : (apos.endLine == cpos.line) = true := by rfl) : DS X W (.Expr (.Call (.Attribute (.Name x px) "pop" apos) [] [] cpos) pos) (mPop i) :=
  ps_imp (ps_expr (pe_bm0 PySem.F.plainAttrs_list PySem.F.slot_list_pop PySem.F.type_list_pop mt_pop (pe_var hN hv hd hcd) hbase hline) hs) fun Z σ H ⟨G, e, s, F, rl, p⟩ => by
    obtain ⟨xs, hi, p⟩ := ownL_of p
    obtain ⟨z, p2⟩ := ite_pos p
    have z := of_decide_eq_true z
    obtain ⟨b, vs, h1, h2, h3, h4, h5, h6⟩ := rl.ok i _ hi
    have hl := h3.length
    have hlast : vs[vs.length - 1]? = some vs[vs.length - 1] := List.getElem?_eq_getElem (by omega)
    refine ⟨_, h1, Or.inl ⟨rfl, _, Or.inl (Or.inl h2)⟩, b, vs, _, rfl, rfl, h2, hlast, p2 _ _ F (rl.mutL hi h1 h4 h5 h3.dropLast ?_)⟩
    rw [List.length_dropLast]
    omega
def mExt (i : Nat) (m : Mn D) : Ms := mOwnL i fun xs => mE m fun d e s => match d with
  | .list ys => if szB (xs.length + ys.length) then .nx (e.set i (.l (xs ++ ys))) s else .no
  | _ => .no
theorem ds_extend (i : Nat) {x : Str} {a : Expr} {m : Mn D} {apos cpos pos px : Pos} (he : DV X W a m) (hN : X.N[i]? = some x := by rfl) (hv : Vis X.env.scope x := by first | exact Or.inl rfl | exact Or.inr (Or.inl rfl) | exact Or.inr (Or.inr rfl)) (hd : (x == ("__debug__" : Str)) = false := by decide)
    (hcd : (x == ("__classdict__" : Str)) = false := by decide) (hs : swapsWith (.Call (.Attribute (.Name x px) "extend" apos) [a] [] cpos) none pos.line X.env = pure false := by rfl) (hbase : attributeBase (.Name x px) "extend" X.env (eval (.Name x px) X.env) = eval (.Name x px) X.env := by rfl)
    (hfew : ((backTo cpos (starEach [a] X.env)).all (fun x => !x.1) && (backToKw cpos (keywordEach [] X.env)).all (fun x => x.1.isSome) && decide (([a] : List Expr).length + ([] : List Keyword).length + (if ([] : List Keyword).isEmpty then 0 else 1) < 30)) = true := by rfl)
    (hline : (apos.endLine == cpos.line) = true := by rfl) (hst : starEach [a] X.env = (false, eval a X.env) :: starEach [] X.env := by rfl) (hplain : (backTo cpos (starEach ([] : List Expr) X.env)).any (·.1) = false := by rfl) :
    DS X W (.Expr (.Call (.Attribute (.Name x px) "extend" apos) [a] [] cpos) pos) (mExt i m) :=
  ps_imp (ps_expr (pe_bm PySem.F.plainAttrs_list PySem.F.slot_list_extend PySem.F.type_list_extend mt_extend (pe_var hN hv hd hcd) (pa_cons he pa_nil hst) hbase hfew hline hst hplain) hs) fun Z σ H ⟨G, e, s, F, rl, p⟩ => by
    obtain ⟨xs, hi, p⟩ := ownL_of p
    obtain ⟨b, vs, h1, h2, h3, h4, h5, h6⟩ := rl.ok i _ hi
    refine ⟨_, h1, Or.inl ⟨rfl, _, Or.inl (Or.inl h2)⟩, E_of rl p fun d s1 H1 F1 v rl1 st j p1 => ?_⟩
    cases d with
    | list ys =>
      obtain ⟨z, p2⟩ := ite_pos (show PoS X W G Z (if szB (xs.length + ys.length) then .nx (e.set i (.l (xs ++ ys))) s1 else .no) from p1)
      obtain ⟨a1, ws, rfl, k1, k3, k4⟩ := (j H1 F1 Stp.refl rl1.w.sub).list rl1.w.sub
      have nM := rl.notM0 h4
      have k2 := st.keep b _ nM h2
      refine ⟨b, a1, vs, ws, rfl, rfl, k2, k1, by rw [h3.length, k3.length]; exact szB_ok z, p2 _ _ F1 (rl1.mutL hi h1 h4 (st.news b (by rw [h2]; simp) h5) ((IsAll.mono st.grow h3).append k3) ?_)⟩
      rw [List.length_append]
      exact szB_ok z
    | _ => exact p1.elim
/-- xs[k] = v -/
def mSetIx (i : Nat) (mv mk : Mn D) : Ms := mE mv fun d => mOwnL i fun xs => mE mk fun k e s => match k with
  | .int j => match ixN xs.length j with
    | some n => .nx (e.set i (.l (xs.set n d))) s
    | none => .no
  | _ => .no
end
end Pt

/-! Pt I: the source, dicts, chains, more that is walked. -/
namespace Pt
open PySem PySem.Spec PyProof.Rows L2

section
variable {X : Cx} {W : WX}
/-! ### the source -/
def isSrc (e : Sg) (i : Nat) : Bool := match e[i]? with
  | some .src => true
  | _ => false
theorem isSrc_at {K : PySem.W.Frag} {G : Gh} {σ : L2.St} {H F : Hp} {e : Sg} {s : Src} {i : Nat} (r : Rel K G σ H F e s) (h : isSrc e i = true) : ∃ a c, σ[i]? = some (some (.ref a)) ∧ G.M = some (a, c) := by
  unfold isSrc at h
  cases q : e[i]? with
  | none => rw [q] at h; cases h
  | some y =>
    rw [q] at h
    cases y with
    | src => exact r.ok i _ q
    | _ => cases h
def mSrcI (i : Nat) (g : Src → Int) : Mn D := fun e s => if isSrc e i then .ok (.int (g s)) s else .no
def mSrcLen (i : Nat) : Mn D := fun e s => if isSrc e i then .ok (.int s.cells.length) s else .no
/-- source["f"] -/
theorem de_srcI (i : Nat) (g : Src → Int) {x f : Str} {px p2 pos : Pos} {j : Nat} (hu : X.A.units + 1 < cLine) (hf : ∀ c s, valV (srcKV c s) (.inr f) = some (.int (g s))) (hN : X.N[i]? = some x := by rfl) (hv : Vis X.env.scope x := by first | exact Or.inl rfl | exact Or.inr (Or.inl rfl) | exact Or.inr (Or.inr rfl)) (hd : (x == ("__debug__" : Str)) = false := by decide)
    (hcd : (x == ("__classdict__" : Str)) = false := by decide) : DE X W (.Subscript (.Name x px) (.Constant (.str f) j p2) pos) (mSrcI i g) :=
  pe_imp (pe_dget hu (pe_var hN hv hd hcd) pe_str (fun _ _ => rfl)) fun σ H Q ⟨G, e, s, F, rl, p⟩ => by
    obtain ⟨z, q⟩ := ite_po p
    obtain ⟨a, c, h1, h2⟩ := isSrc_at rl z
    obtain ⟨k1, k2, k3, k4, k5⟩ := rl.w.src a c h2
    have dg := DGet.k (k := Sum.inr f) k2
    rw [hf] at dg
    exact ⟨_, h1, a, _, rfl, dg, q H F Stp.refl rl.w _ (.int _)⟩
/-- len(source["cells"]) -/
theorem de_srcLen (i : Nat) {x : Str} {px p2 p3 p4 pos : Pos} {j : Nat} (hu : X.A.units + 1 < cLine) (hm : X.mg "len" = none) (hN : X.N[i]? = some x := by rfl) (hv : Vis X.env.scope x := by first | exact Or.inl rfl | exact Or.inr (Or.inl rfl) | exact Or.inr (Or.inr rfl)) (hd : (x == ("__debug__" : Str)) = false := by decide)
    (hcd : (x == ("__classdict__" : Str)) = false := by decide) (hg : Gl X "len" := by rfl) (hs : starEach [.Subscript (.Name x px) (.Constant (.str "cells") j p2) p3] X.env = (false, eval (.Subscript (.Name x px) (.Constant (.str "cells") j p2) p3) X.env) :: starEach [] X.env := by rfl)
    (hpl : (backTo pos (starEach ([] : List Expr) X.env)).any (·.1) = false := by rfl) : DE X W (.Call (.Name "len" p4) [.Subscript (.Name x px) (.Constant (.str "cells") j p2) p3] [] pos) (mSrcLen i) :=
  pe_imp (pe_callB call_len_seq hg hm PySem.boot_len (pa_cons (pe_dget hu (pe_var hN hv hd hcd) pe_str (fun _ _ => rfl)) pa_nil hs) (by decide) (by decide) hs hpl) fun σ H Q ⟨G, e, s, F, rl, p⟩ => by
    obtain ⟨z, q⟩ := ite_po p
    obtain ⟨a, c, h1, h2⟩ := isSrc_at rl z
    obtain ⟨k1, k2, k3, k4, k5⟩ := rl.w.src a c h2
    have dg := DGet.k (k := Sum.inr "cells") k2
    refine ⟨_, h1, a, .ref c, rfl, dg, c, _, rfl, .inl (.inl (.inl k3)), ?_⟩
    rw [List.length_map]
    exact q H F Stp.refl rl.w _ (.int _)
/-- the source's own objects change -/
theorem Rel.turnS {K : PySem.W.Frag} {G : Gh} {σ : L2.St} {H H' F : Hp} {e : Sg} {s s' : Src} {a c : Addr} (r : Rel K G σ H F e s) (hM : G.M = some (a, c)) (ha : H' a = some (.dK (srcKV c s'))) (hc : H' c = some (.lst (s'.cells.map V.int))) (ho : ∀ b, b ≠ a → b ≠ c → H' b = H b) : Rel K G σ H' F e s' := by
  obtain ⟨k1, k2, k3, k4, k5⟩ := r.w.src a c hM
  have nb : ∀ b, notM G.M b → H' b = H b := fun b n => by
    obtain ⟨n1, n2⟩ := n _ hM
    exact ho b n1 n2
  have there : ∀ b, H b ≠ none → H' b ≠ none := fun b n => by
    by_cases q1 : b = a
    · rw [q1, ha]; simp
    · by_cases q2 : b = c
      · rw [q2, hc]; simp
      · rw [ho b q1 q2]; exact n
  have st : Stp G.M H F H' F := ⟨fun b o n q => by rw [nb b n]; exact q, Same.refl _, fun _ _ q => q, there⟩
  refine r.step st ⟨fun b o q => ?_, fun a' c' q => ?_⟩
  · rw [ho b (fun z => by rw [z, k4] at q; cases q) (fun z => by rw [z, k5] at q; cases q)]
    exact r.w.sub b o q
  · rw [hM] at q
    cases q
    exact ⟨k1, ha, hc, k4, k5⟩
def mSrcPut (i : Nat) (g : Src → Int → Src) (m : Mn D) : Ms := mE m fun d e s => match d with
  | .int k => if isSrc e i then .nx e (g s k) else .no
  | _ => .no
/-- source["f"] = v -/
theorem ds_srcPut (i : Nat) (g : Src → Int → Src) {x f : Str} {v : Expr} {m : Mn D} {px p2 p3 pos : Pos} {j : Nat} (he : DE X W v m) (hu : X.A.units + 1 < cLine) (hf : ∀ c s k, putK (srcKV c s) (.inr f) (.int k) = srcKV c (g s k)) (hcells : ∀ s k, (g s k).cells = s.cells) (hN : X.N[i]? = some x := by rfl) (hv : Vis X.env.scope x := by first | exact Or.inl rfl | exact Or.inr (Or.inl rfl) | exact Or.inr (Or.inr rfl)) (hd : (x == ("__debug__" : Str)) = false := by decide)
    (hcd : (x == ("__classdict__" : Str)) = false := by decide) (hs : swapsWith v (some (.Subscript (.Name x px) (.Constant (.str f) j p2) p3)) pos.line X.env = pure false := by rfl) : DS X W (.Assign [.Subscript (.Name x px) (.Constant (.str f) j p2) p3] v pos) (mSrcPut i g m) :=
  ps_imp (ps_dput hu (pe_var hN hv hd hcd) pe_str he hs) fun Z σ H h => rS_E h fun G e F s d s1 H1 F1 w rl rl1 st jv p => by
    cases d with
    | int k =>
      obtain ⟨z, q⟩ := ite_pos (show PoS X W G Z (if isSrc e i then .nx e (g s1 k) else .no) from p)
      obtain ⟨a, c, h1, h2⟩ := isSrc_at rl1 z
      obtain ⟨k1, k2, k3, k4, k5⟩ := rl1.w.src a c h2
      cases jv
      have dp := DPut.k (k := Sum.inr f) (v := V.int k) k2 (by rw [sizeLine_eq]; show 4 < 16777216; decide)
      rw [hf] at dp
      exact ⟨_, h1, a, _, rfl, dp, q _ _ F1 (rl1.turnS h2 upd_same (by rw [upd_ne (Ne.symm k1), hcells]; exact k3) fun b n1 n2 => upd_ne n1)⟩
    | _ => exact p.elim
def popS (s : Src) : Src := { s with cells := s.cells.dropLast, left := s.cells.getLastD 0 }
def mSrcPop (i : Nat) : Ms := fun e s => if isSrc e i && decide (0 < s.cells.length) then .nx e (popS s) else .no
/-- source["left"] = source["cells"].pop() -/
theorem ds_srcPop (i : Nat) {x : Str} {px p2 p3 qx q2 q3 q4 q5 pos : Pos} {j k : Nat} (hu : X.A.units + 1 < cLine) (hN : X.N[i]? = some x := by rfl) (hv : Vis X.env.scope x := by first | exact Or.inl rfl | exact Or.inr (Or.inl rfl) | exact Or.inr (Or.inr rfl)) (hd : (x == ("__debug__" : Str)) = false := by decide)
    (hcd : (x == ("__classdict__" : Str)) = false := by decide) (hs : swapsWith (.Call (.Attribute (.Subscript (.Name x qx) (.Constant (.str "cells") k q2) q3) "pop" q4) [] [] q5) (some (.Subscript (.Name x px) (.Constant (.str "left") j p2) p3)) pos.line X.env = pure false := by rfl)
    (hbase : attributeBase (.Subscript (.Name x qx) (.Constant (.str "cells") k q2) q3) "pop" X.env (eval (.Subscript (.Name x qx) (.Constant (.str "cells") k q2) q3) X.env) = eval (.Subscript (.Name x qx) (.Constant (.str "cells") k q2) q3) X.env := by rfl) (hline : (q4.endLine == q5.line) = true := by rfl) :
    DS X W (.Assign [.Subscript (.Name x px) (.Constant (.str "left") j p2) p3] (.Call (.Attribute (.Subscript (.Name x qx) (.Constant (.str "cells") k q2) q3) "pop" q4) [] [] q5) pos) (mSrcPop i) :=
  ps_imp (ps_dput hu (pe_var hN hv hd hcd) pe_str (pe_bm0 PySem.F.plainAttrs_list PySem.F.slot_list_pop PySem.F.type_list_pop mt_pop (pe_dget hu (pe_var hN hv hd hcd) pe_str (fun _ _ => rfl)) hbase hline) hs) fun Z σ H ⟨G, e, s, F, rl, p⟩ => by
    obtain ⟨z, q⟩ := ite_pos p
    rw [Bool.and_eq_true] at z
    have z2 := of_decide_eq_true z.2
    obtain ⟨a, c, h1, h2⟩ := isSrc_at rl z.1
    obtain ⟨k1, k2, k3, k4, k5⟩ := rl.w.src a c h2
    have dg := DGet.k (k := Sum.inr "cells") k2
    have hne : s.cells ≠ [] := fun z => by rw [z] at z2; exact absurd z2 (by decide)
    have hlast : (s.cells.map V.int)[(s.cells.map V.int).length - 1]? = some (.int (s.cells.getLastD 0)) := by
      rw [List.length_map, List.getElem?_map, ← List.getLast?_eq_getElem?, List.getLast?_eq_some_getLast hne, List.getLastD_eq_getLast?, List.getLast?_eq_some_getLast hne]
      rfl
    refine ⟨_, h1, a, .ref c, rfl, dg, Or.inl ⟨rfl, _, Or.inl (Or.inl k3)⟩, c, _, _, rfl, rfl, k3, hlast, ?_⟩
    have k2' : upd H c (.lst (s.cells.map V.int).dropLast) a = some (.dK (srcKV c s)) := by
      rw [upd_ne k1]
      exact k2
    have dp := DPut.k (k := Sum.inr "left") (v := V.int (s.cells.getLastD 0)) k2' (by rw [sizeLine_eq]; show 4 < 16777216; decide)
    refine ⟨_, h1, a, _, rfl, dp, q _ _ F (rl.turnS (s' := popS s) h2 upd_same ?_ fun b n1 n2 => ?_)⟩
    · rw [upd_ne (Ne.symm k1), upd_same, ← List.map_dropLast]
      rfl
    · rw [upd_ne n1, upd_ne n2]

/-! ### dicts with keys ints and texts -/
def keyB (κ : Key) : D → Bool
  | .int i => decide (κ = .inl i)
  | .str x => decide (κ = .inr x)
  | _ => false
def lookK : List (D × D) → Key → Option D
  | [], _ => none
  | (k, d) :: r, κ => if keyB κ k then some d else lookK r κ
def putD (kvs : List (D × D)) (κ : Key) (d : D) : List (D × D) :=
  if (kvs.any fun p => keyB κ p.1) = true then kvs.map (fun p => if keyB κ p.1 = true then (p.1, d) else p) else kvs ++ [(keyD κ, d)]
theorem keyB_iff {κ μ : Key} : keyB κ (keyD μ) = decide (μ = κ) := by
  cases μ with
  | inl i => show decide _ = decide _; by_cases h : κ = .inl i <;> simp [h, eq_comm]
  | inr i => show decide _ = decide _; by_cases h : κ = .inr i <;> simp [h, eq_comm]
theorem look_kv {K : PySem.W.Frag} {F : Hp} (κ : Key) : ∀ {ws : List (Key × V)} {kvs : List (D × D)}, IsKV K F ws kvs → (valV ws κ = none ∧ lookK kvs κ = none) ∨ ∃ v d, valV ws κ = some v ∧ lookK kvs κ = some d ∧ Is K F v d
  | [], _, h => by cases h; exact .inl ⟨rfl, rfl⟩
  | (μ, v) :: ws, _, h => by
    cases h with
    | @cons _ _ _ d kvs a b =>
      by_cases c : μ = κ
      · refine .inr ⟨v, d, valV_pos c, ?_, a⟩
        rw [lookK, keyB_iff, decide_eq_true c, if_pos rfl]
      · rw [valV_neg (p := (μ, v)) c, lookK, keyB_iff, decide_eq_false c, if_neg Bool.false_ne_true]
        exact look_kv κ b
theorem any_kv {K : PySem.W.Frag} {F : Hp} {κ : Key} : ∀ {ws : List (Key × V)} {kvs : List (D × D)}, IsKV K F ws kvs → (ws.any fun p => decide (p.1 = κ)) = kvs.any fun p => keyB κ p.1
  | [], _, h => by cases h; rfl
  | (μ, w) :: ws, _, h => by
    cases h with
    | cons a b => rw [List.any_cons, List.any_cons, any_kv b, keyB_iff]
theorem map_kv {K : PySem.W.Frag} {F : Hp} {κ : Key} {v : V} {d : D} (hv : Is K F v d) : ∀ {ws : List (Key × V)} {kvs : List (D × D)}, IsKV K F ws kvs → IsKV K F (ws.map fun p => if p.1 = κ then (p.1, v) else p) (kvs.map fun p => if keyB κ p.1 = true then (p.1, d) else p)
  | [], _, h => by cases h; exact .nil
  | (μ, w) :: ws, _, h => by
    cases h with
    | cons a b =>
      rw [List.map_cons, List.map_cons, keyB_iff]
      by_cases c : μ = κ
      · rw [if_pos c, decide_eq_true c, if_pos rfl]
        exact .cons hv (map_kv hv b)
      · rw [if_neg c, decide_eq_false c, if_neg Bool.false_ne_true]
        exact .cons a (map_kv hv b)
theorem app_kv {K : PySem.W.Frag} {F : Hp} {κ : Key} {v : V} {d : D} (hv : Is K F v d) : ∀ {ws : List (Key × V)} {kvs : List (D × D)}, IsKV K F ws kvs → IsKV K F (ws ++ [(κ, v)]) (kvs ++ [(keyD κ, d)])
  | [], _, h => by cases h; exact .cons hv .nil
  | (μ, w) :: ws, _, h => by
    cases h with
    | cons a b => exact .cons a (app_kv hv b)
theorem put_kv {K : PySem.W.Frag} {F : Hp} {κ : Key} {v : V} {d : D} (hv : Is K F v d) {ws : List (Key × V)} {kvs : List (D × D)} (h : IsKV K F ws kvs) : IsKV K F (putK ws κ v) (putD kvs κ d) := by
  unfold putK putD
  rw [any_kv h]
  split
  · exact map_kv hv h
  · exact app_kv hv h
theorem len_putD (kvs : List (D × D)) (κ : Key) (d : D) : (putD kvs κ d).length ≤ kvs.length + 1 := by
  unfold putD
  split
  · rw [List.length_map]; omega
  · rw [List.length_append]; exact Nat.le_refl _
theorem len_kv {K : PySem.W.Frag} {F : Hp} : ∀ {ws : List (Key × V)} {kvs : List (D × D)}, IsKV K F ws kvs → ws.length = kvs.length
  | [], _, h => by cases h; rfl
  | _ :: _, _, h => by
    cases h with
    | cons a b => exact congrArg (· + 1) (len_kv b)
/-- the key that a value is -/
def keyOf : D → Option Key
  | .int i => some (.inl i)
  | .str x => some (.inr x)
  | _ => none
theorem keyOf_is {K : PySem.W.Frag} {H F : Hp} {v : V} {d : D} {κ : Key} (h : IsV K H F v d) (e : keyOf d = some κ) : v = kV κ := by
  unfold keyOf at e
  split at e
  · cases e; exact h.int
  · cases e; exact h.str
  · cases e
/-- d[k] of a dict with such keys; k in d; d.get(k, x) -/
def dGetK : D → D → Option D
  | .dict kvs, k => (keyOf k).bind fun κ => lookK kvs κ
  | _, _ => none
theorem kv_dict {K : PySem.W.Frag} {H F : Hp} {v : V} {kvs : List (D × D)} (h : IsV K H F v (.dict kvs)) (sub : Same F H) (ne : ∀ d r, kvs ≠ (.none, d) :: r) : ∃ a ws, v = .ref a ∧ H a = some (.dK ws) ∧ IsKV K F ws kvs := by
  rcases h.dict sub with h | ⟨a, ws, k2, rfl, rfl, h⟩
  · exact h
  · exact absurd rfl (ne _ _)
def notT : List (D × D) → Bool
  | (.none, _) :: _ => false
  | _ => true
theorem notT_ne {kvs : List (D × D)} (h : notT kvs = true) : ∀ d r, kvs ≠ (.none, d) :: r := fun d r e => by
  subst e
  cases h
def mGetK (md mk : Mn D) : Mn D := fun e s => (md e s).bind fun d s1 => (mk e s1).bind fun k s2 => match d with
  | .dict kvs => if notT kvs then Rs.lift ((keyOf k).bind fun κ => lookK kvs κ) s2 else .no
  | _ => .no
theorem de_getK {o i : Expr} {md mk : Mn D} {pos : Pos} (hu : X.A.units + 1 < cLine) (ho : DV X W o md) (hi : DE X W i mk) (hs : NoSl i := by intro _ _; rfl) : DE X W (.Subscript o i pos) (mGetK md mk) :=
  pe_imp (pe_dget hu ho hi hs) fun σ H Q ⟨G, e, s, F, rl, p⟩ => rG_seq rl p fun d s1 H1 F1 x rl1 st1 w1 jx p1 => rG_seq rl1 p1 fun k s2 H2 F2 y rl2 st2 w2 jy p2 => by
    cases d with
    | dict kvs =>
      obtain ⟨z, q⟩ := ite_po (show Po X W G σ H2 F2 _ (if notT kvs then Rs.lift ((keyOf k).bind fun κ => lookK kvs κ) s2 else .no) from p2)
      obtain ⟨r, e1, q⟩ := q.lift
      obtain ⟨κ, e2, e3⟩ := Option.bind_eq_some_iff.mp e1
      obtain ⟨a, ws, rfl, h1, h2⟩ := kv_dict (jx H2 F2 st2 w2.sub) w2.sub (notT_ne z)
      have e4 := keyOf_is (.inl jy : IsV X.K H2 F2 y k) e2
      rcases look_kv κ h2 with ⟨_, k2⟩ | ⟨v, d, k1, k2, k3⟩
      · rw [k2] at e3; cases e3
      · rw [k2] at e3
        cases e3
        have dg := DGet.k (k := κ) h1
        rw [k1, ← e4] at dg
        exact ⟨a, v, rfl, dg, q H2 F2 Stp.refl w2 v k3⟩
    | _ => exact p2.elim
def mInK (neg : Bool) (mk md : Mn D) : Mn D := fun e s => (mk e s).bind fun k s1 => (md e s1).bind fun d s2 => match d with
  | .dict kvs => if notT kvs then Rs.lift ((keyOf k).map fun κ => .bool (if neg then !(lookK kvs κ).isSome else (lookK kvs κ).isSome)) s2 else .no
  | _ => .no
theorem in_read {neg : Bool} {mk md : Mn D} {σ : L2.St} {H : Hp} {Q : VK} (h : rG X W (JD X.K) (mInK neg mk md) σ H Q) : rG X W (JD X.K) mk σ H fun y H1 => rG X W (JV X.K) md σ H1 fun x H2 => ∃ a o, x = .ref a ∧ DGet H2 a y o ∧ Q (.bl (if neg then !o.isSome else o.isSome)) H2 := by
  obtain ⟨G, e, s, F, rl, p⟩ := h
  refine rG_seq rl p fun k s1 H1 F1 y rl1 st1 w1 jy p1 => rG_seq rl1 p1 fun d s2 H2 F2 x rl2 st2 w2 jx p2 => ?_
  cases d with
  | dict kvs =>
    obtain ⟨z, q⟩ := ite_po (show Po X W G σ H2 F2 _ (if notT kvs then Rs.lift ((keyOf k).map fun κ => PyData.bool (if neg then !(lookK kvs κ).isSome else (lookK kvs κ).isSome)) s2 else .no) from p2)
    obtain ⟨r, e1, q⟩ := q.lift
    obtain ⟨κ, e2, rfl⟩ := Option.map_eq_some_iff.mp e1
    obtain ⟨a, ws, rfl, h1, h2⟩ := kv_dict (jx H2 F2 Stp.refl w2.sub) w2.sub (notT_ne z)
    have e4 := keyOf_is (.inl (Is.mono st2.grow jy) : IsV X.K H2 F2 y k) e2
    have dg := DGet.k (k := κ) h1
    rw [← e4] at dg
    refine ⟨a, _, rfl, dg, ?_⟩
    have e5 : (valV ws κ).isSome = (lookK kvs κ).isSome := by
      rcases look_kv κ h2 with ⟨k1, k2⟩ | ⟨v, d, k1, k2, k3⟩ <;> rw [k1, k2] <;> rfl
    rw [e5]
    exact q H2 F2 Stp.refl w2 _ (.bl _)
  | _ => exact p2.elim
theorem de_inK {o i : Expr} {md mk : Mn D} {pos : Pos} (hu : X.A.units + 1 < cLine) (hi : DE X W i mk) (ho : DV X W o md) (hm : behindInMarks .In o = false := by rfl) : DE X W (.Compare i [.In] [o] pos) (mInK false mk md) :=
  pe_imp (pe_cmp (pc_din hu hi ho) hm) fun σ H Q h => in_read h
theorem de_notInK {o i : Expr} {md mk : Mn D} {pos : Pos} (hu : X.A.units + 1 < cLine) (hi : DE X W i mk) (ho : DV X W o md) (hm : behindInMarks .NotIn o = false := by rfl) : DE X W (.Compare i [.NotIn] [o] pos) (mInK true mk md) :=
  pe_imp (pe_cmp (pc_dnotin hu hi ho) hm) fun σ H Q h => in_read h
theorem dt_inK {o i : Expr} {md mk : Mn D} {pos : Pos} (hu : X.A.units + 1 < cLine) (hi : DE X W i mk) (ho : DV X W o md) (hm : behindInMarks .In o = false := by rfl) : DT X W (.Compare i [.In] [o] pos) (mTst (mInK false mk md)) :=
  pt_imp (pt_cmp (pc_din hu hi ho) hm) fun σ H Q h => in_read (test_of h)
theorem dt_notInK {o i : Expr} {md mk : Mn D} {pos : Pos} (hu : X.A.units + 1 < cLine) (hi : DE X W i mk) (ho : DV X W o md) (hm : behindInMarks .NotIn o = false := by rfl) : DT X W (.Compare i [.NotIn] [o] pos) (mTst (mInK true mk md)) :=
  pt_imp (pt_cmp (pc_dnotin hu hi ho) hm) fun σ H Q h => in_read (test_of h)
/-- {} -/
def mNewD : Mn (List (D × D)) := fun _ s => .ok [] s
theorem dk_new {pos : Pos} : DK X W (.Dict [] [] pos) mNewD := pe_imp pe_dnewK fun σ H Q ⟨G, e, s, F, rl, p⟩ => fun q n => p _ _ (Stp.alloc n) (rl.w.alloc n) _ ⟨q, [], rfl, n, free_of rl.w n, upd_same, .nil, Nat.zero_le _⟩
theorem dtu_new {pos : Pos} : DTu X W (.Dict [] [] pos) mNewD := pe_imp pe_dnewT fun σ H Q ⟨G, e, s, F, rl, p⟩ => fun q n => p _ _ (Stp.alloc n) (rl.w.alloc n) _ ⟨q, [], rfl, n, free_of rl.w n, upd_same, .nil, Nat.zero_le _⟩
/-- own[k] = v -/
def mOwnK (i : Nat) (k : List (D × D) → Ms) : Ms := fun e s => match e[i]? with
  | some (.k kvs) => k kvs e s
  | _ => .no
theorem ownK_of {G : Gh} {Z : Ends} {i : Nat} {k : List (D × D) → Ms} {e : Sg} {s : Src} (p : PoS X W G Z (mOwnK i k e s)) : ∃ kvs, e[i]? = some (.k kvs) ∧ PoS X W G Z (k kvs e s) := by
  unfold mOwnK at p
  cases q : e[i]? with
  | none => rw [q] at p; exact p.elim
  | some y =>
    rw [q] at p
    cases y with
    | k kvs => exact ⟨kvs, rfl, p⟩
    | _ => exact p.elim
def mPutK (i : Nat) (mv mk : Mn D) : Ms := mE mv fun d => mOwnK i fun kvs => mE mk fun k e s => match keyOf k with
  | some κ => if decide (kvs.length < 16777216) then .nx (e.set i (.k (putD kvs κ d))) s else .no
  | none => .no
theorem ds_putK (i : Nat) {x : Str} {k v : Expr} {mv mk : Mn D} {px p3 pos : Pos} (hu : X.A.units + 1 < cLine) (hv : DE X W v mv) (hk : DE X W k mk) (hN : X.N[i]? = some x := by rfl) (hvs : Vis X.env.scope x := by first | exact Or.inl rfl | exact Or.inr (Or.inl rfl) | exact Or.inr (Or.inr rfl)) (hd : (x == ("__debug__" : Str)) = false := by decide)
    (hcd : (x == ("__classdict__" : Str)) = false := by decide) (hs : swapsWith v (some (.Subscript (.Name x px) k p3)) pos.line X.env = pure false := by rfl) : DS X W (.Assign [.Subscript (.Name x px) k p3] v pos) (mPutK i mv mk) :=
  ps_imp (ps_dput hu (pe_var hN hvs hd hcd) hk hv hs) fun Z σ H h => rS_E h fun G e F s d s1 H1 F1 w rl rl1 st jv p => by
    obtain ⟨kvs, hi, p⟩ := ownK_of p
    obtain ⟨b, ws, h1, h2, h3, h4, h5, h6⟩ := rl1.ok i _ hi
    refine ⟨_, h1, E_of rl1 p fun κd s2 H2 F2 y rl2 st2 jy p2 => ?_⟩
    cases hk : keyOf κd with
    | none => rw [hk] at p2; exact p2.elim
    | some κ =>
      rw [hk] at p2
      obtain ⟨z, p3⟩ := ite_pos (show PoS X W G Z (if decide (kvs.length < 16777216) then .nx (e.set i (.k (putD kvs κ d))) s2 else .no) from p2)
      have z := of_decide_eq_true z
      have nM := rl1.notM0 h4
      have k2 := st2.keep b _ nM h2
      have h3' := IsKV.mono st2.grow h3
      have e4 := keyOf_is (.inl jy : IsV X.K H2 F2 y κd) hk
      subst e4
      refine ⟨b, _, rfl, DPut.k k2 (by rw [len_kv h3', sizeLine_eq]; exact z), p3 _ _ F2 (rl2.mut hi rfl h1 ⟨b, _, rfl, upd_same, put_kv (Is.mono st2.grow jv) h3', h4, st2.news b (by rw [h2]; simp) h5, ?_⟩)⟩
      rw [sizeLine_eq]
      exact Nat.le_trans (len_putD _ _ _) (by omega)
/-- own[j] = v, a list -/
theorem ds_setIx (i : Nat) {x : Str} {k v : Expr} {mv mk : Mn D} {px p3 pos : Pos} (hv : DE X W v mv) (hk : DE X W k mk) (ha : ∀ u, assign (.Subscript (.Name x px) k p3) X.env u = (do
      let ov ← holding [u] (eval (.Name x px) X.env)
      let iv ← holding [u, ov] (eval k X.env)
      standAt p3
      holding [u, ov, iv] (setItem ov iv u)
      release [u, ov, iv] []) := by intro _; rfl) (hN : X.N[i]? = some x := by rfl) (hvs : Vis X.env.scope x := by first | exact Or.inl rfl | exact Or.inr (Or.inl rfl) | exact Or.inr (Or.inr rfl)) (hd : (x == ("__debug__" : Str)) = false := by decide)
    (hcd : (x == ("__classdict__" : Str)) = false := by decide) (hs : swapsWithSole [.Subscript (.Name x px) k p3] v pos.line X.env = pure false := by rfl) (hw : swappedStores [.Subscript (.Name x px) k p3] v X.env = pure none := by rfl)
    (h1 : (assignEach [.Subscript (.Name x px) k p3] X.env).map (·.2) = [assign (.Subscript (.Name x px) k p3) X.env] := by rfl) : DS X W (.Assign [.Subscript (.Name x px) k p3] v pos) (mSetIx i mv mk) :=
  ps_imp (ps_asg hv (pg_sub (pe_var hN hvs hd hcd) hk set_list ha) hs hw h1) fun Z σ H h => rS_E h fun G e F s d s1 H1 F1 w rl rl1 st jv p => by
    obtain ⟨xs, hi, p⟩ := ownL_of p
    obtain ⟨b, vs, h1, h2, h3, h4, h5, h6⟩ := rl1.ok i _ hi
    refine ⟨_, h1, E_of rl1 p fun kd s2 H2 F2 y rl2 st2 jy p2 => ?_⟩
    cases kd with
    | int j =>
      have p2 : PoS X W G Z (match ixN xs.length j with
        | some n => .nx (e.set i (.l (xs.set n d))) s2
        | none => .no) := p2
      cases hn : ixN xs.length j with
      | none => rw [hn] at p2; exact p2.elim
      | some n =>
        rw [hn] at p2
        cases jy
        have nM := rl1.notM0 h4
        have k2 := st2.keep b _ nM h2
        refine ⟨b, vs, j, n, rfl, rfl, k2, by rw [h3.length]; exact hn, p2 _ _ F2 (rl2.mutL hi h1 h4 (st2.news b (by rw [h2]; simp) h5) (IsAll.set (Is.mono st2.grow jv) n (IsAll.mono st2.grow h3)) (by rw [List.length_set]; exact h6))⟩
    | _ => exact p2.elim

/-! ### dicts with keys tuples -/
def keysOf : D → Option (List Key)
  | .tuple ds => ds.mapM keyOf
  | _ => none
def keysB (κs : List Key) (d : D) : Bool := decide (keysOf d = some κs)
theorem keyOf_keyD (κ : Key) : keyOf (keyD κ) = some κ := by cases κ <;> rfl
theorem keysOf_map : ∀ κs : List Key, (κs.map keyD).mapM keyOf = some κs
  | [] => rfl
  | κ :: r => by rw [List.map_cons, List.mapM_cons, keyOf_keyD, keysOf_map r]; rfl
theorem keysB_iff {κs μs : List Key} : keysB κs (.tuple (μs.map keyD)) = decide (μs = κs) := by
  show decide ((μs.map keyD).mapM keyOf = some κs) = _
  rw [keysOf_map]
  by_cases h : μs = κs <;> simp [h]
def lookT : List (D × D) → List Key → Option D
  | [], _ => none
  | (k, d) :: r, κ => if keysB κ k then some d else lookT r κ
def putT (kvs : List (D × D)) (κ : List Key) (d : D) : List (D × D) :=
  if (kvs.any fun p => keysB κ p.1) = true then kvs.map (fun p => if keysB κ p.1 = true then (p.1, d) else p) else kvs ++ [(.tuple (κ.map keyD), d)]
theorem look_tv {K : PySem.W.Frag} {F : Hp} (κ : List Key) : ∀ {ws : List (List Key × V)} {kvs : List (D × D)}, IsTV K F ws kvs → (valV ws κ = none ∧ lookT kvs κ = none) ∨ ∃ v d, valV ws κ = some v ∧ lookT kvs κ = some d ∧ Is K F v d
  | [], _, h => by cases h; exact .inl ⟨rfl, rfl⟩
  | (μ, v) :: ws, _, h => by
    cases h with
    | @cons _ _ _ d kvs a b =>
      by_cases c : μ = κ
      · refine .inr ⟨v, d, valV_pos c, ?_, a⟩
        rw [lookT, keysB_iff, decide_eq_true c, if_pos rfl]
      · rw [valV_neg (p := (μ, v)) c, lookT, keysB_iff, decide_eq_false c, if_neg Bool.false_ne_true]
        exact look_tv κ b
theorem any_tv {K : PySem.W.Frag} {F : Hp} {κ : List Key} : ∀ {ws : List (List Key × V)} {kvs : List (D × D)}, IsTV K F ws kvs → (ws.any fun p => decide (p.1 = κ)) = kvs.any fun p => keysB κ p.1
  | [], _, h => by cases h; rfl
  | (μ, w) :: ws, _, h => by
    cases h with
    | cons a b => rw [List.any_cons, List.any_cons, any_tv b, keysB_iff]
theorem map_tv {K : PySem.W.Frag} {F : Hp} {κ : List Key} {v : V} {d : D} (hv : Is K F v d) : ∀ {ws : List (List Key × V)} {kvs : List (D × D)}, IsTV K F ws kvs → IsTV K F (ws.map fun p => if p.1 = κ then (p.1, v) else p) (kvs.map fun p => if keysB κ p.1 = true then (p.1, d) else p)
  | [], _, h => by cases h; exact .nil
  | (μ, w) :: ws, _, h => by
    cases h with
    | cons a b =>
      rw [List.map_cons, List.map_cons, keysB_iff]
      by_cases c : μ = κ
      · rw [if_pos c, decide_eq_true c, if_pos rfl]
        exact .cons hv (map_tv hv b)
      · rw [if_neg c, decide_eq_false c, if_neg Bool.false_ne_true]
        exact .cons a (map_tv hv b)
theorem app_tv {K : PySem.W.Frag} {F : Hp} {κ : List Key} {v : V} {d : D} (hv : Is K F v d) : ∀ {ws : List (List Key × V)} {kvs : List (D × D)}, IsTV K F ws kvs → IsTV K F (ws ++ [(κ, v)]) (kvs ++ [(.tuple (κ.map keyD), d)])
  | [], _, h => by cases h; exact .cons hv .nil
  | (μ, w) :: ws, _, h => by
    cases h with
    | cons a b => exact .cons a (app_tv hv b)
theorem put_tv {K : PySem.W.Frag} {F : Hp} {κ : List Key} {v : V} {d : D} (hv : Is K F v d) {ws : List (List Key × V)} {kvs : List (D × D)} (h : IsTV K F ws kvs) : IsTV K F (putK ws κ v) (putT kvs κ d) := by
  unfold putK putT
  rw [any_tv h]
  split
  · exact map_tv hv h
  · exact app_tv hv h
theorem len_putT (kvs : List (D × D)) (κ : List Key) (d : D) : (putT kvs κ d).length ≤ kvs.length + 1 := by
  unfold putT
  split
  · rw [List.length_map]; omega
  · rw [List.length_append]; exact Nat.le_refl _
theorem len_tv {K : PySem.W.Frag} {F : Hp} : ∀ {ws : List (List Key × V)} {kvs : List (D × D)}, IsTV K F ws kvs → ws.length = kvs.length
  | [], _, h => by cases h; rfl
  | _ :: _, _, h => by
    cases h with
    | cons a b => exact congrArg (· + 1) (len_tv b)
/-- an expression whose value is a tuple that was made -/
def JH (K : PySem.W.Frag) : Jt V (List D) := fun _ _ _ _ F' v xs => ∃ a vs, v = .ref a ∧ F' a = some (.tup vs) ∧ IsAll K F' vs xs ∧ xs.length ≤ sizeLine
def DHt (X : Cx) (W : WX) (e : Expr) (m : Mn (List D)) : Prop := PE X e (rG X W (JH X.K) m)
theorem dsl_h {e : Expr} {m : Mn (List D)} (h : DHt X W e m) : DSl X W e (mMap Sl.h m) := pe_imp h fun σ H Q q => rG_map q fun _ _ _ _ _ _ _ j => j
def mHt (i : Nat) : Mn (List D) := fun e s => match e[i]? with
  | some (.h xs) => .ok xs s
  | _ => .no
theorem dh_var (i : Nat) {x : Str} {pos : Pos} (hN : X.N[i]? = some x := by rfl) (hv : Vis X.env.scope x := by first | exact Or.inl rfl | exact Or.inr (Or.inl rfl) | exact Or.inr (Or.inr rfl)) (hd : (x == ("__debug__" : Str)) = false := by decide)
    (hcd : (x == ("__classdict__" : Str)) = false := by decide) : DHt X W (.Name x pos) (mHt i) :=
  pe_imp (pe_var hN hv hd hcd) fun σ H Q ⟨G, e, s, F, r, h⟩ => by
    unfold mHt at h
    cases q : e[i]? with
    | none => rw [q] at h; exact h.elim
    | some y =>
      rw [q] at h
      cases y with
      | h xs =>
        obtain ⟨a, vs, h1, h2⟩ := r.ok i _ q
        exact ⟨_, h1, h H F Stp.refl r.w _ ⟨a, vs, rfl, h2⟩⟩
      | _ => exact h.elim
/-- tuple(list), made -/
def lstD : List D → Option (List D)
  | [.list ds] => some ds
  | _ => none
def mTupL (m : Mn (List D)) : Mn (List D) := fun e s => (m e s).bind fun ds s1 => Rs.lift (lstD ds) s1
theorem dh_tuple {a : Expr} {ma : Mn (List D)} {x : Str} {p pos : Pos} (hx : x = "tuple") (ha : DVs X W [a] ma) (hm : X.mg x = none) (hv : bootBuiltins x = some (.type "tuple")) (hg : Gl X x := by rfl) (hn : x ≠ "__name__" := by decide) (hdb : (x == ("__debug__" : Str)) = false := by decide) (he : starEach [a] X.env = (false, eval a X.env) :: starEach [] X.env := by rfl) (hpl : (backTo pos (starEach ([] : List Expr) X.env)).any (·.1) = false := by rfl) :
    DHt X W (.Call (.Name x p) [a] [] pos) (mTupL ma) :=
  pe_imp (pe_callTy call_tuple_of hg hm hv ha hn hdb he hpl) fun σ H Q ⟨G, e, s, F, rl, p⟩ => rG_seq rl p fun ds s1 H1 F1 vs rl1 st1 w1 j p1 => by
    obtain ⟨xs, e1, q⟩ := p1.lift
    unfold lstD at e1
    split at e1
    · cases e1
      obtain ⟨x, rfl, h⟩ := pr1 (j H1 F1 Stp.refl w1.sub)
      obtain ⟨a1, vs, rfl, h1, h2, h3⟩ := h.list w1.sub
      refine ⟨a1, vs, rfl, .inl ⟨.inl (.inl h1), fun p n => ?_⟩⟩
      exact q _ _ (Stp.make w1 n) (Wok.make w1 n) _ ⟨p, vs, rfl, upd_same, IsAll.mono (same_upd (free_of w1 n)) h2, h3⟩
    · cases e1
theorem dh_tup {es : List Expr} {r : Mn (List D)} {k : Nat} {pos : Pos} (h : DDs X W es r) : DHt X W (.Tuple es k pos) (mLst r) :=
  pe_imp (pe_tup h) fun σ H Q ⟨G, e, s, F, rl, p⟩ => rG_seq rl p fun xs s1 H1 F1 vs rl1 st1 w1 jv p1 => by
    obtain ⟨z, p2⟩ := ite_po p1
    have hz := szB_ok z
    refine ⟨by rw [IsAll.length jv]; exact hz, fun q nq => ?_⟩
    exact p2 _ _ (Stp.make w1 nq) (Wok.make w1 nq) _ ⟨q, vs, rfl, upd_same, IsAll.mono (same_upd (free_of w1 nq)) jv, hz⟩
theorem all_kV {K : PySem.W.Frag} {F : Hp} : ∀ {ds : List D} {vs : List V} {κs : List Key}, IsAll K F vs ds → ds.mapM keyOf = some κs → vs = κs.map kV
  | [], _, κs, h, e => by
    cases h
    cases κs with
    | nil => rfl
    | cons a b => simp at e
  | d :: ds, _, κs, h, e => by
    cases h with
    | cons a b =>
      rw [List.mapM_cons] at e
      cases q : keyOf d with
      | none => rw [q] at e; cases e
      | some κ =>
        rw [q] at e
        cases q2 : ds.mapM keyOf with
        | none => rw [q2] at e; cases e
        | some r =>
          rw [q2] at e
          cases e
          rw [List.map_cons, ← all_kV b q2, ← keyOf_is (.inl a : IsV K F F _ d) q]
theorem tv_dict {K : PySem.W.Frag} {H F : Hp} {v : V} {kvs : List (D × D)} (h : IsV K H F v (.dict ((.none, .none) :: kvs))) (sub : Same F H) : ∃ a ws, v = .ref a ∧ H a = some (.dT ws) ∧ IsTV K F ws kvs := by
  rcases h.dict sub with ⟨a, ws, rfl, h1, h2⟩ | ⟨a, ws, k2, rfl, e, h⟩
  · cases ws with
    | nil => cases h2
    | cons p r =>
      obtain ⟨κ, v⟩ := p
      generalize hk : ((PyData.none, PyData.none) :: kvs : List (D × D)) = z at h2
      cases h2 with
      | cons a b =>
        cases κ <;> cases hk
  · cases e
    exact ⟨a, ws, rfl, h⟩
/-- d.get(k, x), keys tuples -/
def tagOf : D → Option (List (D × D))
  | .dict ((.none, .none) :: kvs) => some kvs
  | _ => none
theorem tagOf_some {d : D} {kvs : List (D × D)} (h : tagOf d = some kvs) : d = .dict ((.none, .none) :: kvs) := by
  unfold tagOf at h
  split at h
  · cases h; rfl
  · cases h
def mGet2T (md : Mn D) (mk : Mn (List D)) (mx : Mn D) : Mn D := fun e s => (md e s).bind fun d s1 => (Rs.lift (tagOf d) s1).bind fun kvs s1 => (mk e s1).bind fun ks s2 => (mx e s2).bind fun x s3 => Rs.lift ((ks.mapM keyOf).map fun κs => (lookT kvs κs).getD x) s3
theorem de_get2T {o k f : Expr} {md mx : Mn D} {mk : Mn (List D)} {apos cpos : Pos} (hu : X.A.units + 1 < cLine) (ho : DV X W o md) (hk : DHt X W k mk) (hf : DE X W f mx) (m : M2 X o "get" apos k f cpos := by exact ⟨rfl, rfl, rfl, rfl⟩) : DE X W (.Call (.Attribute o "get" apos) [k, f] [] cpos) (mGet2T md mk mx) :=
  pe_imp (pe_dget2 hu ho hk hf m) fun σ H Q ⟨G, e, s, F, rl, p⟩ => rG_seq rl p fun d s1 H1 F1 x rl1 st1 w1 jx p1 => by
    obtain ⟨kvs, e1, q1⟩ := p1.bind.lift
    have q1 := q1 H1 F1 Stp.refl w1
    have e1 := tagOf_some e1
    subst e1
    obtain ⟨a, ws, rfl, h1, h2⟩ := tv_dict (jx H1 F1 Stp.refl w1.sub) w1.sub
    refine ⟨a, rfl, .inr ⟨ws, .inl h1⟩, rG_seq rl1 q1 fun ks s2 H2 F2 y rl2 st2 w2 jy p2 => rG_seq rl2 p2 fun z s3 H3 F3 v rl3 st3 w3 jz p3 => ?_⟩
    obtain ⟨r, e2, q⟩ := p3.lift
    obtain ⟨κs, e3, rfl⟩ := Option.map_eq_some_iff.mp e2
    obtain ⟨b, vs, rfl, k1, k2, k3⟩ := jy
    obtain ⟨a', ws', e4, h1', h2'⟩ := tv_dict (jx H3 F3 (st2.trans st3) w3.sub) w3.sub
    cases e4
    have e5 := all_kV k2 e3
    subst e5
    refine ⟨_, DGet.t h1' (w3.sub _ _ (st3.grow _ _ k1)), ?_⟩
    rcases look_tv κs h2' with ⟨n1, n2⟩ | ⟨v', d', n1, n2, n3⟩
    · rw [n1]
      rw [n2] at q
      exact q H3 F3 Stp.refl w3 _ jz
    · rw [n1]
      rw [n2] at q
      exact q H3 F3 Stp.refl w3 _ n3
def mOwnT (i : Nat) (k : List (D × D) → Ms) : Ms := fun e s => match e[i]? with
  | some (.t kvs) => k kvs e s
  | _ => .no
theorem ownT_of {G : Gh} {Z : Ends} {i : Nat} {k : List (D × D) → Ms} {e : Sg} {s : Src} (p : PoS X W G Z (mOwnT i k e s)) : ∃ kvs, e[i]? = some (.t kvs) ∧ PoS X W G Z (k kvs e s) := by
  unfold mOwnT at p
  cases q : e[i]? with
  | none => rw [q] at p; exact p.elim
  | some y =>
    rw [q] at p
    cases y with
    | t kvs => exact ⟨kvs, rfl, p⟩
    | _ => exact p.elim
def mPutT (i : Nat) (mv : Mn D) (mk : Mn (List D)) : Ms := mE mv fun d => mOwnT i fun kvs => mE mk fun k e s => match k.mapM keyOf with
  | some κ => if decide (kvs.length < 16777216) then .nx (e.set i (.t (putT kvs κ d))) s else .no
  | none => .no
theorem ds_putT (i : Nat) {x : Str} {k v : Expr} {mv : Mn D} {mk : Mn (List D)} {px p3 pos : Pos} (hu : X.A.units + 1 < cLine) (hv : DE X W v mv) (hk : DHt X W k mk) (hN : X.N[i]? = some x := by rfl) (hvs : Vis X.env.scope x := by first | exact Or.inl rfl | exact Or.inr (Or.inl rfl) | exact Or.inr (Or.inr rfl)) (hd : (x == ("__debug__" : Str)) = false := by decide)
    (hcd : (x == ("__classdict__" : Str)) = false := by decide) (hs : swapsWith v (some (.Subscript (.Name x px) k p3)) pos.line X.env = pure false := by rfl) : DS X W (.Assign [.Subscript (.Name x px) k p3] v pos) (mPutT i mv mk) :=
  ps_imp (ps_dput hu (pe_var hN hvs hd hcd) hk hv hs) fun Z σ H h => rS_E h fun G e F s d s1 H1 F1 w rl rl1 st jv p => by
    obtain ⟨kvs, hi, p⟩ := ownT_of p
    obtain ⟨b, ws, h1, h2, h3, h4, h5, h6⟩ := rl1.ok i _ hi
    refine ⟨_, h1, E_of rl1 p fun κd s2 H2 F2 y rl2 st2 jy p2 => ?_⟩
    cases hk : κd.mapM keyOf with
    | none => rw [hk] at p2; exact p2.elim
    | some κ =>
      rw [hk] at p2
      obtain ⟨z, p3⟩ := ite_pos (show PoS X W G Z (if decide (kvs.length < 16777216) then .nx (e.set i (.t (putT kvs κ d))) s2 else .no) from p2)
      have z := of_decide_eq_true z
      have nM := rl1.notM0 h4
      have k2 := st2.keep b _ nM h2
      have h3' := IsTV.mono st2.grow h3
      obtain ⟨c, vs, rfl, n1, n2, n3⟩ := jy
      have e5 := all_kV n2 hk
      subst e5
      refine ⟨b, _, rfl, DPut.t k2 (rl2.w.sub _ _ n1) (by rw [len_tv h3', sizeLine_eq]; exact z), p3 _ _ F2 (rl2.mut hi rfl h1 ⟨b, _, rfl, upd_same, put_tv (Is.mono st2.grow jv) h3', h4, st2.news b (by rw [h2]; simp) h5, ?_⟩)⟩
      rw [sizeLine_eq]
      exact Nat.le_trans (len_putT _ _ _) (by omega)

/-! ### dict([(k, v), ..]), sorted(d) -/
def prD : D → Option (Key × D)
  | .tuple [k, v] => (keyOf k).map fun κ => (κ, v)
  | _ => none
def mergeD (ps : List (Key × D)) : List (D × D) := ps.foldl (fun acc p => putD acc p.1 p.2) []
def dictD : List D → Option (List (D × D))
  | [.list ds] => (ds.mapM prD).map mergeD
  | _ => none
def mCallK (f : List D → Option (List (D × D))) (ma : Mn (List D)) : Mn (List (D × D)) := fun e s => (ma e s).bind fun a s1 => Rs.lift (f a) s1
theorem prs_of {K : PySem.W.Frag} {F H : Hp} (sub : Same F H) : ∀ {ds : List D} {vs : List V} {ps : List (Key × D)}, IsAll K F vs ds → ds.mapM prD = some ps → ∃ (as : List Addr) (kvs : List (Key × V)), vs = as.map V.ref ∧ Paired (fun p (kv : Key × V) => SqT K H p [kV kv.1, kv.2]) as kvs ∧ Paired (fun (kv : Key × V) (p : Key × D) => kv.1 = p.1 ∧ Is K F kv.2 p.2) kvs ps
  | [], _, ps, h, e => by
    cases h
    cases ps with
    | nil => exact ⟨[], [], rfl, .nil, .nil⟩
    | cons a b => simp at e
  | d :: ds, _, ps, h, e => by
    cases h with
    | @cons v vs _ _ a b =>
      rw [List.mapM_cons] at e
      cases q : prD d with
      | none => rw [q] at e; cases e
      | some p =>
        rw [q] at e
        cases q2 : ds.mapM prD with
        | none => rw [q2] at e; cases e
        | some r =>
          rw [q2] at e
          cases e
          obtain ⟨as, kvs, rfl, h1, h2⟩ := prs_of sub b q2
          unfold prD at q
          split at q
          · rename_i k w
            obtain ⟨κ, q3, rfl⟩ := Option.map_eq_some_iff.mp q
            cases a with
            | @tup c xs _ t1 t2 t3 =>
              cases t2 with
              | cons i1 t2 =>
                cases t2 with
                | cons i2 t2 =>
                  cases t2
                  have e1 := keyOf_is (.inl i1 : IsV K H F _ k) q3
                  subst e1
                  exact ⟨c :: as, (κ, _) :: kvs, rfl, .cons (Same.seqT sub t1) h1, .cons ⟨rfl, i2⟩ h2⟩
          · cases q
theorem merge_kv {K : PySem.W.Frag} {F : Hp} : ∀ {kvs : List (Key × V)} {ps : List (Key × D)} {ws : List (Key × V)} {ds : List (D × D)}, Paired (fun (kv : Key × V) (p : Key × D) => kv.1 = p.1 ∧ Is K F kv.2 p.2) kvs ps → IsKV K F ws ds →
    IsKV K F (mergeK ws kvs) (ps.foldl (fun acc p => putD acc p.1 p.2) ds)
  | _, _, _, _, .nil, h => h
  | (k, v) :: kvs, (k', d) :: ps, ws, ds, .cons r t, h => by
    obtain ⟨e, i⟩ := r
    have e : k = k' := e
    subst e
    exact merge_kv (ws := putK ws k v) (ds := putD ds k d) t (put_kv i h)
theorem len_merge : ∀ (ps : List (Key × D)) (ds : List (D × D)), (ps.foldl (fun acc p => putD acc p.1 p.2) ds).length ≤ ds.length + ps.length
  | [], ds => Nat.le_refl _
  | p :: ps, ds => by
    have h1 := len_merge ps (putD ds p.1 p.2)
    have h2 := len_putD ds p.1 p.2
    show (ps.foldl _ (putD ds p.1 p.2)).length ≤ ds.length + (ps.length + 1)
    omega
theorem mapM_len {α β : Type} {f : α → Option β} : ∀ {xs : List α} {ys : List β}, xs.mapM f = some ys → xs.length = ys.length
  | [], ys, h => by
    cases ys with
    | nil => rfl
    | cons a b => simp at h
  | x :: xs, ys, h => by
    rw [List.mapM_cons] at h
    cases q : f x with
    | none => rw [q] at h; cases h
    | some y =>
      rw [q] at h
      cases q2 : xs.mapM f with
      | none => rw [q2] at h; cases h
      | some r =>
        rw [q2] at h
        cases h
        exact congrArg (· + 1) (mapM_len q2)
theorem dk_dict {a : Expr} {ma : Mn (List D)} {p pos : Pos} (hc : X.calm = true) (ha : DVs X W [a] ma) (hm : X.mg "dict" = none) (hg : Gl X "dict" := by rfl) (he : starEach [a] X.env = (false, eval a X.env) :: starEach [] X.env := by rfl) (hpl : (backTo pos (starEach ([] : List Expr) X.env)).any (·.1) = false := by rfl) :
    DK X W (.Call (.Name "dict" p) [a] [] pos) (mCallK dictD ma) :=
  pe_imp (pe_callTy (call_dictP hc) hg hm (by decide +kernel) ha (by decide) (by decide) he hpl) fun σ H Q ⟨G, e, s, F, rl, p⟩ => rG_seq rl p fun ds s1 H1 F1 vs rl1 st1 w1 j p1 => by
    obtain ⟨kvs, e1, q⟩ := p1.lift
    unfold dictD at e1
    split at e1
    · rename_i ds
      obtain ⟨ps, e2, rfl⟩ := Option.map_eq_some_iff.mp e1
      obtain ⟨x, rfl, h⟩ := pr1 (j H1 F1 Stp.refl w1.sub)
      obtain ⟨a1, vs, rfl, h1, h2, h3⟩ := h.list w1.sub
      obtain ⟨as, ws, rfl, k1, k2⟩ := prs_of w1.sub h2 e2
      refine ⟨a1, as, ws, rfl, .inl (.inl h1), k1, fun p n => q _ _ (Stp.alloc n) (w1.alloc n) _ ⟨p, _, rfl, ?_, free_of w1 n, upd_same, merge_kv k2 .nil, ?_⟩⟩
      · cases z2 : H p with
        | none => rfl
        | some o => exact absurd n (st1.there p (by rw [z2]; simp))
      · have := len_merge ps []
        have l2 := mapM_len e2
        unfold mergeD
        simp only [List.length_nil] at this
        omega
    · cases e1
def intK : D × D → Option Int
  | (.int i, _) => some i
  | _ => none
theorem keys_int {K : PySem.W.Frag} {F : Hp} : ∀ {ws : List (Key × V)} {kvs : List (D × D)} {ns : List Int}, IsKV K F ws kvs → kvs.mapM intK = some ns → ws.map (·.1) = ns.map Sum.inl
  | [], _, ns, h, e => by
    cases h
    cases ns with
    | nil => rfl
    | cons a b => simp at e
  | (κ, v) :: ws, _, ns, h, e => by
    cases h with
    | @cons _ _ _ d kvs a b =>
      rw [List.mapM_cons] at e
      cases κ with
      | inr x => cases e
      | inl i =>
        cases q2 : kvs.mapM intK with
        | none => rw [show intK (keyD (.inl i), d) = some i from rfl, q2] at e; cases e
        | some r =>
          rw [show intK (keyD (.inl i), d) = some i from rfl, q2] at e
          cases e
          rw [List.map_cons, List.map_cons, keys_int b q2]
def dSortedK : List D → Option (List D)
  | [.dict kvs] => if notT kvs && decide (kvs.length < 64) then (kvs.mapM intK).map fun ns => (sortI ns).map PyData.int else none
  | _ => none
theorem cl_sortedK (hc : X.calm = true) : CallR X (.builtin "sorted") (rOL X.K dSortedK) := cr_imp (call_sortedDI hc) fun xs H Q ⟨F, ds, r, sub, hx, e, q⟩ => by
  unfold dSortedK at e
  split at e
  · split at e
    · rename_i kvs z
      rw [Bool.and_eq_true] at z
      obtain ⟨ns, e1, rfl⟩ := Option.map_eq_some_iff.mp e
      obtain ⟨x, rfl, h⟩ := pr1 hx
      obtain ⟨a, ws, rfl, h1, h2⟩ := kv_dict h sub (notT_ne z.1)
      have l2 := mapM_len e1
      have z2 := of_decide_eq_true z.2
      refine ⟨a, ws, ns, rfl, .inl h1, keys_int h2 e1, by omega, fun ns' p k1 k2 n => ?_⟩
      have e4 : ns' = sortI ns := sort_one (k1.trans (sortI_perm ns).symm) k2 (sortI_pair ns)
      subst e4
      refine q p _ n (IsAll.ints _) ?_
      rw [List.length_map, (sortI_perm ns).length_eq, sizeLine_eq]
      omega
    · cases e
  · cases e
/-- a new dict that is looked at -/
def mVD (m : Mn (List (D × D))) : Mn D := fun e s => (m e s).bind fun kvs s1 => .ok (.dict kvs) s1
theorem dv_k {e : Expr} {m : Mn (List (D × D))} (h : DK X W e m) : DV X W e (mFzD m) := dv_of (de_fzK h)
theorem dv_l {e : Expr} {m : Mn (List D)} (h : DL X W e m) : DV X W e (mFz m) := dv_of (de_fz h)

/-! ### a < b < c -/
def mChain (f g : D → D → Option D) (ma mb mc : Mn D) : Mn D := fun e s => (ma e s).bind fun a s1 => (mb e s1).bind fun b s2 => (Rs.lift ((f a b).bind tst) s2).bind fun k s2 => if k then (mc e s2).bind fun c s3 => Rs.lift (g b c) s3 else .ok (.bool false) s2
theorem chain_read {f g : D → D → Option D} {r r' : R2} {ma mb mc : Mn D} (hr : ∀ x y H Q, rO2 X.K f x y H Q → r x y H Q) (hr' : ∀ x y H Q, rO2 X.K g x y H Q → r' x y H Q) {σ : L2.St} {H : Hp} {Q : VK} (h : rG X W (JD X.K) (mChain f g ma mb mc) σ H Q) :
    tChain r r' (rG X W (JV X.K) ma) (rG X W (JV X.K) mb) (rG X W (JV X.K) mc) σ H Q := by
  obtain ⟨G, e, s, F, rl, p⟩ := h
  refine rG_seq rl p fun a s1 H1 F1 x rl1 st1 w1 jx p1 => rG_seq rl1 p1 fun b s2 H2 F2 y rl2 st2 w2 jy p2 => hr x y H2 _ ?_
  obtain ⟨k, e1, q⟩ := p2.bind.lift
  obtain ⟨t, e2, e3⟩ := Option.bind_eq_some_iff.mp e1
  refine ⟨F2, a, b, t, w2.sub, jx H2 F2 st2 w2.sub, jy H2 F2 Stp.refl w2.sub, e2, fun v H3 F3 al i => ?_⟩
  have w3 := al.wok w2
  rw [tst_some e3] at i
  cases i
  have q := q H3 F3 al.stp w3
  refine ⟨k, rfl, ?_⟩
  cases k with
  | false => exact q H3 F3 Stp.refl w3 _ (.bl _)
  | true =>
    refine rG_seq (rl2.step al.stp w3) q fun c s3 H4 F4 z rl4 st4 w4 jz p4 => hr' y z H4 Q ?_
    obtain ⟨c', e4, q4⟩ := p4.lift
    exact ⟨F4, b, c, c', w4.sub, jy H4 F4 (al.stp.trans st4) w4.sub, jz H4 F4 Stp.refl w4.sub, e4, fun v H' F' al i => q4 H' F' al.stp (al.wok w4) v i⟩
theorem de_chain {f g : D → D → Option D} {op op' : CmpOp} {a b c : Expr} {ma mb mc : Mn D} {pos : Pos} (ho : OpR X (compareOp op) (rO2 X.K f)) (ho' : OpR X (compareOp op') (rO2 X.K g)) (ha : DV X W a ma) (hb : DV X W b mb) (hc : DV X W c mc)
    (hm : lastMarks [op, op'] [b, c] = false := by with_unfolding_all rfl) : DE X W (.Compare a [op, op'] [b, c] pos) (mChain f g ma mb mc) := pe_imp (pe_chain ho ho' ha hb hc hm) fun σ H Q h => chain_read (fun _ _ _ _ q => q) (fun _ _ _ _ q => q) h
theorem dt_chain {f g : D → D → Option D} {op op' : CmpOp} {a b c : Expr} {ma mb mc : Mn D} {pos : Pos} (ho : OpR X (compareOp op) (rO2 X.K f)) (ho' : OpR X (compareOp op') (rO2 X.K g)) (ha : DV X W a ma) (hb : DV X W b mb) (hc : DV X W c mc)
    (hm : lastMarks [op, op'] [b, c] = false := by with_unfolding_all rfl) : DT X W (.Compare a [op, op'] [b, c] pos) (mTst (mChain f g ma mb mc)) := pt_imp (pt_chain ho ho' ha hb hc hm) fun σ H Q h => chain_read (fun _ _ _ _ q => q) (fun _ _ _ _ q => q) (test_of h)

/-! ### zip, enumerate -/
def pairL : List D → List D → List D
  | x :: xs, y :: ys => .tuple [x, y] :: pairL xs ys
  | _, _ => []
theorem pairL_get : ∀ {xs ys : List D} {i : Nat} {d : D}, (pairL xs ys)[i]? = some d → ∃ x y, xs[i]? = some x ∧ ys[i]? = some y ∧ d = .tuple [x, y]
  | [], _, i, d, h => by simp [pairL] at h
  | _ :: _, [], i, d, h => by simp [pairL] at h
  | x :: xs, y :: ys, 0, d, h => ⟨x, y, rfl, rfl, (Option.some.inj h).symm⟩
  | x :: xs, y :: ys, i + 1, d, h => pairL_get (xs := xs) (ys := ys) (i := i) h
theorem pairL_none : ∀ {xs ys : List D} {i : Nat}, (pairL xs ys)[i]? = none → xs.length ≤ i ∨ ys.length ≤ i
  | [], _, i, h => .inl (Nat.zero_le _)
  | _ :: _, [], i, h => .inr (Nat.zero_le _)
  | x :: xs, y :: ys, 0, h => by cases h
  | x :: xs, y :: ys, i + 1, h => by
    rcases pairL_none (xs := xs) (ys := ys) (i := i) h with q | q
    · exact .inl (Nat.succ_le_succ q)
    · exact .inr (Nat.succ_le_succ q)
theorem pairL_len : ∀ (xs ys : List D), (pairL xs ys).length ≤ xs.length
  | [], _ => Nat.zero_le _
  | _ :: _, [] => Nat.zero_le _
  | x :: xs, y :: ys => Nat.succ_le_succ (pairL_len xs ys)
def mZip (ma : Mn (List D)) : Mn (List D) := fun e s => (ma e s).bind fun ds s1 => match ds with
  | [.list xs, .list ys] => .ok (pairL xs ys) s1
  | [.tuple xs, .tuple ys] => .ok (pairL xs ys) s1
  | _ => .no
theorem zip_yield {K : PySem.W.Frag} {H2 F2 : Hp} {x y : V} {d e : D} (sub : Same F2 H2) (ix : Is K F2 x d) (iy : Is K F2 y e) {T : Addr} (n : H2 T = none) : Al H2 F2 (upd H2 T (.tup [x, y])) (upd F2 T (.tup [x, y])) ∧ Is K (upd F2 T (.tup [x, y])) (.ref T) (.tuple [d, e]) :=
  ⟨Al.make sub n, .tup (.inl (.inl upd_same)) (.cons (Is.mono (same_upd (sub.free n)) ix) (.cons (Is.mono (same_upd (sub.free n)) iy) .nil)) (by rw [sizeLine_eq]; show 2 ≤ 16777216; decide)⟩
theorem dj_zip {a b : Expr} {ma : Mn (List D)} {p pos tpos : Pos} {elts : List Expr} {kk : Nat} (ha : DVs X W [a, b] ma) (hm : X.mg "zip" = none) (hg : Gl X "zip" := by rfl) (hs : starEach [a, b] X.env = (false, eval a X.env) :: starEach [b] X.env := by rfl) (hpl : (backTo pos (starEach [b] X.env)).any (·.1) = false := by rfl) :
    DJ X W (.Tuple elts kk tpos) (.Call (.Name "zip" p) [a, b] [] pos) (mZip ma) :=
  pi_imp (RZ.pi_zipA hg hm ha hs hpl) fun σ H R ⟨G, e, s, F, rl, p⟩ => rG_seq rl p fun ds s1 H1 F1 vs rl1 st1 w1 j p1 => by
    have j0 := j H1 F1 Stp.refl w1.sub
    split at p1
    · rename_i xs ys
      obtain ⟨x, y, rfl, hx, hy⟩ := pr2 j0
      obtain ⟨a1, us, rfl, h1, h2, h3⟩ := hx.list w1.sub
      obtain ⟨b1, ws, rfl, k1, k2, k3⟩ := hy.list w1.sub
      refine ⟨a1, b1, us, ws, rfl, .inl ⟨.inl (.inl h1), .inl (.inl k1), p1 H1 F1 Stp.refl w1 _ (fun i H2 F2 g sub => ?_) (Nat.le_trans (pairL_len _ _) h3)⟩⟩
      obtain ⟨x', y', e1, hx', hy'⟩ := pr2 (j H2 F2 g sub)
      cases e1
      obtain ⟨a2, us', e2, h1', h2', _⟩ := hx'.list sub
      cases e2
      obtain ⟨b2, ws', e3, k1', k2', _⟩ := hy'.list sub
      cases e3
      refine ⟨fun d hd => ?_, fun hd => ⟨us', ws', .inl (.inl h1'), .inl (.inl k1'), ?_⟩⟩
      · obtain ⟨dx, dy, g1, g2, rfl⟩ := pairL_get hd
        obtain ⟨vx, n1, n2⟩ := h2'.get g1
        obtain ⟨vy, m1, m2⟩ := k2'.get g2
        refine ⟨⟨us', ws', vx, vy, .inl (.inl h1'), .inl (.inl k1'), n1, m1⟩, ?_⟩
        rintro z H3 ⟨T, u1, u2, rfl, nT, rfl, f1, f2⟩
        have q1 := f1 us' (.inl (.inl h1'))
        have q2 := f2 ws' (.inl (.inl k1'))
        rw [n1] at q1
        rw [m1] at q2
        cases q1
        cases q2
        obtain ⟨al, is⟩ := zip_yield sub n2 m2 nT
        exact ⟨_, al, is⟩
      · rw [h2'.length, k2'.length]
        exact pairL_none hd
    · rename_i xs ys
      obtain ⟨x, y, rfl, hx, hy⟩ := pr2 j0
      obtain ⟨a1, us, rfl, h1, h2, h3⟩ := hx.tuple
      obtain ⟨b1, ws, rfl, k1, k2, k3⟩ := hy.tuple
      refine ⟨a1, b1, us, ws, rfl, .inr ⟨Same.seqT w1.sub h1, Same.seqT w1.sub k1, p1 H1 F1 Stp.refl w1 _ (fun i H2 F2 g sub => ?_) (Nat.le_trans (pairL_len _ _) h3)⟩⟩
      have h1' := Same.seqT (g.grow.trans sub) h1
      have k1' := Same.seqT (g.grow.trans sub) k1
      have h2' := IsAll.mono g.grow h2
      have k2' := IsAll.mono g.grow k2
      refine ⟨fun d hd => ?_, fun hd => ⟨us, ws, h1', k1', ?_⟩⟩
      · obtain ⟨dx, dy, g1, g2, rfl⟩ := pairL_get hd
        obtain ⟨vx, n1, n2⟩ := h2'.get g1
        obtain ⟨vy, m1, m2⟩ := k2'.get g2
        refine ⟨⟨us, ws, vx, vy, h1', k1', n1, m1⟩, ?_⟩
        rintro z H3 ⟨T, u1, u2, rfl, nT, rfl, f1, f2⟩
        have q1 := f1 us h1'
        have q2 := f2 ws k1'
        rw [n1] at q1
        rw [m1] at q2
        cases q1
        cases q2
        obtain ⟨al, is⟩ := zip_yield sub n2 m2 nT
        exact ⟨_, al, is⟩
      · rw [h2'.length, k2'.length]
        exact pairL_none hd
    · exact p1.elim
end
end Pt

/-! Pt J: the script, the law's source, the law's start and end. -/
namespace Pt
open PySem PySem.Spec PyProof.Rows L2

/-! ### room -/
theorem hu_of {k : Nat} {A : Around} (hr : Room k A) {n : Nat} (h : n ≤ 200 := by decide) : A.units + n < cLine := by
  have q := hr.un
  omega
theorem hu1 {k : Nat} {A : Around} (hr : Room k A) : A.units + 1 < cLine := hu_of hr
theorem hu64 {k : Nat} {A : Around} (hr : Room k A) : A.units + 64 < cLine := hu_of hr
theorem hu65 {k : Nat} {A : Around} (hr : Room k A) : A.units + 65 < cLine := hu_of hr
theorem hu70 {k : Nat} {A : Around} (hr : Room k A) : A.units + 70 < cLine := hu_of hr

/-! ### how many arguments -/
theorem al_nil : ∀ (e : Sg) (s : Src) (as : List Ar) (s1 : Src), (mNil : Mn (List Ar)) e s = .ok as s1 → as.length = 0 := fun e s as s1 h => by
  cases h
  rfl
theorem al_cons {n : Nat} {a : Mn D} {r : Mn (List Ar)} (h : ∀ (e : Sg) (s : Src) (as : List Ar) (s1 : Src), r e s = .ok as s1 → as.length = n) : ∀ (e : Sg) (s : Src) (as : List Ar) (s1 : Src), mConsA a r e s = .ok as s1 → as.length = n + 1 := fun e s as s1 q => by
  unfold mConsA at q
  cases h1 : a e s with
  | no => rw [h1] at q; cases q
  | ex c x s2 => rw [h1] at q; cases q
  | ok d s2 =>
    rw [h1] at q
    have q : (r e s2).bind (fun xs s3 => Rs.ok (Ar.d d :: xs) s3) = .ok as s1 := q
    cases h2 : r e s2 with
    | no => rw [h2] at q; cases q
    | ex c x s2 => rw [h2] at q; cases q
    | ok ds s3 =>
      rw [h2] at q
      cases q
      exact congrArg (· + 1) (h _ _ _ _ h2)
theorem al_src {n : Nat} {i : Nat} {r : Mn (List Ar)} (h : ∀ (e : Sg) (s : Src) (as : List Ar) (s1 : Src), r e s = .ok as s1 → as.length = n) : ∀ (e : Sg) (s : Src) (as : List Ar) (s1 : Src), mConsS i r e s = .ok as s1 → as.length = n + 1 := fun e s as s1 q => by
  unfold mConsS at q
  split at q
  · cases h2 : r e s with
    | no => rw [h2] at q; cases q
    | ex c x s2 => rw [h2] at q; cases q
    | ok ds s3 =>
      rw [h2] at q
      cases q
      exact congrArg (· + 1) (h _ _ _ _ h2)
  · cases q


/-! ### name = [..] on one line, the name's list stands still from then on -/
section
variable {X : Cx} {W : WX}
def mPutZ (i : Nat) (m : Mn (List D)) : Ms := mE m fun xs e s => .nx (e.set i (.d (.list xs))) s
theorem frz_set (i : Nat) (e : Sg) (xs : List D) (h : i < e.length) : frz i (e.set i (.l xs)) = e.set i (.d (.list xs)) := by
  unfold frz
  rw [List.getElem?_set_self h]
  exact List.set_set (l := e) (i := i) (Sl.l xs)
theorem ds_still {st : Stmt} {i : Nat} {m : Mn (List D)} (h : DS X W st (mPut i (mMap Sl.l m))) (hl : i < X.N.length → True := by intro _; trivial) : DS X W st (mPutZ i m) := ps_imp h fun Z σ H ⟨G, e, s, F, rl, p⟩ => by
  refine ⟨G, e, s, F, rl, ?_⟩
  unfold mPutZ mE at p
  unfold mPut mE mMap
  cases hm : m e s with
  | no => rw [hm] at p; exact p
  | ex c x s1 => rw [hm] at p; exact p
  | ok xs s1 =>
    rw [hm] at p
    have p : ∀ σ' H' F', Rel X.K G σ' H' F' (e.set i (.d (.list xs))) s1 → Z.nx σ' H' := p
    show ∀ σ' H' F', Rel X.K G σ' H' F' (e.set i (.l xs)) s1 → Z.nx σ' H'
    intro σ' H' F' r
    by_cases q : i < e.length
    · obtain ⟨F2, r2⟩ := r.frz i
      rw [frz_set i e xs q] at r2
      exact p σ' H' F2 r2
    · refine p σ' H' F' ?_
      rw [List.set_eq_of_length_le (by omega)] at r ⊢
      exact r
theorem ds_lcZ (i : Nat) {y : Str} {py : Pos} {elt tg iter : Expr} {ifs : List Expr} {scope : Scope} {pos spos : Pos} {m : Mn (List D)} {p : Pat} {mt : Mn Bool} {me : Mn D} (own : List (Str × Nat)) (hi : DJ X W tg iter m) (hc : X.calm = true) (hN : X.N.Nodup) (ok : blkC X.N X.env.scope scope own = true)
    (hg : ∀ (s : Shared) (H : Hp) (C : Addr) (cl : List (Str × Addr)) (fp : List Addr), DG (X.blk s H scope (compEnvC scope cl C X.env) fp) tg p) (ht : ∀ (s : Shared) (H : Hp) (C : Addr) (cl : List (Str × Addr)) (fp : List Addr), DTs (X.blk s H scope (compEnvC scope cl C X.env) fp) W0 ifs mt)
    (he : ∀ (s : Shared) (H : Hp) (C : Addr) (cl : List (Str × Addr)) (fp : List Addr), DE (X.blk s H scope (compEnvC scope cl C X.env) fp) W0 elt me)
    (hsw : swapsWith (.ListComp elt [⟨tg, iter, ifs, 0⟩] scope pos) (some (.Name y py)) spos.line X.env = pure true) (hsub : ∀ j ∈ patIx p, j ∈ own.map (·.2) := by decide) (hs : ∀ x, foldedSetIterable iter X.env x = pure x := by intro _; rfl)
    (hy : X.N[i]? = some y := by rfl) (hyl : X.env.scope.names.lookup y = some .local := by rfl) : DS X W (.Assign [.Name y py] (.ListComp elt [⟨tg, iter, ifs, 0⟩] scope pos) spos) (mPutZ i (mLc m p mt me (own.map (·.2)))) :=
  ds_still (ds_lc i own hi hc hN ok hg ht he hsw hsub hs hy hyl)
end

/-! ### the script -/
section
variable {X : Cx} {W : WX}
def mScr (i : Nat) : Mn (List D) := fun e s => match e[i]? with
  | some (.scr ns) => if szB ns.length then .ok (ns.map PyData.int) s else .no
  | _ => .no
theorem scr_at {K : PySem.W.Frag} {G : Gh} {σ : L2.St} {H F : Hp} {e : Sg} {s : Src} {i : Nat} {R : List D → Src → Hp → Hp → Prop} {X : Cx} {W : WX} (r : Rel K G σ H F e s) (p : Po X W G σ H F R (mScr i e s)) :
    ∃ (a : Addr) (ns : List Int), σ[i]? = some (some (.ref a)) ∧ SqL K F a (ns.map V.int) ∧ ns.length ≤ sizeLine ∧ R (ns.map PyData.int) s H F := by
  unfold mScr at p
  cases q : e[i]? with
  | none => rw [q] at p; exact p.elim
  | some y =>
    rw [q] at p
    cases y with
    | scr ns =>
      obtain ⟨a, h1, h2⟩ := r.ok i _ q
      obtain ⟨z, p⟩ := ite_po (show Po X W G σ H F R (if szB ns.length then .ok (ns.map PyData.int) s else .no) from p)
      exact ⟨a, ns, h1, h2, szB_ok z, p H F Stp.refl r.w⟩
    | _ => exact p.elim
theorem di_scr (i : Nat) {tg : Expr} {x : Str} {pos : Pos} (hN : X.N[i]? = some x := by rfl) (hv : Vis X.env.scope x := by first | exact Or.inl rfl | exact Or.inr (Or.inl rfl) | exact Or.inr (Or.inr rfl)) (hd : (x == ("__debug__" : Str)) = false := by decide)
    (hcd : (x == ("__classdict__" : Str)) = false := by decide) : DI X W tg (.Name x pos) (mScr i) :=
  pi_imp (pi_list (pe_var hN hv hd hcd)) fun σ H Q ⟨G, e, s, F, rl, p⟩ => by
    obtain ⟨a, ns, h1, h2, h3, q⟩ := scr_at rl p
    exact ⟨_, h1, a, rfl, ⟨_, rl.w.sub.seq h2⟩, q _ fun i H2 F2 g sub => itl_f ((g.trans sub).seq h2) (fun _ _ => .inr trivial) (IsAll.ints ns) sub⟩
theorem dj_scr (i : Nat) {tg : Expr} {x : Str} {pos : Pos} (hN : X.N[i]? = some x := by rfl) (hv : Vis X.env.scope x := by first | exact Or.inl rfl | exact Or.inr (Or.inl rfl) | exact Or.inr (Or.inr rfl)) (hd : (x == ("__debug__" : Str)) = false := by decide)
    (hcd : (x == ("__classdict__" : Str)) = false := by decide) : DJ X W tg (.Name x pos) (mScr i) :=
  pi_imp (pi_list (pe_var hN hv hd hcd)) fun σ H Q ⟨G, e, s, F, rl, p⟩ => by
    obtain ⟨a, ns, h1, h2, h3, q⟩ := scr_at rl p
    exact ⟨_, h1, a, rfl, ⟨_, rl.w.sub.seq h2⟩, q _ (fun i H2 F2 st sub => itl_f ((st.grow.trans sub).seq h2) (fun _ _ => .inr trivial) (IsAll.ints ns) sub) (by rw [List.length_map]; exact h3)⟩

/-- a call of an own def whose promise is of any kind -/
theorem pe_callG {sp : Sp} {k : Nat} {fa : Addr} {fd : FuncData} {ps : List Str} {x : Str} {p pos : Pos} {a : Expr} {es : List Expr} {t : TA}
    (F : FnG X.prog X.w X.K X.mg X.base k fa fd ps sp) (hr : Room k X.A) (hgd : X.A.guards = some []) (tk : Takes X W) (hm : X.mg x = some (.ref fa)) (hk : PySem.W.keepIn X.K (.ref fa) = true) (hb : Binds X.K fd ps [])
    (ha : PA X (a :: es) t) (hg : Gl X x := by rfl) (hdb : (x == ("__debug__" : Str)) = false := by decide) (he : starEach (a :: es) X.env = (false, eval a X.env) :: starEach es X.env := by rfl) (hpl : (backTo pos (starEach es X.env)).any (·.1) = false := by rfl) :
    PE X (.Call (.Name x p) (a :: es) [] pos) (fun σ H Q => t σ H fun vs H1 => sp vs H1 Q fun cls dd H' => W cls dd σ H') := by
  refine ⟨fun pins s σ H Q I rd => ?_⟩
  refine wpAny_Call_Name_kw (ld_glob I hg hm ?_ hdb)
  refine PySem.W.callWith_K (h₀ := X.base) I.ok.mod.kin hk (thn (ha.run pos pins s σ H _ I rd) fun us s1 ⟨vs, H1, I1, r, q⟩ => ⟨I1.kIn, ?_⟩) he hpl
  have many : us.length = ps.length := by rw [← r.length]; exact F.len _ _ _ _ q
  have bound : BindsTo s1 fd ⟨us, []⟩ (ps.zip us) := by
    have z := hb s1 us I1.kIn (by rw [List.append_nil]; exact many)
    rw [List.append_nil] at z
    exact z
  apply wpAny_call
  apply codeAny_mono (F.run X.A X.stack s1 H1 ⟨us, []⟩ us vs Q _ hr hgd I1.env0 bound r q)
  intro rr s' end_
  match rr, end_ with
  | .error e, end_ => exact passAt tk σ pins H1 s1 e s' I1 end_
  | .ok (.ret u), end_ => exact I1.after end_
  | .ok .next, end_ => exact end_.elim
  | .ok .brk, end_ => exact end_.elim
  | .ok .cont, end_ => exact end_.elim
end

/-! ### the source that the law makes -/
def mixT (m c : Int) : Int := (m * 69069 + c * 31 + 5) % 2147483629
def absI (n : Int) : Int := if n < 0 then -n else n
def src0 (ns : List Int) : Src := ⟨(ns.map absI).reverse, 1, ns.foldl mixT 11, 0⟩
def spSrc (K : PySem.W.Frag) : Sp := fun vs H Q _ => ∃ (a : Addr) (ns : List Int), vs = [.ref a] ∧ SqL K H a (ns.map V.int) ∧ ns.length ≤ 1000 ∧
  ∀ p c H', Same H H' → p ≠ c → H' p = some (.dK (srcKV c (src0 ns))) → H' c = some (.lst ((src0 ns).cells.map V.int)) → Q (.ref p) H'
section
variable {X : Cx} {W : WX}
/-- the last statement of the def: the dict of the cells and what was mixed -/
theorem ret_src {p1 p2 p3 p4 p5 p6 p7 p8 : Pos} {ec em : Expr} {j1 j2 j3 j4 j5 j6 : Nat} {mc : Mn (List D)} {mm : Mn D} (hc : DL X W ec mc) (hm : DE X W em mm) :
    PS X (.Return (some (.Dict [some (.Constant (.str "cells") j1 p1), some (.Constant (.str "left") j2 p2), some (.Constant (.str "mixed") j3 p3), some (.Constant (.str "turn") j4 p4)] [ec, .Constant (.int 1) j5 p5, em, .Constant (.int 0) j6 p6] p7)) p8)
      (fun Z σ H => ∃ (G : Gh) (e : Sg) (s : Src) (F : Hp) (ds : List Int) (s1 : Src) (k : Int) (s2 : Src), Rel X.K G σ H F e s ∧ G.M = none ∧ mc e s = .ok (ds.map PyData.int) s1 ∧ mm e s1 = .ok (.int k) s2 ∧
        ∀ p c H', Same G.H0 H' → p ≠ c → H' p = some (.dK [(.inr "cells", .ref c), (.inr "left", .int 1), (.inr "mixed", .int k), (.inr "turn", .int 0)]) → H' c = some (.lst (ds.map V.int)) → Z.rt (.ref p) H') :=
  ps_imp (ps_ret (pe_disp (pps_cons pe_str hc (pps_cons pe_str pe_int (pps_cons pe_str hm (pps_cons pe_str pe_int pps_nil)))) (by rfl) (by rfl) (by intro z; cases z) (by show 4 ≤ 15; decide))) fun Z σ H ⟨G, e, s, F, ds, s1, k, s2, rl, gm, h1, h2, q⟩ => by
    intro p np
    show rG X W (JL X.K) mc σ (upd H p (.dK [])) _
    have rl1 := rl.step (Stp.alloc (o := .dK []) np) (rl.w.alloc np)
    refine ⟨G, e, s, F, rl1, ?_⟩
    rw [h1]
    intro H1 F1 st1 w1 v j
    obtain ⟨c, vs, rfl, c1, c2, c3, c4, c5⟩ := j
    have rl2 := rl1.step st1 w1
    have e1 := IsAll.of_ints c4
    subst e1
    have nm : ∀ b, notM G.M b := fun b q z => by rw [gm] at z; cases z
    have pc : p ≠ c := fun z => by
      subst z
      rw [upd_same] at c1
      cases c1
    refine ⟨G, e, s1, F1, rl2, ?_⟩
    rw [h2]
    intro H2 F2 st2 w2 v j
    cases j
    have rl3 := rl2.step st2 w2
    have hp : H2 p = some (.dK []) := st2.keep _ _ (nm p) (st1.keep _ _ (nm p) upd_same)
    have hcc : H2 c = some (.lst (ds.map V.int)) := st2.keep _ _ (nm c) c3
    refine ⟨hp, [(.inr "cells", .ref c), (.inr "left", .int 1), (.inr "mixed", .int k), (.inr "turn", .int 0)], rfl, by show 4 ≤ 15; decide, q p c _ ?_ pc (by rw [upd_same]; rfl) (by rw [upd_ne (Ne.symm pc)]; exact hcc)⟩
    intro b o z
    have z2 := rl.st.keep b o (nm b) z
    have nb : b ≠ p := fun y => by
      subst y
      rw [np] at z2
      cases z2
    have z3 := rl3.st.keep b o (nm b) z
    rw [upd_ne nb]
    exact z3
end

/-! ### the law's start -/
def eLaw (n i : Nat) : Sg := (List.replicate n Sl.un).set i .src
theorem eLaw_at {n i j : Nat} {y : Sl} (h : (eLaw n i)[j]? = some y) : (j = i ∧ y = .src) ∨ y = .un := by
  unfold eLaw at h
  by_cases c : i = j
  · subst c
    by_cases k : i < n
    · rw [List.getElem?_set_self (by rw [List.length_replicate]; exact k)] at h
      cases h
      exact .inl ⟨rfl, rfl⟩
    · rw [List.getElem?_eq_none (by rw [List.length_set, List.length_replicate]; omega)] at h
      cases h
  · rw [List.getElem?_set_ne c, List.getElem?_replicate] at h
    split at h
    · cases h
      exact .inr rfl
    · cases h
theorem law_rel {K : PySem.W.Frag} {H : Hp} {p c : Addr} {ns : List Int} {σ : L2.St} {i : Nat} (hi : i < σ.length) (ne : p ≠ c) (h1 : H p = some (.dK (srcKV c (src0 ns)))) (h2 : H c = some (.lst ((src0 ns).cells.map V.int))) :
    Rel K ⟨some (p, c), H, fun _ => none⟩ (σ.set i (some (.ref p))) H (fun _ => none) (eLaw σ.length i) (src0 ns) := by
  refine ⟨⟨fun b o z => (nomatch (show (none : Option HO) = some o from z)), fun a c' z => ?_⟩, Stp.refl, fun a c' z => ?_, ?_, fun j y h => ?_, fun j l y z a hj hl oy => ?_⟩
  · cases z
    exact ⟨ne, h1, h2, rfl, rfl⟩
  · cases z
    exact ⟨by show H p ≠ none; rw [h1]; simp, by show H c ≠ none; rw [h2]; simp⟩
  · unfold eLaw
    rw [List.length_set, List.length_set, List.length_replicate]
  · rcases eLaw_at h with ⟨rfl, rfl⟩ | rfl
    · exact ⟨p, c, List.getElem?_set_self hi, rfl⟩
    · trivial
  · rcases eLaw_at hj with ⟨_, rfl⟩ | rfl <;> cases oy

def spLaw (K : PySem.W.Frag) (m : Nat) : Sp := fun vs H Q _ => ∃ (a : Addr) (ns : List Int), vs = [.ref a] ∧ SqL K H a (ns.map V.int) ∧ ns.length ≤ m ∧ ∀ H', Q (.bl true) H'
/-- the law by its body: source = _law_source(script), then the rest as data tells it -/
theorem law_den {P : Program} {w : World} {K : PySem.W.Frag} {mg : Str → Option Value} {base : Heap} {x qual : Str} {st : Stmt} {f : Addr} {fd : FuncData} {N : List Str} {k mm : Nat} {m : Ms} {s1 : Stmt} {rest : List Stmt} (i : Nat) (F : Fun K x qual st f fd) (S : FnScope N ["script"] (defScope st)) (hb : defBody st = s1 :: rest) (hi : 0 < i) (hN : i < N.length) (hm : mm ≤ 1000)
    (first : ∀ (cdv : Value) (A : Around) (outer : List Env) (s : Shared) (H : Hp) (E : XK), Room k (A.deeper (envOfC qual (defScope st) s.heap.objs.size f cdv)) → A.guards = some [] →
      PS (cxOf (L2.CX P w) P w K mg base N qual (defScope st) f cdv A outer s H E) s1 (tAsg (fun σ H Q => tCons (tVar 0) tNil σ H fun vs H1 => spSrc K vs H1 Q fun cls dd H' => W0 cls dd σ H') (gName i)))
    (body : ∀ (cdv : Value) (A : Around) (outer : List Env) (s : Shared) (H : Hp) (E : XK), Room k (A.deeper (envOfC qual (defScope st) s.heap.objs.size f cdv)) → A.guards = some [] →
      DSs (cxOf (L2.CX P w) P w K mg base N qual (defScope st) f cdv A outer s H E) (fun cls dd _ H => E cls dd H) rest m)
    (law : ∀ ns : List Int, ns.length ≤ mm → ∃ s, m (eLaw N.length i) (src0 ns) = .rt (.bool true) s) : FnG P w K mg base (k + 1) f fd ["script"] (spLaw K mm) := by
  refine fnG_of F S (fun vs H Q E ⟨a, ns, h, _⟩ => by rw [h]; rfl) fun cdv A outer s H vs Q E hr hgd ⟨a, ns, h1, h2, h3, h4⟩ => ?_
  rw [hb]
  refine ⟨_, pss_cons (first cdv A outer s H E hr hgd) (body cdv A outer s H E hr hgd), ?_⟩
  subst h1
  have sl : (L2.start N [V.ref a]).length = N.length := by
    unfold L2.start
    rw [List.length_append, List.length_map, List.length_replicate]
    show 1 + _ = _
    show 1 + (N.length - 1) = N.length
    omega
  refine ⟨_, rfl, a, ns, rfl, h2, by omega, fun p c H' sm ne e1 e2 => ?_⟩
  refine ⟨⟨some (p, c), H', fun _ => none⟩, eLaw (L2.start N [V.ref a]).length i, src0 ns, fun _ => none, law_rel (by rw [sl]; exact hN) ne e1 e2, ?_⟩
  rw [sl]
  obtain ⟨s', e⟩ := law ns h3
  rw [e]
  intro v H'' F'' _ _ is
  cases is
  exact h4 _

/-! ### the def of the source -/
def mixM : Mn D := mBin dMod (mCall dInt (mCons (mBin dAdd (mBin dAdd (mBin dMul (mVar 1) (mC (.int 69069))) (mBin dMul (mVar 2) (mC (.int 31)))) (mC (.int 5))) mNil)) (mC (.int 2147483629))
def cellsM : Mn (List D) := mRev (mFz (mLc (mScr 0) (.n 2) mYes (mCall dAbs (mCons (mVar 2) mNil)) [2]))
theorem mix_go (sc : List Int) (s : Src) : ∀ (ns : List Int) (m : Int) (y : Sl), ∃ y', forGo (.n 2) (mPut 1 (mMap Sl.d mixM)) (ns.map PyData.int) [.scr sc, .d (.int m), y] s = .nx [.scr sc, .d (.int (ns.foldl mixT m)), y'] s
  | [], m, y => ⟨y, rfl⟩
  | n :: ns, m, y => by
    obtain ⟨y', e⟩ := mix_go sc s ns (mixT m n) (.d (.int n))
    exact ⟨y', e⟩
theorem cells_go (sc : List Int) (m : Int) (s : Src) : ∀ (ns : List Int), lcGo (.n 2) mYes (mCall dAbs (mCons (mVar 2) mNil)) (ns.map PyData.int) [.scr sc, .d (.int m), .un] s = .ok ((ns.map absI).map PyData.int) s
  | [] => rfl
  | n :: ns => by
    have ih := cells_go sc m s ns
    rw [List.map_cons, lcGo]
    show (lcGo (.n 2) mYes (mCall dAbs (mCons (mVar 2) mNil)) (ns.map PyData.int) [.scr sc, .d (.int m), .un] s).bind _ = _
    rw [ih]
    rfl
theorem src_den {P : Program} {w : World} {K : PySem.W.Frag} {mg : Str → Option Value} {base : Heap} {x qual : Str} {st : Stmt} {f : Addr} {fd : FuncData} {k : Nat} {s1 s2 s3 : Stmt} (F : Fun K x qual st f fd) (S : FnScope ["script", "mixed", "cell"] ["script"] (defScope st)) (hb : defBody st = [s1, s2, s3])
    (h1 : ∀ (cdv : Value) (A : Around) (outer : List Env) (s : Shared) (H : Hp) (E : XK), Room k (A.deeper (envOfC qual (defScope st) s.heap.objs.size f cdv)) → A.guards = some [] →
      DS (cxOf (L2.CX P w) P w K mg base ["script", "mixed", "cell"] qual (defScope st) f cdv A outer s H E) (fun cls dd _ H => E cls dd H) s1 (mPut 1 (mMap Sl.d (mC (.int 11)))))
    (h2 : ∀ (cdv : Value) (A : Around) (outer : List Env) (s : Shared) (H : Hp) (E : XK), Room k (A.deeper (envOfC qual (defScope st) s.heap.objs.size f cdv)) → A.guards = some [] →
      DS (cxOf (L2.CX P w) P w K mg base ["script", "mixed", "cell"] qual (defScope st) f cdv A outer s H E) (fun cls dd _ H => E cls dd H) s2 (mFor (mScr 0) (.n 2) (mPut 1 (mMap Sl.d mixM))))
    (h3 : ∀ (cdv : Value) (A : Around) (outer : List Env) (s : Shared) (H : Hp) (E : XK), Room k (A.deeper (envOfC qual (defScope st) s.heap.objs.size f cdv)) → A.guards = some [] →
      PS (cxOf (L2.CX P w) P w K mg base ["script", "mixed", "cell"] qual (defScope st) f cdv A outer s H E) s3 (fun Z σ H => ∃ (G : Gh) (e : Sg) (s : Src) (F : Hp) (ds : List Int) (s1 : Src) (k : Int) (s2 : Src), Rel K G σ H F e s ∧ G.M = none ∧ cellsM e s = .ok (ds.map PyData.int) s1 ∧ mVar 1 e s1 = .ok (.int k) s2 ∧
        ∀ p c H', Same G.H0 H' → p ≠ c → H' p = some (.dK [(.inr "cells", .ref c), (.inr "left", .int 1), (.inr "mixed", .int k), (.inr "turn", .int 0)]) → H' c = some (.lst (ds.map V.int)) → Z.rt (.ref p) H')) :
    FnG P w K mg base (k + 1) f fd ["script"] (spSrc K) := by
  refine fnG_of F S (fun vs H Q E ⟨a, ns, h, _⟩ => by rw [h]; rfl) fun cdv A outer s H vs Q E hr hgd ⟨a, ns, e1, sq, few, q⟩ => ?_
  subst e1
  rw [hb]
  refine ⟨_, pss_cons (h1 cdv A outer s H E hr hgd) (pss_cons (h2 cdv A outer s H E hr hgd) (pss_one (h3 cdv A outer s H E hr hgd))), ?_⟩
  have wk : Wok none H H (⟨[], 0, 0, 0⟩ : Src) := ⟨Same.refl _, fun _ _ z => nomatch z⟩
  have ia : IsArs K none H [V.ref a] [Ar.scr ns] := .cons ⟨a, rfl, sq⟩ .nil
  have fz : szB ns.length = true := decide_eq_true (by omega : ns.length ≤ 16777216)
  have ms : ∀ (y z : Sl) (s : Src), mScr 0 [.scr ns, y, z] s = .ok (ns.map PyData.int) s := fun y z s => by
    show (if szB ns.length then _ else _) = _
    rw [if_pos fz]
  refine ⟨⟨none, H, H⟩, _, ⟨[], 0, 0, 0⟩, H, start_rel ["script", "mixed", "cell"] wk ia, ?_⟩
  show ∀ σ' H' F', Rel K ⟨none, H, H⟩ σ' H' F' [.scr ns, .d (.int 11), .un] ⟨[], 0, 0, 0⟩ → _
  intro σ1 H1 F1 r1
  obtain ⟨y', go⟩ := mix_go ns ⟨[], 0, 0, 0⟩ ns 11 .un
  refine ⟨⟨none, H, H⟩, _, _, F1, r1, ?_⟩
  have go2 : mFor (mScr 0) (.n 2) (mPut 1 (mMap Sl.d mixM)) [.scr ns, .d (.int 11), .un] ⟨[], 0, 0, 0⟩ = .nx [.scr ns, .d (.int (ns.foldl mixT 11)), y'] ⟨[], 0, 0, 0⟩ := by
    unfold mFor
    rw [ms]
    exact go
  rw [go2]
  intro σ2 H2 F2 r2
  have cg := cells_go ns (ns.foldl mixT 11) ⟨[], 0, 0, 0⟩ ns
  have cm : cellsM [.scr ns, .d (.int (ns.foldl mixT 11)), y'] ⟨[], 0, 0, 0⟩ = .ok ((ns.map absI).reverse.map PyData.int) ⟨[], 0, 0, 0⟩ := by
    unfold cellsM mRev mFz mLc
    rw [ms]
    show ((((noEx (lcGo (.n 2) mYes (mCall dAbs (mCons (mVar 2) mNil)) (ns.map PyData.int) [.scr ns, .d (.int (ns.foldl mixT 11)), .un] ⟨[], 0, 0, 0⟩)).bind _).bind _)) = _
    rw [cg, List.map_reverse]
    rfl
  exact ⟨⟨none, H, H⟩, _, _, F2, _, _, _, _, r2, rfl, cm, rfl, fun p c H' sm ne a1 a2 => q p c H' sm ne a1 a2⟩

/-! ### the end -/
/-- what the caller's heap tells of the script -/
theorem scr_hp {K : PySem.W.Frag} {h : Heap} {P : Program} {w : World} {a : Addr} {vs : List Value} {ns : List Int} (inK : K.In h) (at_ : h.get? a = some { cls := .type "list", data := .seq vs.toArray }) (intA : IntsAre vs ns) (few : ns.length ≤ sizeLine) :
    ∃ H : Hp, SqL K H a (ns.map V.int) ∧ HOk P w H h ∧ (∀ b, H b ≠ none → b = a ∧ K.lookup a = none) ∧ ∀ b u, H b = some u → ∃ o xs, u = .frz o (.lst xs) := by
  have vals := vals_ints intA
  have long := intA.length
  by_cases there : K.lookup a = none
  · obtain ⟨o, ho⟩ : ∃ o : Obj, o = { cls := .type "list", data := .seq vs.toArray } := ⟨_, rfl⟩
    rw [← ho] at at_
    have here : ∀ b, (if b = a then some (HO.frz o (.lst (ns.map V.int))) else none) ≠ none → b = a := fun b z => by
      by_cases q : b = a
      · exact q
      · rw [if_neg q] at z
        exact absurd rfl z
    have told : ∀ b u, (if b = a then some (HO.frz o (.lst (ns.map V.int))) else none) = some u → b = a ∧ u = HO.frz o (.lst (ns.map V.int)) := fun b u z => by
      by_cases q : b = a
      · rw [if_pos q] at z
        exact ⟨q, (Option.some.inj z).symm⟩
      · rw [if_neg q] at z
        cases z
    refine ⟨fun b => if b = a then some (.frz o (.lst (ns.map V.int))) else none, .inl (.inr ⟨o, if_pos rfl⟩), fun b u z => ?_, fun b z => ⟨here b z, there⟩, fun b u z => ⟨_, _, (told b u z).2⟩⟩
    obtain ⟨rfl, rfl⟩ := told b u z
    have at2 := at_
    rw [ho] at at2
    refine ⟨at_, ?_, vs, _, vals, at2⟩
    rw [List.length_map]
    exact few
  · obtain ⟨o, ho⟩ := Option.ne_none_iff_exists'.mp there
    have same := inK a o ho
    rw [at_] at same
    cases same
    refine ⟨fun _ => none, .inr ⟨_, vs.toArray, _, ho, rfl, rfl, rfl, ?_, ?_⟩, fun b u z => ?_, fun b z => absurd rfl z, fun b u z => ?_⟩
    · rw [List.size_toArray, long]
      exact few
    · simpa using vals
    · have z : (none : Option HO) = some u := z
      cases z
    · have z : (none : Option HO) = some u := z
      cases z
theorem end_of {l : PySem.W.OpenLaw} {n k : Nat} {q : Program} {loose : List Str} {XP : (Str → Option Value) → Heap → Prop} {YP : World → Heap → Prop} {d : DefRec} {K : Params → PySem.W.Frag}
    (hn : l.most = some n) (hn2 : n ≤ sizeLine) (hdf : d.params.defaults = []) (hr : Room k callerA) (hY : ∀ (w : World) (h : Heap), YP w h → (K w.params).In h)
    (F : ∀ (w : World) (mg : Str → Option Value) (fa : Addr) (h : Heap), (K w.params).In h → h.Ns mainGlobals mg → mg d.name = some (.ref fa) →
      ∃ fd : FuncData, (∀ (s : Shared) (u : Value), BindsTo s fd ⟨[u], []⟩ [("script", u)]) ∧ ∀ base : Heap, (K w.params).In base → base.Ns mainGlobals mg → FnG l.prog w (K w.params) mg base k fa fd ["script"] (spLaw (K w.params) n)) :
    PySem.W.WalkO q loose XP YP l.row.toRowW d [] (fun f vs => PySem.call f vs) := by
  apply Att.attach_call hn hdf
  intro w s₀ st mg mb fa o pm cd doc a vs ns G Y ho hd hcd hmg atA intA few noGen
  have inK := hY w st.heap Y
  obtain ⟨fd, binds, walk⟩ := F w mg fa st.heap inK G.T.g hmg
  obtain ⟨H, seq, ok, only, frozen⟩ := scr_hp (P := l.prog) (w := w) inK atA intA (Nat.le_trans few hn2)
  have free : ∀ {b : Addr} {u : Obj}, st.heap.get? b = some u → (∀ x y, u ≠ { cls := x, data := .seq y }) → H b = none := fun {b u} e ne => by
    cases z : H b with
    | none => rfl
    | some y =>
      obtain ⟨rfl, _⟩ := only b (by rw [z]; simp)
      rw [atA] at e
      exact absurd (Option.some.inj e).symm (ne _ _)
  have spaces : ∀ {b : Addr} {m : Str → Option Value}, st.heap.Ns b m → (hidT st.heap H).Ns b m := fun {b m} ns => by
    obtain ⟨u, es, ep, e, dd, r⟩ := ns
    refine ⟨u, es, ep, hidT_get e (free e fun x y z => ?_), dd, r⟩
    subst z
    have dd : Data.seq y _ = Data.dict es ep := dd
    cases dd
  have baseK : (K w.params).In (hidT st.heap H) := fun b u e => hidT_get (inK b u e) (by
    cases z : H b with
    | none => rfl
    | some y =>
      obtain ⟨rfl, no⟩ := only b (by rw [z]; simp)
      rw [no] at e
      cases e)
  have limit : (hidT st.heap H).NoLimit := by
    obtain ⟨mc, h1, h2⟩ := G.T.nolimit
    exact ⟨mc, spaces h1, h2⟩
  have env : Env0 l.prog w (K w.params) mg (hidT st.heap H) callerA [] st H := {
    frames := rfl
    mod := { kin := baseK, glob := spaces G.T.g, blt := ⟨mb, spaces G.T.b, G.T.builtins⟩, nolimit := limit }
    bs := fun b u e => of_hidT e
    bsz := Nat.le_of_eq (hidT_size _ _)
    funs := trivial
    frf := fun b hb => nomatch hb
    hok := ok
    bare := .of_eq noGen }
  have run := (walk _ baseK (spaces G.T.g)).run callerA [] st H ⟨[.ref a], []⟩ [.ref a] [.ref a] (fun v _ => v = .bl true) (fun _ _ _ => False) hr rfl env (binds st (.ref a)) (.cons rfl .nil) ⟨a, ns, rfl, seq, few, fun _ => rfl⟩
  refine codeAny_mono run ?_
  rintro (e | fl) s' h
  · obtain ⟨_, _, _, _, _, _, _, _, _, _, _, _, no⟩ := h
    exact no.elim
  match fl, h with
  | .next, h => exact h.elim
  | .brk, h => exact h.elim
  | .cont, h => exact h.elim
  | .ret u, ⟨v, H', os, bare, un, ok', rv, (is : v = .bl true)⟩ =>
    subst is
    have rv : u = Value.bool true := rv
    subst rv
    refine ⟨rfl, OldK.of_keep fun b ob e => ?_, os, bare⟩
    cases z : H b with
    | none => exact un.keep b ob e z (fun m => nomatch m) (fun m => nomatch m)
    | some y =>
      obtain ⟨o2, xs, rfl⟩ := frozen b y z
      obtain ⟨e1, _⟩ := ok b _ z
      obtain ⟨e2, _⟩ := ok' b _ (un.frzs b o2 _ z)
      rw [e] at e1
      cases e1
      exact e2
end Pt

/-! Pt K: what a denotation comes to, from the left: rules for simp. -/
namespace Pt
open PySem PySem.Spec PyProof.Rows L2

def Gt {α : Type} (m : Rs α) (Q : α → Src → Prop) (E : Str → List (Str × D) → Src → Prop) : Prop := match m with
  | .ok a s => Q a s
  | .ex c x s => E c x s
  | .no => False
def Gs (r : Sr) (Q : Sr → Prop) : Prop := match r with
  | .no => False
  | .nx e s => Q (.nx e s)
  | .bk e s => Q (.bk e s)
  | .ct e s => Q (.ct e s)
  | .rt d s => Q (.rt d s)
  | .ex c x e s => Q (.ex c x e s)
def Ox {α : Type} (o : Option α) (K : α → Prop) : Prop := match o with
  | some a => K a
  | none => False
def Bo (b : Bool) (p q : Prop) : Prop := (b = true → p) ∧ (b = false → q)
def At (e : Sg) (i : Nat) (K : Sl → Prop) : Prop := Ox e[i]? K
def Vd (y : Sl) (K : D → Prop) : Prop := match y with
  | .d x => K x
  | .h xs => K (.tuple xs)
  | _ => False
def Vo (y : Sl) (K : D → Prop) : Prop := match y with
  | .l xs => K (.list xs)
  | .k kvs => K (.dict kvs)
  | .t kvs => K (.dict ((.none, .none) :: kvs))
  | _ => False
def Vl (y : Sl) (K : List D → Prop) : Prop := match y with
  | .l xs => K xs
  | _ => False
def Vs (y : Sl) (K : Prop) : Prop := match y with
  | .src => K
  | _ => False
def Pu (e : Sg) (i : Nat) (y : Sl) (K : Sg → Prop) : Prop := K (e.set i y)
def Wi (e : Sg) (vs : List Nat) (K : Sg → Prop) : Prop := K (wipeE e vs)
def Bp (p : Pat) (d : D) (e : Sg) (K : Sg → Prop) : Prop := Ox (bindP p d e) K
def Bps (ps : List Pat) (ds : List D) (e : Sg) (K : Sg → Prop) : Prop := Ox (bindPs ps ds e) K
def Sq (r : Sr) (b : Ms) (Q : Sr → Prop) : Prop := match r with
  | .nx e s => Gs (b e s) Q
  | .no => False
  | .bk e s => Q (.bk e s)
  | .ct e s => Q (.ct e s)
  | .rt d s => Q (.rt d s)
  | .ex c x e s => Q (.ex c x e s)
def Gl (r : Rs (List D)) (Q : List D → Src → Prop) : Prop := match r with
  | .ok a s => Q a s
  | _ => False
def F0 : Str → List (Str × D) → Src → Prop := fun _ _ _ => False
def Rt (r : Sr) (Q : D → Src → Prop) (E : Str → List (Str × D) → Src → Prop) : Prop := match r with
  | .rt d s => Q d s
  | .nx _ s => Q .none s
  | .ex c x _ s => E c x s
  | _ => False
def Fe (e : Sg) (i : Nat) (K : Sg → Prop) : Prop := K (frz i e)
def Nt (ds : List D) (i : Nat) (K : D → Prop) : Prop := Ox ds[i]? K
section
variable {α β : Type} {Q : α → Src → Prop} {R : β → Src → Prop} {E : Str → List (Str × D) → Src → Prop} {e : Sg} {s : Src} {P : D → Src → Prop} {Z : Sr → Prop} {i j : Nat} {y : Sl} {K : D → Prop} {KS : Sg → Prop} {p q : Prop} {c : Bool}
theorem gt_ok {a : α} : Gt (.ok a s) Q E = Q a s := rfl
theorem gt_bind {m : Rs α} {f : α → Src → Rs β} : Gt (m.bind f) R E = Gt m (fun a s => Gt (f a s) R E) E := by cases m <;> rfl
theorem gt_lift {o : Option α} : Gt (Rs.lift o s) Q E = Ox o fun a => Q a s := by cases o <;> rfl
theorem gt_eq {m : Rs α} {a : α} (h : m = .ok a s) : Gt m Q E = Q a s := by rw [h]; rfl
/-! reading slots -/
theorem at_0 {K : Sl → Prop} : At (y :: e) 0 K = K y := rfl
theorem at_s {K : Sl → Prop} : At (y :: e) (i + 1) K = At e i K := rfl
theorem nt_0 {d : D} {ds : List D} : Nt (d :: ds) 0 K = K d := rfl
theorem nt_s {d : D} {ds : List D} : Nt (d :: ds) (i + 1) K = Nt ds i K := rfl
theorem vd_d {x : D} : Vd (.d x) K = K x := rfl
theorem vd_h {xs : List D} : Vd (.h xs) K = K (.tuple xs) := rfl
theorem vo_l {xs : List D} : Vo (.l xs) K = K (.list xs) := rfl
theorem vo_k {xs : List (D × D)} : Vo (.k xs) K = K (.dict xs) := rfl
theorem vo_t {xs : List (D × D)} : Vo (.t xs) K = K (.dict ((.none, .none) :: xs)) := rfl
theorem vl_l {xs : List D} {K : List D → Prop} : Vl (.l xs) K = K xs := rfl
theorem vs_s : Vs .src p = p := rfl
theorem pu_0 {z : Sl} : Pu (z :: e) 0 y KS = KS (y :: e) := rfl
theorem pu_s {z : Sl} : Pu (z :: e) (i + 1) y KS = Pu e i y fun r => KS (z :: r) := rfl
theorem wi_0 : Wi e [] KS = KS e := rfl
theorem wi_s {v : Nat} {vs : List Nat} : Wi e (v :: vs) KS = Wi e vs fun r => Pu r v .un KS := rfl
theorem bp_n {d : D} : Bp (.n i) d e KS = Pu e i (.d d) KS := by unfold Bp; rw [bindP]; rfl
theorem bp_t {ps : List Pat} {ds : List D} : Bp (.t ps) (.tuple ds) e KS = Bps ps ds e KS := by unfold Bp; rw [bindP]; rfl
theorem bp_l {ps : List Pat} {ds : List D} : Bp (.t ps) (.list ds) e KS = Bps ps ds e KS := by unfold Bp; rw [bindP]; rfl
theorem bps_0 : Bps [] [] e KS = KS e := by unfold Bps; rw [bindPs]; rfl
theorem bps_s {p : Pat} {ps : List Pat} {d : D} {ds : List D} : Bps (p :: ps) (d :: ds) e KS = Bp p d e fun r => Bps ps ds r KS := by
  unfold Bps Bp
  rw [bindPs]
  cases bindP p d e <;> rfl
/-! branches -/
theorem bo_t : Bo true p q = p := by simp [Bo]
theorem bo_f : Bo false p q = q := by simp [Bo]
theorem bo_not : Bo (!c) p q = Bo c q p := by cases c <;> simp [Bo]
theorem bo_dec {r : Prop} [Decidable r] : Bo (decide r) p q = ((r → p) ∧ (¬ r → q)) := by simp [Bo]
theorem bo_pos {r : Prop} [Decidable r] (h : r) : Bo (decide r) p q = p := by simp [Bo, h]
theorem bo_neg {r : Prop} [Decidable r] (h : ¬ r) : Bo (decide r) p q = q := by simp [Bo, h]
theorem bo_of {x : Prop} (h1 : c = true → x = p) (h2 : c = false → x = q) : x = Bo c p q := by
  cases c
  · rw [bo_f]; exact h2 rfl
  · rw [bo_t]; exact h1 rfl
/-! expressions -/
theorem gt_var : Gt (mVar i e s) P E = At e i fun y => Vd y fun d => P d s := by
  unfold mVar At Ox
  cases e[i]? with
  | none => rfl
  | some y => cases y <;> rfl
theorem gt_own : Gt (mOwn i e s) P E = At e i fun y => Vo y fun d => P d s := by
  unfold mOwn At Ox
  cases e[i]? with
  | none => rfl
  | some y => cases y <;> rfl
theorem gt_c {d : D} : Gt (mC d e s) P E = P d s := rfl
theorem gt_bin {f : D → D → Option D} {a b : Mn D} : Gt (mBin f a b e s) P E = Gt (a e s) (fun x s1 => Gt (b e s1) (fun y s2 => Ox (f x y) fun r => P r s2) E) E := by
  unfold mBin
  simp only [gt_bind, gt_lift]
theorem gt_un {f : D → Option D} {a : Mn D} : Gt (mUn f a e s) P E = Gt (a e s) (fun x s1 => Ox (f x) fun r => P r s1) E := by
  unfold mUn
  simp only [gt_bind, gt_lift]
theorem gt_tst {a : Mn D} {T : Bool → Src → Prop} : Gt (mTst a e s) T E = Gt (a e s) (fun x s1 => Ox (tst x) fun r => T r s1) E := by
  unfold mTst
  simp only [gt_bind, gt_lift]
theorem ite_gt {a b : Rs α} : Gt (if c = true then a else b) Q E = Bo c (Gt a Q E) (Gt b Q E) := by cases c <;> simp [Bo]
theorem ite_ox {a b : Option α} {K : α → Prop} : Ox (if c = true then a else b) K = Bo c (Ox a K) (Ox b K) := by cases c <;> simp [Bo]
theorem gt_andT {a b : Mn Bool} {T : Bool → Src → Prop} : Gt (mAndT a b e s) T E = Gt (a e s) (fun c s1 => Bo c (Gt (b e s1) T E) (T false s1)) E := by
  unfold mAndT
  simp only [gt_bind, ite_gt, gt_ok]
theorem gt_orT {a b : Mn Bool} {T : Bool → Src → Prop} : Gt (mOrT a b e s) T E = Gt (a e s) (fun c s1 => Bo c (T true s1) (Gt (b e s1) T E)) E := by
  unfold mOrT
  simp only [gt_bind, ite_gt, gt_ok]
theorem gt_notT {a : Mn Bool} {T : Bool → Src → Prop} : Gt (mNotT a e s) T E = Gt (a e s) (fun c s1 => T (!c) s1) E := by
  unfold mNotT
  simp only [gt_bind, gt_ok]
theorem gt_and {a b : Mn D} : Gt (mAnd a b e s) P E = Gt (mTst a e s) (fun c s1 => Bo c (Gt (b e s1) P E) (P (.bool false) s1)) E := by
  unfold mAnd
  simp only [gt_bind, ite_gt, gt_ok]
theorem gt_or {a b : Mn D} : Gt (mOr a b e s) P E = Gt (mTst a e s) (fun c s1 => Bo c (P (.bool true) s1) (Gt (b e s1) P E)) E := by
  unfold mOr
  simp only [gt_bind, ite_gt, gt_ok]
theorem gt_not {a : Mn D} : Gt (mNot a e s) P E = Gt (mTst a e s) (fun c s1 => P (.bool (!c)) s1) E := by
  unfold mNot
  simp only [gt_bind, gt_ok]
theorem gt_if {t : Mn Bool} {a b : Mn α} : Gt (mIf t a b e s) Q E = Gt (t e s) (fun c s1 => Bo c (Gt (a e s1) Q E) (Gt (b e s1) Q E)) E := by
  unfold mIf
  simp only [gt_bind, ite_gt]
theorem gt_chain {f g : D → D → Option D} {a b c : Mn D} : Gt (mChain f g a b c e s) P E = Gt (a e s) (fun x s1 => Gt (b e s1) (fun y s2 => Ox (f x y) fun k => Ox (tst k) fun k => Bo k (Gt (c e s2) (fun z s3 => Ox (g y z) fun r => P r s3) E) (P (.bool false) s2)) E) E := by
  unfold mChain
  have ob : ∀ (x y : D) (T : Bool → Prop), Ox ((f x y).bind tst) T = Ox (f x y) fun k => Ox (tst k) T := fun x y T => by cases f x y <;> rfl
  simp only [gt_bind, gt_lift, ite_gt, gt_ok, ob]
theorem gt_nil {T : List β → Src → Prop} : Gt ((mNil : Mn (List β)) e s) T E = T [] s := rfl
theorem gt_cons {a : Mn D} {r : Mn (List D)} {T : List D → Src → Prop} : Gt (mCons a r e s) T E = Gt (a e s) (fun x s1 => Gt (r e s1) (fun xs s2 => T (x :: xs) s2) E) E := by
  unfold mCons
  simp only [gt_bind, gt_ok]
theorem gt_consA {a : Mn D} {r : Mn (List Ar)} {T : List Ar → Src → Prop} : Gt (mConsA a r e s) T E = Gt (a e s) (fun x s1 => Gt (r e s1) (fun xs s2 => T (.d x :: xs) s2) E) E := by
  unfold mConsA
  simp only [gt_bind, gt_ok]
theorem gt_consS {r : Mn (List Ar)} {T : List Ar → Src → Prop} : Gt (mConsS i r e s) T E = At e i fun y => Vs y (Gt (r e s) (fun xs s2 => T (.src :: xs) s2) E) := by
  unfold mConsS At Ox
  cases e[i]? with
  | none => rfl
  | some y => cases y <;> first | rfl | (show Gt (Rs.bind _ _) _ _ = _; rw [gt_bind]; rfl)
theorem sz_few {n : Nat} (h : n ≤ 16777216) : szB n = true := decide_eq_true h
theorem gt_tup {r : Mn (List D)} : Gt (mTup r e s) P E = Gt (r e s) (fun xs s1 => szB xs.length = true ∧ P (.tuple xs) s1) E := by
  unfold mTup
  rw [gt_bind]
  congr 1
  funext xs s1
  cases h : szB xs.length <;> simp [Gt]
theorem gt_lst {r : Mn (List D)} {T : List D → Src → Prop} : Gt (mLst r e s) T E = Gt (r e s) (fun xs s1 => szB xs.length = true ∧ T xs s1) E := by
  unfold mLst
  rw [gt_bind]
  congr 1
  funext xs s1
  cases h : szB xs.length <;> simp [Gt]
theorem gt_fz {r : Mn (List D)} : Gt (mFz r e s) P E = Gt (r e s) (fun xs s1 => P (.list xs) s1) E := by
  unfold mFz
  simp only [gt_bind, gt_ok]
theorem gt_fzD {r : Mn (List (D × D))} : Gt (mFzD r e s) P E = Gt (r e s) (fun xs s1 => P (.dict xs) s1) E := by
  unfold mFzD
  simp only [gt_bind, gt_ok]
theorem gt_call {f : List D → Option D} {r : Mn (List D)} : Gt (mCall f r e s) P E = Gt (r e s) (fun xs s1 => Ox (f xs) fun d => P d s1) E := by
  unfold mCall
  simp only [gt_bind, gt_lift]
theorem gt_callL {f : List D → Option (List D)} {r : Mn (List D)} {T : List D → Src → Prop} : Gt (mCallL f r e s) T E = Gt (r e s) (fun xs s1 => Ox (f xs) fun d => T d s1) E := by
  unfold mCallL
  simp only [gt_bind, gt_lift]
theorem gt_callK {f : List D → Option (List (D × D))} {r : Mn (List D)} {T : List (D × D) → Src → Prop} : Gt (mCallK f r e s) T E = Gt (r e s) (fun xs s1 => Ox (f xs) fun d => T d s1) E := by
  unfold mCallK
  simp only [gt_bind, gt_lift]
theorem gt_app {f : Fs} {r : Mn (List Ar)} : Gt (mApp f r e s) P E = Gt (r e s) (fun xs s1 => Gt (f xs s1) P E) E := by
  unfold mApp
  simp only [gt_bind]
theorem gt_sl {a : Mn D} {lo hi : Mn (Option Int)} : Gt (mSl a lo hi e s) P E = Gt (a e s) (fun d s1 => Gt (lo e s1) (fun l s2 => Gt (hi e s2) (fun h s3 => Ox (dSl d l h) fun r => P r s3) E) E) E := by
  unfold mSl
  simp only [gt_bind, gt_lift]
theorem gt_none {T : Option Int → Src → Prop} : Gt (mNone e s) T E = T none s := rfl
theorem gt_some {a : Mn D} {T : Option Int → Src → Prop} : Gt (mSome a e s) T E = Gt (a e s) (fun d s1 => Ox (intD d) fun i => T (some i) s1) E := by
  unfold mSome
  simp only [gt_bind, gt_lift]
  have ob : ∀ (o : Option Int) (T : Option Int → Prop), Ox (o.map some) T = Ox o fun k => T (some k) := fun o T => by cases o <;> rfl
  simp only [ob]
def Ls (d : D) (K : List D → Prop) : Prop := match d with
  | .list ds => K ds
  | _ => False
theorem ls_l {ds : List D} {K : List D → Prop} : Ls (.list ds) K = K ds := rfl
theorem gt_rev {a : Mn D} {T : List D → Src → Prop} : Gt (mRev a e s) T E = Gt (a e s) (fun d s1 => Ls d fun ds => T ds.reverse s1) E := by
  unfold mRev
  rw [gt_bind]
  congr 1
  funext d s1
  cases d <;> rfl
theorem gt_sq {a : Mn D} {T : List D → Src → Prop} : Gt (mSq a e s) T E = Gt (a e s) (fun d s1 => Ox (seqD d) fun ds => T ds s1) E := by
  unfold mSq
  simp only [gt_bind, gt_lift]
theorem ox_some {a : α} {K : α → Prop} : Ox (some a) K = K a := rfl
theorem seq_l {ds : List D} {K : List D → Prop} : Ox (seqD (.list ds)) K = K ds := rfl
theorem seq_t {ds : List D} {K : List D → Prop} : Ox (seqD (.tuple ds)) K = K ds := rfl
theorem tst_b {b : Bool} {K : Bool → Prop} : Ox (tst (.bool b)) K = K b := rfl
theorem intD_i {n : Int} {K : Int → Prop} : Ox (intD (.int n)) K = K n := rfl
def Z1 (ds : List D) (K : Int → Prop) : Prop := match ds with
  | [.int n] => K n
  | _ => False
def Z2 (ds : List D) (K : Int → Int → Prop) : Prop := match ds with
  | [.int n, .int m] => K n m
  | _ => False
theorem z1_i {n : Int} {K : Int → Prop} : Z1 [.int n] K = K n := rfl
theorem z2_i {n m : Int} {K : Int → Int → Prop} : Z2 [.int n, .int m] K = K n m := rfl
theorem gt_guard {c : Bool} {a : α} : Gt (if c = true then Rs.ok a s else Rs.no) Q E = (c = true ∧ Q a s) := by cases c <;> simp [Gt]
theorem gt_rg1 {r : Mn (List D)} {T : List D → Src → Prop} : Gt (mRg1 r e s) T E = Gt (r e s) (fun ds s1 => Z1 ds fun n => rgB n = true ∧ T (rangeL 0 1 n.toNat) s1) E := by
  unfold mRg1
  rw [gt_bind]
  congr 1
  funext ds s1
  rcases ds with _ | ⟨d, _ | ⟨d2, r⟩⟩
  · rfl
  · cases d with
    | int n => exact gt_guard
    | _ => rfl
  · cases d <;> rfl
theorem gt_rg1J {r : Mn (List D)} {T : List D → Src → Prop} : Gt (mRg1J r e s) T E = Gt (r e s) (fun ds s1 => Z1 ds fun n => (szB n.toNat && rgB n) = true ∧ T (rangeL 0 1 n.toNat) s1) E := by
  unfold mRg1J
  rw [gt_bind]
  congr 1
  funext ds s1
  rcases ds with _ | ⟨d, _ | ⟨d2, r⟩⟩
  · rfl
  · cases d with
    | int n => exact gt_guard
    | _ => rfl
  · cases d <;> rfl
theorem gt_rg2 {r : Mn (List D)} {T : List D → Src → Prop} : Gt (mRg2 r e s) T E = Gt (r e s) (fun ds s1 => Z2 ds fun i j => (rgB i && rgB j) = true ∧ T (rangeL i 1 (j - i).toNat) s1) E := by
  unfold mRg2
  rw [gt_bind]
  congr 1
  funext ds s1
  rcases ds with _ | ⟨d, _ | ⟨d2, _ | ⟨d3, r⟩⟩⟩
  · rfl
  · cases d <;> rfl
  · cases d with
    | int n =>
      cases d2 with
      | int m => exact gt_guard
      | _ => rfl
    | _ => cases d2 <;> rfl
  · cases d <;> first | rfl | (cases d2 <;> rfl)
/-! the source -/
theorem gt_srcI {g : Src → Int} : Gt (mSrcI i g e s) P E = At e i fun y => Vs y (P (.int (g s)) s) := by
  unfold mSrcI isSrc At Ox
  cases e[i]? with
  | none => rfl
  | some y => cases y <;> rfl
theorem gt_srcLen : Gt (mSrcLen i e s) P E = At e i fun y => Vs y (P (.int s.cells.length) s) := by
  unfold mSrcLen isSrc At Ox
  cases e[i]? with
  | none => rfl
  | some y => cases y <;> rfl
/-! comprehensions -/
theorem gt_lc {m : Mn (List D)} {p : Pat} {mt : Mn Bool} {me : Mn D} {vs : List Nat} {T : List D → Src → Prop} : Gt (mLc m p mt me vs e s) T E = Gt (m e s) (fun xs s1 => Wi e vs fun e1 => Gl (lcGo p mt me xs e1 s1) T) E := by
  unfold mLc
  rw [gt_bind]
  congr 1
  funext xs s1
  show _ = Gl (lcGo p mt me xs (wipeE e vs) s1) T
  cases lcGo p mt me xs (wipeE e vs) s1 <;> rfl
theorem gt_yes {T : Bool → Src → Prop} : Gt (mYes e s) T E = T true s := rfl
theorem gl_nil {p : Pat} {mt : Mn Bool} {me : Mn D} {T : List D → Src → Prop} : Gl (lcGo p mt me [] e s) T = T [] s := rfl
theorem gl_cons {p : Pat} {mt : Mn Bool} {me : Mn D} {d : D} {r : List D} {T : List D → Src → Prop} : Gl (lcGo p mt me (d :: r) e s) T = Bp p d e fun e1 => Gt (mt e1 s) (fun k s1 => Bo k (Gt (me e1 s1) (fun y s2 => Gl (lcGo p mt me r e s2) fun ys s3 => T (y :: ys) s3) F0) (Gl (lcGo p mt me r e s1) T)) F0 := by
  rw [lcGo]
  unfold Bp
  cases bindP p d e with
  | none => rfl
  | some e1 =>
    show Gl ((mt e1 s).bind _) T = Gt (mt e1 s) _ F0
    cases mt e1 s with
    | no => rfl
    | ex c x s1 => rfl
    | ok k s1 =>
      cases k with
      | false => show _ = Bo false _ _; rw [bo_f]; rfl
      | true =>
        show Gl ((me e1 s1).bind _) T = Bo true _ _
        rw [bo_t]
        cases me e1 s1 with
        | no => rfl
        | ex c x s2 => rfl
        | ok y s2 =>
          show Gl ((lcGo p mt me r e s2).bind _) T = Gl (lcGo p mt me r e s2) _
          cases lcGo p mt me r e s2 <;> rfl
theorem gl_ok {a : List D} {T : List D → Src → Prop} : Gl (.ok a s) T = T a s := rfl
theorem gl_eq {r : Rs (List D)} {a : List D} {T : List D → Src → Prop} (h : r = .ok a s) : Gl r T = T a s := by rw [h]; rfl
/-- a comprehension whose parts change nothing -/
theorem lc_pure {p : Pat} {mt : Mn Bool} {me : Mn D} {e : Sg} {s : Src} (t : D → Bool) (f : D → D) : ∀ (xs : List D), (∀ x ∈ xs, Bp p x e fun e1 => Gt (mt e1 s) (fun k s1 => k = t x ∧ s1 = s ∧ (t x = true → Gt (me e1 s) (fun y s2 => y = f x ∧ s2 = s) F0)) F0) → lcGo p mt me xs e s = .ok ((xs.filter t).map f) s
  | [], _ => rfl
  | x :: xs, h => by
    have ih := lc_pure t f xs fun y hy => h y (List.mem_cons_of_mem _ hy)
    have h1 := h x List.mem_cons_self
    rw [lcGo]
    unfold Bp at h1
    cases hb : bindP p x e with
    | none => rw [hb] at h1; exact h1.elim
    | some e1 =>
      rw [hb] at h1
      have h1 : Gt (mt e1 s) (fun k s1 => k = t x ∧ s1 = s ∧ (t x = true → Gt (me e1 s) (fun y s2 => y = f x ∧ s2 = s) F0)) F0 := h1
      show (mt e1 s).bind _ = _
      cases hm : mt e1 s with
      | no => rw [hm] at h1; exact h1.elim
      | ex c x s1 => rw [hm] at h1; exact h1.elim
      | ok k s1 =>
        rw [hm] at h1
        obtain ⟨rfl, rfl, h2⟩ := h1
        show (if t x = true then _ else _) = _
        cases ht : t x with
        | false =>
          rw [List.filter_cons_of_neg (by rw [ht]; simp)]
          exact ih
        | true =>
          rw [List.filter_cons_of_pos ht, List.map_cons]
          have h3 := h2 ht
          show (me e1 s1).bind _ = _
          cases hme : me e1 s1 with
          | no => rw [hme] at h3; exact h3.elim
          | ex c x s1 => rw [hme] at h3; exact h3.elim
          | ok y s2 =>
            rw [hme] at h3
            obtain ⟨rfl, rfl⟩ := h3
            show (lcGo p mt me xs e s2).bind _ = _
            rw [ih]
            rfl
/-! dicts by tuples -/
def Vh (y : Sl) (K : List D → Prop) : Prop := match y with
  | .h xs => K xs
  | _ => False
def Vt (y : Sl) (K : List (D × D) → Prop) : Prop := match y with
  | .t xs => K xs
  | _ => False
theorem vh_h {xs : List D} {K : List D → Prop} : Vh (.h xs) K = K xs := rfl
theorem vt_t {xs : List (D × D)} {K : List (D × D) → Prop} : Vt (.t xs) K = K xs := rfl
theorem gt_ht {T : List D → Src → Prop} : Gt (mHt i e s) T E = At e i fun y => Vh y fun xs => T xs s := by
  unfold mHt At Ox
  cases e[i]? with
  | none => rfl
  | some y => cases y <;> rfl
theorem gt_tupL {r : Mn (List D)} {T : List D → Src → Prop} : Gt (mTupL r e s) T E = Gt (r e s) (fun ds s1 => Ox (lstD ds) fun xs => T xs s1) E := by
  unfold mTupL
  simp only [gt_bind, gt_lift]
theorem lst_l {ds : List D} {K : List D → Prop} : Ox (lstD [.list ds]) K = K ds := rfl
theorem gt_newD {T : List (D × D) → Src → Prop} : Gt (mNewD e s) T E = T [] s := rfl
theorem tag_t {kvs : List (D × D)} {K : List (D × D) → Prop} : Ox (tagOf (.dict ((.none, .none) :: kvs))) K = K kvs := rfl
theorem ox_omap {β : Type} {f : α → β} {o : Option α} {K : β → Prop} : Ox (o.map f) K = Ox o fun a => K (f a) := by cases o <;> rfl
theorem gt_get2T {md mx : Mn D} {mk : Mn (List D)} : Gt (mGet2T md mk mx e s) P E = Gt (md e s) (fun d s1 => Ox (tagOf d) fun kvs => Gt (mk e s1) (fun ks s2 => Gt (mx e s2) (fun x s3 => Ox (ks.mapM keyOf) fun κs => P ((lookT kvs κs).getD x) s3) E) E) E := by
  unfold mGet2T
  simp only [gt_bind, gt_lift, ox_omap]
theorem key_3 {a b c : Int} {K : List Key → Prop} : Ox ([PyData.int a, .int b, .int c].mapM keyOf) K = K [.inl a, .inl b, .inl c] := rfl
def Zp (ds : List D) (K : List D → Prop) : Prop := match ds with
  | [.list xs, .list ys] => K (pairL xs ys)
  | [.tuple xs, .tuple ys] => K (pairL xs ys)
  | _ => False
theorem zp_l {xs ys : List D} {K : List D → Prop} : Zp [.list xs, .list ys] K = K (pairL xs ys) := rfl
theorem zp_t {xs ys : List D} {K : List D → Prop} : Zp [.tuple xs, .tuple ys] K = K (pairL xs ys) := rfl
theorem gt_zip {r : Mn (List D)} {T : List D → Src → Prop} : Gt (mZip r e s) T E = Gt (r e s) (fun ds s1 => Zp ds fun xs => T xs s1) E := by
  unfold mZip
  rw [gt_bind]
  congr 1
  funext ds s1
  unfold Zp
  split <;> first | rfl | (rename_i h1 h2; split <;> first | rfl | (rename_i h3; exact (h1 _ _ h3).elim) | (rename_i h3; exact (h2 _ _ h3).elim) | (exfalso; first | exact h1 _ _ rfl | exact h2 _ _ rfl))
theorem pair_0 {ys : List D} : pairL [] ys = [] := by unfold pairL; cases ys <;> rfl
theorem pair_s {x y : D} {xs ys : List D} : pairL (x :: xs) (y :: ys) = .tuple [x, y] :: pairL xs ys := rfl
/-! statements -/
theorem gs_seq {a b : Ms} : Gs (mSeq a b e s) Z = Gs (a e s) fun r => Sq r b Z := by
  unfold mSeq
  cases a e s <;> rfl
theorem sq_nx {b : Ms} : Sq (.nx e s) b Z = Gs (b e s) Z := rfl
theorem sq_rt {b : Ms} {d : D} : Sq (.rt d s) b Z = Z (.rt d s) := rfl
theorem sq_bk {b : Ms} : Sq (.bk e s) b Z = Z (.bk e s) := rfl
theorem sq_ct {b : Ms} : Sq (.ct e s) b Z = Z (.ct e s) := rfl
theorem sq_ex {b : Ms} {c : Str} {x : List (Str × D)} : Sq (.ex c x e s) b Z = Z (.ex c x e s) := rfl
theorem gs_skip : Gs (mSkip e s) Z = Z (.nx e s) := rfl
theorem gs_brk : Gs (mBrk e s) Z = Z (.bk e s) := rfl
theorem gs_cnt : Gs (mCnt e s) Z = Z (.ct e s) := rfl
theorem gs_nx : Gs (.nx e s) Z = Z (.nx e s) := rfl
theorem gs_E {m : Mn α} {k : α → Sg → Src → Sr} : Gs (mE m k e s) Z = Gt (m e s) (fun a s1 => Gs (k a e s1) Z) (fun c x s1 => Z (.ex c x e s1)) := by
  unfold mE
  cases m e s <;> rfl
theorem gs_put {m : Mn Sl} : Gs (mPut i m e s) Z = Gt (m e s) (fun y s1 => Pu e i y fun e1 => Z (.nx e1 s1)) (fun c x s1 => Z (.ex c x e s1)) := gs_E
theorem gs_putZ {m : Mn (List D)} : Gs (mPutZ i m e s) Z = Gt (m e s) (fun xs s1 => Pu e i (.d (.list xs)) fun e1 => Z (.nx e1 s1)) (fun c x s1 => Z (.ex c x e s1)) := gs_E
theorem gt_map {g : α → β} {m : Mn α} : Gt (mMap g m e s) R E = Gt (m e s) (fun a s1 => R (g a) s1) E := by
  unfold mMap
  simp only [gt_bind, gt_ok]
theorem gs_ret {m : Mn D} : Gs (mRet m e s) Z = Gt (m e s) (fun d s1 => Z (.rt d s1)) (fun c x s1 => Z (.ex c x e s1)) := gs_E
theorem gs_drop {m : Mn D} : Gs (mDrop m e s) Z = Gt (m e s) (fun d s1 => Z (.nx e s1)) (fun c x s1 => Z (.ex c x e s1)) := gs_E
theorem gs_if {m : Mn Bool} {a b : Ms} : Gs (mIfS m a b e s) Z = Gt (m e s) (fun k s1 => Bo k (Gs (a e s1) Z) (Gs (b e s1) Z)) (fun c x s1 => Z (.ex c x e s1)) := by
  unfold mIfS
  rw [gs_E]
  congr 1
  funext k s1
  cases k <;> simp [Bo]
theorem gs_bind {p : Pat} {m : Mn D} : Gs (mBind p m e s) Z = Gt (m e s) (fun d s1 => Bp p d e fun e1 => Z (.nx e1 s1)) (fun c x s1 => Z (.ex c x e s1)) := by
  unfold mBind
  rw [gs_E]
  congr 1
  funext d s1
  unfold Bp
  cases bindP p d e <;> rfl
theorem gs_par {a b : Mn Sl} : Gs (mPar i j a b e s) Z = Gt (a e s) (fun y s1 => Gt (b e s1) (fun z s2 => Pu e i y fun e1 => Pu e1 j z fun e2 => Z (.nx e2 s2)) (fun c x s1 => Z (.ex c x e s1))) (fun c x s1 => Z (.ex c x e s1)) := by
  unfold mPar
  rw [gs_E]
  congr 1
  funext y s1
  rw [gs_E]
  rfl
theorem gs_par3 {l : Nat} {a b c : Mn Sl} : Gs (mPar3 i j l a b c e s) Z = Gt (a e s) (fun y s1 => Gt (b e s1) (fun z s2 => Gt (c e s2) (fun u s3 => Pu e i y fun e1 => Pu e1 j z fun e2 => Pu e2 l u fun e3 => Z (.nx e3 s3)) (fun c x s1 => Z (.ex c x e s1))) (fun c x s1 => Z (.ex c x e s1))) (fun c x s1 => Z (.ex c x e s1)) := by
  unfold mPar3
  rw [gs_E]
  congr 1
  funext y s1
  rw [gs_E]
  congr 1
  funext z s2
  rw [gs_E]
  rfl
theorem gs_for {m : Mn (List D)} {p : Pat} {b : Ms} : Gs (mFor m p b e s) Z = Gt (m e s) (fun xs s1 => Gs (forGo p b xs e s1) Z) (fun c x s1 => Z (.ex c x e s1)) := by
  unfold mFor
  cases m e s <;> rfl
def Fg (p : Pat) (b : Ms) (r : List D) (Z : Sr → Prop) : Sr → Prop
  | .nx e s => Gs (forGo p b r e s) Z
  | .ct e s => Gs (forGo p b r e s) Z
  | .bk e s => Z (.nx e s)
  | .rt d s => Z (.rt d s)
  | .ex c x e s => Z (.ex c x e s)
  | .no => False
theorem gs_go0 {p : Pat} {b : Ms} : Gs (forGo p b [] e s) Z = Z (.nx e s) := rfl
theorem gs_go1 {p : Pat} {b : Ms} {d : D} {r : List D} : Gs (forGo p b (d :: r) e s) Z = Bp p d e fun e1 => Gs (b e1 s) fun q => Fg p b r Z q := by
  rw [forGo]
  unfold Bp
  cases bindP p d e with
  | none => rfl
  | some e1 =>
    show Gs (match b e1 s with
      | .nx e2 s2 => forGo p b r e2 s2
      | .ct e2 s2 => forGo p b r e2 s2
      | .bk e2 s2 => .nx e2 s2
      | .rt d s2 => .rt d s2
      | .ex c x e2 s2 => .ex c x e2 s2
      | .no => .no) Z = Gs (b e1 s) _
    cases b e1 s <;> rfl
theorem fg_nx {p : Pat} {b : Ms} {r : List D} : Fg p b r Z (.nx e s) = Gs (forGo p b r e s) Z := rfl
theorem fg_ct {p : Pat} {b : Ms} {r : List D} : Fg p b r Z (.ct e s) = Gs (forGo p b r e s) Z := rfl
theorem fg_bk {p : Pat} {b : Ms} {r : List D} : Fg p b r Z (.bk e s) = Z (.nx e s) := rfl
theorem fg_rt {p : Pat} {b : Ms} {r : List D} {d : D} : Fg p b r Z (.rt d s) = Z (.rt d s) := rfl
theorem gs_frz {m : Ms} : Gs (mFrz i m e s) Z = Fe e i fun e1 => Gs (m e1 s) Z := rfl
theorem frz_s {y : Sl} {r : Sg} : frz (i + 1) (y :: r) = y :: frz i r := by
  unfold frz
  rw [List.getElem?_cons_succ]
  cases r[i]? with
  | none => rfl
  | some z => cases z <;> rfl
theorem fe_s {K : Sg → Prop} : Fe (y :: e) (i + 1) K = Fe e i fun r => K (y :: r) := by
  unfold Fe
  rw [frz_s]
theorem fe_l {K : Sg → Prop} {xs : List D} : Fe (.l xs :: e) 0 K = K (.d (.list xs) :: e) := rfl
theorem fe_k {K : Sg → Prop} {xs : List (D × D)} : Fe (.k xs :: e) 0 K = K (.d (.dict xs) :: e) := rfl
theorem fe_t {K : Sg → Prop} {xs : List (D × D)} : Fe (.t xs :: e) 0 K = K (.d (.dict ((.none, .none) :: xs)) :: e) := rfl
theorem fe_d {K : Sg → Prop} {x : D} : Fe (.d x :: e) 0 K = K (.d x :: e) := rfl
theorem gs_apd {m : Mn D} : Gs (mApd i m e s) Z = At e i fun y => Vl y fun xs => Gt (m e s) (fun d s1 => xs.length < 16777216 ∧ Pu e i (.l (xs ++ [d])) fun e1 => Z (.nx e1 s1)) (fun c x s1 => Z (.ex c x e s1)) := by
  unfold mApd mOwnL At Ox
  cases e[i]? with
  | none => rfl
  | some y =>
    cases y with
    | l xs =>
      show Gs (mE _ _ e s) Z = _
      rw [gs_E]
      show Gt _ _ _ = Gt _ _ _
      congr 1
      funext d s1
      by_cases h : xs.length < 16777216
      · rw [decide_eq_true h, if_pos rfl]
        simp only [h, true_and]
        rfl
      · rw [decide_eq_false h, if_neg (by simp)]
        simp only [h, false_and]
        rfl
    | _ => rfl
theorem gs_putT {mv : Mn D} {mk : Mn (List D)} : Gs (mPutT i mv mk e s) Z = Gt (mv e s) (fun d s1 => At e i fun y => Vt y fun kvs => Gt (mk e s1) (fun k s2 => Ox (k.mapM keyOf) fun κ => kvs.length < 16777216 ∧ Pu e i (.t (putT kvs κ d)) fun e1 => Z (.nx e1 s2)) (fun c x s1 => Z (.ex c x e s1))) (fun c x s1 => Z (.ex c x e s1)) := by
  unfold mPutT
  rw [gs_E]
  congr 1
  funext d s1
  unfold mOwnT At
  cases e[i]? with
  | none => rfl
  | some y =>
    cases y with
    | t kvs =>
      show Gs (mE _ _ e s1) Z = Gt (mk e s1) _ _
      rw [gs_E]
      congr 1
      funext k s2
      cases k.mapM keyOf with
      | none => rfl
      | some κ =>
        show Gs (if decide (kvs.length < 16777216) = true then _ else _) Z = (kvs.length < 16777216 ∧ _)
        by_cases h : kvs.length < 16777216
        · rw [decide_eq_true h, if_pos rfl]
          simp only [h, true_and]
          rfl
        · rw [decide_eq_false h, if_neg (by simp)]
          simp only [h, false_and]
          rfl
    | _ => rfl
theorem gs_srcPut {g : Src → Int → Src} {m : Mn D} : Gs (mSrcPut i g m e s) Z = Gt (m e s) (fun d s1 => Ox (intD d) fun k => At e i fun y => Vs y (Z (.nx e (g s1 k)))) (fun c x s1 => Z (.ex c x e s1)) := by
  unfold mSrcPut
  rw [gs_E]
  congr 1
  funext d s1
  cases d with
  | int k =>
    show Gs (if isSrc e i = true then _ else _) Z = At e i fun y => Vs y _
    unfold isSrc At Ox
    cases e[i]? with
    | none => rfl
    | some y => cases y <;> rfl
  | _ => rfl
/-! defs -/
theorem run_ok {n : Nat} {m : Ms} {as : List Ar} {e0 : Sg} {v : D} {s s1 : Src} (h : Gs (m e0 s) fun r => r = .rt v s1) (he : as.map arSl ++ List.replicate (n - as.length) .un = e0 := by rfl) : runF n m as s = .ok v s1 := by
  unfold runF
  rw [he]
  cases q : m e0 s with
  | rt d s2 => rw [q] at h; have h : Sr.rt d s2 = .rt v s1 := h; cases h; rfl
  | no => rw [q] at h; exact h.elim
  | nx e1 s2 => rw [q] at h; have h : Sr.nx e1 s2 = .rt v s1 := h; cases h
  | bk e1 s2 => rw [q] at h; have h : Sr.bk e1 s2 = .rt v s1 := h; cases h
  | ct e1 s2 => rw [q] at h; have h : Sr.ct e1 s2 = .rt v s1 := h; cases h
  | ex c x e1 s2 => rw [q] at h; have h : Sr.ex c x e1 s2 = .rt v s1 := h; cases h
theorem run_ex {n : Nat} {m : Ms} {as : List Ar} {e0 : Sg} {s : Src} {P : D → Src → Prop} (h : Gs (m e0 s) fun r => ∃ v s1, r = .rt v s1 ∧ P v s1) (he : as.map arSl ++ List.replicate (n - as.length) .un = e0 := by rfl) : ∃ v s1, runF n m as s = .ok v s1 ∧ P v s1 := by
  unfold runF
  rw [he]
  cases q : m e0 s with
  | rt d s2 => rw [q] at h; obtain ⟨v, s1, e1, h2⟩ := h; cases e1; exact ⟨_, _, rfl, h2⟩
  | no => rw [q] at h; exact h.elim
  | nx e1 s2 => rw [q] at h; obtain ⟨v, s1, e1, h2⟩ := h; cases e1
  | bk e1 s2 => rw [q] at h; obtain ⟨v, s1, e1, h2⟩ := h; cases e1
  | ct e1 s2 => rw [q] at h; obtain ⟨v, s1, e1, h2⟩ := h; cases e1
  | ex c x e1 s2 => rw [q] at h; obtain ⟨v, s1, e1, h2⟩ := h; cases e1
theorem gs_mono {r : Sr} {Z Z' : Sr → Prop} (h : Gs r Z) (k : ∀ r, Z r → Z' r) : Gs r Z' := by
  cases r with
  | no => exact h
  | nx e s => exact k _ h
  | bk e s => exact k _ h
  | ct e s => exact k _ h
  | rt d s => exact k _ h
  | ex c x e s => exact k _ h
/-- for, by what stands after so many -/
theorem gs_goI {p : Pat} {b : Ms} (I : Nat → Sg → Src → Prop) : ∀ (xs : List D) (k : Nat) (e : Sg) (s : Src), I k e s → (∀ i x e s, xs[i]? = some x → I (k + i) e s → Bp p x e fun e1 => Gs (b e1 s) fun r => match r with
    | .nx e2 s2 => I (k + i + 1) e2 s2
    | .ct e2 s2 => I (k + i + 1) e2 s2
    | .rt d s2 => Z (.rt d s2)
    | _ => False) → (∀ e s, I (k + xs.length) e s → Z (.nx e s)) → Gs (forGo p b xs e s) Z
  | [], k, e, s, h, _, z => z e s h
  | x :: xs, k, e, s, h, hs, z => by
    rw [gs_go1]
    have h1 := hs 0 x e s rfl h
    unfold Bp at h1 ⊢
    cases hb : bindP p x e with
    | none => rw [hb] at h1; exact h1.elim
    | some e1 =>
      rw [hb, ox_some] at h1
      refine gs_mono h1 fun r hr => ?_
      have rest : ∀ e2 s2, I (k + 1) e2 s2 → Gs (forGo p b xs e2 s2) Z := fun e2 s2 hi => gs_goI I xs (k + 1) e2 s2 hi (fun i y e s hy hI => by
        have := hs (i + 1) y e s hy (by rw [show k + (i + 1) = k + 1 + i by omega]; exact hI)
        rw [show k + (i + 1) + 1 = k + 1 + i + 1 by omega] at this
        exact this) (fun e s hI => z e s (by rw [List.length_cons, show k + (xs.length + 1) = k + 1 + xs.length by omega]; exact hI))
      cases r with
      | nx e2 s2 => exact rest e2 s2 hr
      | ct e2 s2 => exact rest e2 s2 hr
      | rt d s2 => exact hr
      | bk e2 s2 => exact hr.elim
      | ex c x e2 s2 => exact hr.elim
      | no => exact hr.elim
end

/-! ### operations -/
section
variable {K : D → Prop} {i j : Int}
theorem mul_r (h1 : -18446744073709551616 < j) (h2 : j < 18446744073709551616) : mulB i j = true := by
  unfold mulB smB
  rw [decide_eq_true h1, decide_eq_true h2]
  rfl
theorem mul_w (h1 : i.natAbs < 2 ^ 1000) (h2 : j.natAbs < 2 ^ 1000) : mulB i j = true := by
  have l : ∀ x : Int, x.natAbs < 2 ^ 1000 → x.natAbs.log2 < 1000 := fun x h => by
    by_cases h0 : x.natAbs = 0
    · rw [h0]; decide
    · exact (Nat.log2_lt h0).mpr h
  unfold mulB
  rw [decide_eq_true (show i.natAbs.log2 + j.natAbs.log2 < 1000000 by have := l i h1; have := l j h2; omega)]
  simp
theorem mul_l (h1 : -18446744073709551616 < i) (h2 : i < 18446744073709551616) : mulB i j = true := by
  unfold mulB smB
  rw [decide_eq_true h1, decide_eq_true h2]
  simp
theorem ox_ite {α : Type} {c : Bool} {a : α} {T : α → Prop} : Ox (if c = true then some a else none) T = (c = true ∧ T a) := by cases c <;> simp [Ox]
theorem ox_add : Ox (dAdd (.int i) (.int j)) K = K (.int (i + j)) := rfl
theorem ox_addL {a b : List D} : Ox (dAdd (.list a) (.list b)) K = (szB (a.length + b.length) = true ∧ K (.list (a ++ b))) := ox_ite
theorem ox_addT {a b : List D} : Ox (dAdd (.tuple a) (.tuple b)) K = (szB (a.length + b.length) = true ∧ K (.tuple (a ++ b))) := ox_ite
theorem ox_sub : Ox (dSub (.int i) (.int j)) K = K (.int (i - j)) := rfl
theorem ox_mul (h : mulB i j = true) : Ox (dMul (.int i) (.int j)) K = K (.int (i * j)) := by
  show Ox (if mulB i j = true then some (PyData.int (i * j)) else none) K = _
  rw [if_pos h]
  rfl
theorem ox_mulC : Ox (dMul (.int i) (.int j)) K = (mulB i j = true ∧ K (.int (i * j))) := ox_ite
theorem ox_div (h1 : 0 < j) (h2 : j < 18446744073709551616) : Ox (dDiv (.int i) (.int j)) K = K (.int (i / j)) := by
  have h : divB j = true := by
    unfold divB
    rw [decide_eq_true h1, Bool.true_and]
    refine decide_eq_true ?_
    have q : j.natAbs < 2 ^ 64 := by omega
    have := (Nat.log2_lt (by omega : j.natAbs ≠ 0)).mpr q
    omega
  show Ox (if divB j = true then some (PyData.int (i / j)) else _) K = _
  rw [if_pos h]
  rfl
theorem ox_mod (h1 : 0 < j) : Ox (dMod (.int i) (.int j)) K = K (.int (i % j)) := by
  show Ox (if decide (0 < j) = true then some (PyData.int (i % j)) else _) K = _
  rw [if_pos (decide_eq_true h1)]
  rfl
theorem ox_neg : Ox (dNeg (.int i)) K = K (.int (-i)) := rfl
theorem ox_lt : Ox (dLt (.int i) (.int j)) K = K (.bool (decide (i < j))) := rfl
theorem ox_le : Ox (dLe (.int i) (.int j)) K = K (.bool (decide (i ≤ j))) := rfl
theorem ox_gt : Ox (dGt (.int i) (.int j)) K = K (.bool (decide (j < i))) := rfl
theorem ox_ge : Ox (dGe (.int i) (.int j)) K = K (.bool (decide (j ≤ i))) := rfl
theorem ox_eq : Ox (dEq (.int i) (.int j)) K = K (.bool (decide (i = j))) := rfl
theorem ox_ne : Ox (dNe (.int i) (.int j)) K = K (.bool (!decide (i = j))) := rfl
theorem ox_eqS {x y : Str} : Ox (dEq (.str x) (.str y)) K = K (.bool (decide (x = y))) := rfl
theorem ox_neS {x y : Str} : Ox (dNe (.str x) (.str y)) K = K (.bool (!decide (x = y))) := rfl
theorem ox_eqL {a b : List D} : Ox (dEq (.list a) (.list b)) K = ((shB (.list a) && shB (.list b)) = true ∧ K (.bool (PyData.eqvAll a b))) := by
  show Ox (if _ = true then some (PyData.bool (PyData.eqv (.list a) (.list b))) else none) K = _
  rw [ox_ite]
  simp only [PyData.eqv]
theorem ox_neL {a b : List D} : Ox (dNe (.list a) (.list b)) K = ((shB (.list a) && shB (.list b)) = true ∧ K (.bool (!PyData.eqvAll a b))) := by
  show Ox (if _ = true then some (PyData.bool (!PyData.eqv (.list a) (.list b))) else none) K = _
  rw [ox_ite]
  simp only [PyData.eqv]
theorem ox_eqT {a b : List D} : Ox (dEq (.tuple a) (.tuple b)) K = ((shB (.tuple a) && shB (.tuple b)) = true ∧ K (.bool (PyData.eqvAll a b))) := by
  show Ox (if _ = true then some (PyData.bool (PyData.eqv (.tuple a) (.tuple b))) else none) K = _
  rw [ox_ite]
  simp only [PyData.eqv]
theorem ox_neT {a b : List D} : Ox (dNe (.tuple a) (.tuple b)) K = ((shB (.tuple a) && shB (.tuple b)) = true ∧ K (.bool (!PyData.eqvAll a b))) := by
  show Ox (if _ = true then some (PyData.bool (!PyData.eqv (.tuple a) (.tuple b))) else none) K = _
  rw [ox_ite]
  simp only [PyData.eqv]
/-- xs[i] -/
theorem ox_ix {ds : List D} {n : Nat} (h : n < ds.length) : Ox (dIx (.list ds) (.int n)) K = Nt ds n K := by
  show Ox (L2.atI ds n) K = _
  unfold L2.atI
  have e : ixN ds.length (n : Int) = some n := by
    unfold ixN
    rw [if_pos (by omega), if_pos (by omega)]
    rfl
  rw [e]
  rfl
theorem ox_ixT {ds : List D} {n : Nat} (h : n < ds.length) : Ox (dIx (.tuple ds) (.int n)) K = Nt ds n K := ox_ix (ds := ds) h
theorem ox_ix0 {d : D} {ds : List D} : Ox (dIx (.list (d :: ds)) (.int 0)) K = K d := by
  rw [show (0 : Int) = ((0 : Nat) : Int) from rfl, ox_ix (by simp)]; rfl
theorem ox_ix1 {d d1 : D} {ds : List D} : Ox (dIx (.list (d :: d1 :: ds)) (.int 1)) K = K d1 := by
  rw [show (1 : Int) = ((1 : Nat) : Int) from rfl, ox_ix (by simp)]; rfl
theorem ox_ix2 {d d1 d2 : D} {ds : List D} : Ox (dIx (.list (d :: d1 :: d2 :: ds)) (.int 2)) K = K d2 := by
  rw [show (2 : Int) = ((2 : Nat) : Int) from rfl, ox_ix (by simp)]; rfl
theorem ox_ix3 {d d1 d2 d3 : D} {ds : List D} : Ox (dIx (.list (d :: d1 :: d2 :: d3 :: ds)) (.int 3)) K = K d3 := by
  rw [show (3 : Int) = ((3 : Nat) : Int) from rfl, ox_ix (by simp)]; rfl
theorem ox_ixT0 {d : D} {ds : List D} : Ox (dIx (.tuple (d :: ds)) (.int 0)) K = K d := ox_ix0
theorem ox_ixT1 {d d1 : D} {ds : List D} : Ox (dIx (.tuple (d :: d1 :: ds)) (.int 1)) K = K d1 := ox_ix1
theorem ox_ixT2 {d d1 d2 : D} {ds : List D} : Ox (dIx (.tuple (d :: d1 :: d2 :: ds)) (.int 2)) K = K d2 := ox_ix2
theorem ox_ixT3 {d d1 d2 d3 : D} {ds : List D} : Ox (dIx (.tuple (d :: d1 :: d2 :: d3 :: ds)) (.int 3)) K = K d3 := ox_ix3
theorem ox_pow {k : Nat} (h1 : k ≤ 1000) (h2 : i.natAbs < 18446744073709551616) : Ox (dPow (.int i) (.int k)) K = K (.int (i ^ k)) := by
  show Ox (if (decide (0 ≤ (k : Int)) && decide ((k : Int) ≤ 1000) && decide (i.natAbs < 18446744073709551616)) = true then some (PyData.int (i ^ (k : Int).toNat)) else none) K = _
  rw [decide_eq_true (by omega), decide_eq_true (by omega), decide_eq_true h2]
  rfl
theorem ox_pow20 : Ox (dPow (.int 10) (.int 20)) K = K (.int 100000000000000000000) := by
  have := ox_pow (K := K) (i := 10) (k := 20) (by omega) (by decide)
  exact this
/-! built-ins -/
theorem ox_lenL {ds : List D} : Ox (dLen [.list ds]) K = K (.int ds.length) := rfl
theorem ox_lenT {ds : List D} : Ox (dLen [.tuple ds]) K = K (.int ds.length) := rfl
theorem ox_int : Ox (dInt [.int i]) K = K (.int i) := rfl
theorem ox_abs : Ox (dAbs [.int i]) K = K (.int (absI i)) := rfl
theorem ox_max : Ox (dMax [.int i, .int j]) K = K (.int (if j > i then j else i)) := rfl
theorem ox_min : Ox (dMin2 [.int i, .int j]) K = K (.int (if j < i then j else i)) := rfl
theorem ox_tup {ds : List D} : Ox (dTuple [.list ds]) K = K (.tuple ds) := rfl
theorem ox_tupT {ds : List D} : Ox (dTuple [.tuple ds]) K = K (.tuple ds) := rfl
theorem ox_list {ds : List D} {T : List D → Prop} : Ox (dListL [.list ds]) T = T ds := rfl
theorem ox_listT {ds : List D} {T : List D → Prop} : Ox (dListL [.tuple ds]) T = T ds := rfl
theorem ox_repr {d : D} : Ox (dRepr [d]) K = (textOk d = true ∧ K (.str d.shown)) := ox_ite
end
end Pt

/-! Pt L: what is drawn; loops by lists. -/
namespace Pt
open PySem PySem.Spec PyProof.Rows L2

/-! ### what is drawn -/
def cPick : Mn Bool := mAndT (mTst (mBin dGt (mVar 1) (mC (.int 1)))) (mAndT (mTst (mBin dLt (mSrcI 0 Src.left) (mC (.int 2)))) (mTst (mBin dGt (mSrcLen 0) (mC (.int 0)))))
noncomputable def mPick : Ms :=
    (mSeq (mWhile cPick (mSrcPop 0))
    (mSeq (mPut 2 (mMap Sl.d (mSrcI 0 Src.left)))
    (mSeq (mIfS (mOrT (mTst (mBin dLt (mVar 1) (mC (.int 2)))) (mTst (mBin dGt (mVar 2) (mC (.int 1))))) (mSeq (mSrcPut 0 (fun s k => { s with left := k }) (mBin dDiv (mVar 2) (mCall dMax (mCons (mC (.int 1)) (mCons (mVar 1) mNil)))))
    (mRet (mBin dMod (mCall dInt (mCons (mVar 2) mNil)) (mCall dMax (mCons (mC (.int 1)) (mCons (mVar 1) mNil)))))) mSkip)
    (mSeq (mSrcPut 0 (fun s k => { s with turn := k }) (mBin dAdd (mSrcI 0 Src.turn) (mC (.int 1))))
    (mSeq (mPut 3 (mMap Sl.d (mBin dMod (mCall dInt (mCons (mBin dAdd (mSrcI 0 Src.mixed) (mBin dMul (mSrcI 0 Src.turn) (mC (.int 104729)))) mNil)) (mC (.int 998244353)))))
    (mSeq (mPut 3 (mMap Sl.d (mBin dMod (mCall dInt (mCons (mBin dAdd (mBin dMul (mVar 3) (mVar 3)) (mBin dMul (mSrcI 0 Src.turn) (mC (.int 17)))) mNil)) (mC (.int 2147483647)))))
    (mSeq (mSrcPut 0 (fun s k => { s with mixed := k }) (mVar 3))
    (mRet (mBin dMod (mCall dInt (mCons (mBin dDiv (mVar 3) (mC (.int 16))) mNil)) (mVar 1))))))))))
noncomputable def F_pick : Fs := runF 4 mPick
def ePick (n : Int) : Sg := [.src, .d (.int n), .un, .un]
theorem c_pick (n : Int) (s : Src) : cPick (ePick n) s = .ok (decide (1 < n) && (decide (s.left < 2) && decide ((0 : Int) < s.cells.length))) s := by
  have h : Gt (cPick (ePick n) s) (fun b s1 => b = (decide (1 < n) && (decide (s.left < 2) && decide ((0 : Int) < s.cells.length))) ∧ s1 = s) F0 := by
    unfold cPick
    simp only [↓Pt.gt_ok, ↓Pt.gt_bind, ↓Pt.gt_lift, ↓Pt.at_0, ↓Pt.at_s, ↓Pt.nt_0, ↓Pt.nt_s, ↓Pt.vd_d, ↓Pt.vd_h, ↓Pt.vo_l, ↓Pt.vo_k, ↓Pt.vo_t, ↓Pt.vl_l, ↓Pt.vs_s, ↓Pt.pu_0, ↓Pt.pu_s, ↓Pt.wi_0, ↓Pt.wi_s, ↓Pt.bp_n, ↓Pt.bp_t, ↓Pt.bp_l, ↓Pt.bps_0, ↓Pt.bps_s, ↓Pt.bo_t, ↓Pt.bo_f, ↓Pt.bo_not, ↓Pt.gt_var, ↓Pt.gt_own, ↓Pt.gt_c, ↓Pt.gt_bin, ↓Pt.gt_un, ↓Pt.gt_tst, ↓Pt.gt_andT, ↓Pt.gt_orT, ↓Pt.gt_notT, ↓Pt.gt_and, ↓Pt.gt_or, ↓Pt.gt_not, ↓Pt.gt_if, ↓Pt.gt_chain, ↓Pt.gt_nil, ↓Pt.gt_cons, ↓Pt.gt_consA, ↓Pt.gt_consS, ↓Pt.gt_tup, ↓Pt.gt_lst, ↓Pt.gt_fz, ↓Pt.gt_fzD, ↓Pt.gt_call, ↓Pt.gt_callL, ↓Pt.gt_callK, ↓Pt.gt_app, ↓Pt.gt_sl, ↓Pt.gt_none, ↓Pt.gt_some, ↓Pt.ls_l, ↓Pt.gt_rev, ↓Pt.gt_sq, ↓Pt.ox_some, ↓Pt.seq_l, ↓Pt.seq_t, ↓Pt.tst_b, ↓Pt.intD_i, ↓Pt.z1_i, ↓Pt.z2_i, ↓Pt.gt_rg1, ↓Pt.gt_rg1J, ↓Pt.gt_rg2, ↓Pt.gt_srcI, ↓Pt.gt_srcLen, ↓Pt.gt_lc, ↓Pt.gt_yes, ↓Pt.gl_nil, ↓Pt.gl_cons, ↓Pt.gl_ok, ↓Pt.vh_h, ↓Pt.vt_t, ↓Pt.gt_ht, ↓Pt.gt_tupL, ↓Pt.lst_l, ↓Pt.gt_newD, ↓Pt.tag_t, ↓Pt.gt_get2T, ↓Pt.key_3, ↓Pt.zp_l, ↓Pt.zp_t, ↓Pt.gt_zip, ↓Pt.pair_0, ↓Pt.pair_s, ↓Pt.gs_seq, ↓Pt.sq_nx, ↓Pt.sq_rt, ↓Pt.sq_bk, ↓Pt.sq_ct, ↓Pt.sq_ex, ↓Pt.gs_skip, ↓Pt.gs_brk, ↓Pt.gs_cnt, ↓Pt.gs_nx, ↓Pt.gs_put, ↓Pt.gs_putZ, ↓Pt.gt_map, ↓Pt.gs_ret, ↓Pt.gs_drop, ↓Pt.gs_if, ↓Pt.gs_bind, ↓Pt.gs_par, ↓Pt.gs_par3, ↓Pt.gs_for, ↓Pt.fg_nx, ↓Pt.fg_ct, ↓Pt.fg_bk, ↓Pt.fg_rt, ↓Pt.gs_frz, ↓Pt.fe_s, ↓Pt.fe_l, ↓Pt.fe_k, ↓Pt.fe_t, ↓Pt.fe_d, ↓Pt.gs_apd, ↓Pt.gs_putT, ↓Pt.gs_srcPut, ↓Pt.ox_add, ↓Pt.ox_addL, ↓Pt.ox_addT, ↓Pt.ox_sub, ↓Pt.ox_mul, ↓Pt.ox_div, ↓Pt.ox_mod, ↓Pt.ox_neg, ↓Pt.ox_lt, ↓Pt.ox_le, ↓Pt.ox_gt, ↓Pt.ox_ge, ↓Pt.ox_eq, ↓Pt.ox_ne, ↓Pt.ox_eqS, ↓Pt.ox_neS, ↓Pt.ox_eqL, ↓Pt.ox_neL, ↓Pt.ox_eqT, ↓Pt.ox_neT, ↓Pt.ox_ix0, ↓Pt.ox_ix1, ↓Pt.ox_ix2, ↓Pt.ox_ix3, ↓Pt.ox_ixT0, ↓Pt.ox_ixT1, ↓Pt.ox_ixT2, ↓Pt.ox_ixT3, ↓Pt.ox_pow20, ↓Pt.ox_lenL, ↓Pt.ox_lenT, ↓Pt.ox_int, ↓Pt.ox_abs, ↓Pt.ox_max, ↓Pt.ox_min, ↓Pt.ox_tup, ↓Pt.ox_tupT, ↓Pt.ox_list, ↓Pt.ox_listT, ↓Pt.ox_repr, ePick]
    cases decide (1 < n) <;> cases decide (s.left < 2) <;> cases decide ((0 : Int) < s.cells.length) <;> simp [Bo]
  cases q : cPick (ePick n) s with
  | no => rw [q] at h; exact h.elim
  | ex c x s1 => rw [q] at h; exact h.elim
  | ok b s1 =>
    rw [q] at h
    obtain ⟨rfl, rfl⟩ := h
    rfl
theorem while_pick (n : Int) : ∀ (k : Nat) (s : Src), s.cells.length ≤ k → ∃ s1, whGo cPick (mSrcPop 0) (k + 1) (ePick n) s = .nx (ePick n) s1
  | k, s, h => by
    rw [whGo, c_pick]
    cases hc : (decide (1 < n) && (decide (s.left < 2) && decide ((0 : Int) < s.cells.length))) with
    | false => exact ⟨s, rfl⟩
    | true =>
      rw [Bool.and_eq_true, Bool.and_eq_true] at hc
      have h3 := of_decide_eq_true hc.2.2
      have h4 : mSrcPop 0 (ePick n) s = .nx (ePick n) (popS s) := by
        show (if (isSrc (ePick n) 0 && decide (0 < s.cells.length)) = true then _ else _) = _
        rw [if_pos]
        show (true && decide (0 < s.cells.length)) = true
        rw [decide_eq_true (by omega)]
        rfl
      cases k with
      | zero => omega
      | succ k =>
        have h5 : (popS s).cells.length ≤ k := by
          show s.cells.dropLast.length ≤ k
          rw [List.length_dropLast]
          omega
        obtain ⟨s1, e⟩ := while_pick n k (popS s) h5
        refine ⟨s1, ?_⟩
        show (match mSrcPop 0 (ePick n) s with
          | .nx e2 s2 => whGo cPick (mSrcPop 0) (k + 1) e2 s2
          | .ct e2 s2 => whGo cPick (mSrcPop 0) (k + 1) e2 s2
          | .bk e2 s2 => .nx e2 s2
          | .rt d s2 => .rt d s2
          | .ex c x e2 s2 => .ex c x e2 s2
          | .no => .no) = _
        rw [h4]
        exact e
theorem gs_while_pick (n : Int) (s : Src) : ∃ s1, mWhile cPick (mSrcPop 0) (ePick n) s = .nx (ePick n) s1 := by
  obtain ⟨s1, e⟩ := while_pick n s.cells.length s (Nat.le_refl _)
  refine ⟨s1, ?_⟩
  exact mWhile_eq (s.cells.length + 1) e (by intro z; cases z)
theorem pick_spec (n : Int) (s : Src) (h1 : 1 ≤ n) (h2 : n < 1000000) : ∃ v s1, F_pick [.src, .d (.int n)] s = .ok v s1 ∧ ∃ r, v = .int r ∧ 0 ≤ r ∧ r < n := by
  refine run_ex (e0 := ePick n) ?_
  obtain ⟨s1, e⟩ := gs_while_pick n s
  unfold mPick
  rw [gs_seq, e]
  have mx : (if n > 1 then n else 1) = n := by
    split <;> omega
  have hr : ∀ i : Int, 0 ≤ i % n ∧ i % n < n := fun i => ⟨Int.emod_nonneg _ (by omega), Int.emod_lt_of_pos _ (by omega)⟩
  have hm : ∀ a b : Int, mulB (a % 998244353) (a % 998244353) = true := fun a b => mul_r (by have := Int.emod_nonneg a (show (998244353 : Int) ≠ 0 by decide); omega) (by have := Int.emod_lt_of_pos a (show (0 : Int) < 998244353 by decide); omega)
  simp (disch := (first | omega | assumption | exact Pt.mul_r (by omega) (by omega) | exact Pt.mul_l (by omega) (by omega) | exact ml _ _ | decide)) only [↓Pt.gt_ok, ↓Pt.gt_bind, ↓Pt.gt_lift, ↓Pt.at_0, ↓Pt.at_s, ↓Pt.nt_0, ↓Pt.nt_s, ↓Pt.vd_d, ↓Pt.vd_h, ↓Pt.vo_l, ↓Pt.vo_k, ↓Pt.vo_t, ↓Pt.vl_l, ↓Pt.vs_s, ↓Pt.pu_0, ↓Pt.pu_s, ↓Pt.wi_0, ↓Pt.wi_s, ↓Pt.bp_n, ↓Pt.bp_t, ↓Pt.bp_l, ↓Pt.bps_0, ↓Pt.bps_s, ↓Pt.bo_t, ↓Pt.bo_f, ↓Pt.bo_not, ↓Pt.gt_var, ↓Pt.gt_own, ↓Pt.gt_c, ↓Pt.gt_bin, ↓Pt.gt_un, ↓Pt.gt_tst, ↓Pt.gt_andT, ↓Pt.gt_orT, ↓Pt.gt_notT, ↓Pt.gt_and, ↓Pt.gt_or, ↓Pt.gt_not, ↓Pt.gt_if, ↓Pt.gt_chain, ↓Pt.gt_nil, ↓Pt.gt_cons, ↓Pt.gt_consA, ↓Pt.gt_consS, ↓Pt.gt_tup, ↓Pt.gt_lst, ↓Pt.gt_fz, ↓Pt.gt_fzD, ↓Pt.gt_call, ↓Pt.gt_callL, ↓Pt.gt_callK, ↓Pt.gt_app, ↓Pt.gt_sl, ↓Pt.gt_none, ↓Pt.gt_some, ↓Pt.ls_l, ↓Pt.gt_rev, ↓Pt.gt_sq, ↓Pt.ox_some, ↓Pt.seq_l, ↓Pt.seq_t, ↓Pt.tst_b, ↓Pt.intD_i, ↓Pt.z1_i, ↓Pt.z2_i, ↓Pt.gt_rg1, ↓Pt.gt_rg1J, ↓Pt.gt_rg2, ↓Pt.gt_srcI, ↓Pt.gt_srcLen, ↓Pt.gt_lc, ↓Pt.gt_yes, ↓Pt.gl_nil, ↓Pt.gl_cons, ↓Pt.gl_ok, ↓Pt.vh_h, ↓Pt.vt_t, ↓Pt.gt_ht, ↓Pt.gt_tupL, ↓Pt.lst_l, ↓Pt.gt_newD, ↓Pt.tag_t, ↓Pt.gt_get2T, ↓Pt.key_3, ↓Pt.zp_l, ↓Pt.zp_t, ↓Pt.gt_zip, ↓Pt.pair_0, ↓Pt.pair_s, ↓Pt.gs_seq, ↓Pt.sq_nx, ↓Pt.sq_rt, ↓Pt.sq_bk, ↓Pt.sq_ct, ↓Pt.sq_ex, ↓Pt.gs_skip, ↓Pt.gs_brk, ↓Pt.gs_cnt, ↓Pt.gs_nx, ↓Pt.gs_put, ↓Pt.gs_putZ, ↓Pt.gt_map, ↓Pt.gs_ret, ↓Pt.gs_drop, ↓Pt.gs_if, ↓Pt.gs_bind, ↓Pt.gs_par, ↓Pt.gs_par3, ↓Pt.gs_for, ↓Pt.fg_nx, ↓Pt.fg_ct, ↓Pt.fg_bk, ↓Pt.fg_rt, ↓Pt.gs_frz, ↓Pt.fe_s, ↓Pt.fe_l, ↓Pt.fe_k, ↓Pt.fe_t, ↓Pt.fe_d, ↓Pt.gs_apd, ↓Pt.gs_putT, ↓Pt.gs_srcPut, ↓Pt.ox_add, ↓Pt.ox_addL, ↓Pt.ox_addT, ↓Pt.ox_sub, ↓Pt.ox_mul, ↓Pt.ox_div, ↓Pt.ox_mod, ↓Pt.ox_neg, ↓Pt.ox_lt, ↓Pt.ox_le, ↓Pt.ox_gt, ↓Pt.ox_ge, ↓Pt.ox_eq, ↓Pt.ox_ne, ↓Pt.ox_eqS, ↓Pt.ox_neS, ↓Pt.ox_eqL, ↓Pt.ox_neL, ↓Pt.ox_eqT, ↓Pt.ox_neT, ↓Pt.ox_ix0, ↓Pt.ox_ix1, ↓Pt.ox_ix2, ↓Pt.ox_ix3, ↓Pt.ox_ixT0, ↓Pt.ox_ixT1, ↓Pt.ox_ixT2, ↓Pt.ox_ixT3, ↓Pt.ox_pow20, ↓Pt.ox_lenL, ↓Pt.ox_lenT, ↓Pt.ox_int, ↓Pt.ox_abs, ↓Pt.ox_max, ↓Pt.ox_min, ↓Pt.ox_tup, ↓Pt.ox_tupT, ↓Pt.ox_list, ↓Pt.ox_listT, ↓Pt.ox_repr, ePick, mx, hm]
  have key : ∀ i : Int, ∃ v s1', Sr.rt (PyData.int (i % n)) s1 = .rt v s1' ∧ ∃ r, v = .int r ∧ 0 ≤ r ∧ r < n := fun i => ⟨_, _, rfl, _, rfl, hr i⟩
  have key2 : ∀ (i : Int) (s2 : Src), ∃ v s1', Sr.rt (PyData.int (i % n)) s2 = .rt v s1' ∧ ∃ r, v = .int r ∧ 0 ≤ r ∧ r < n := fun i s2 => ⟨_, _, rfl, _, rfl, hr i⟩
  constructor
  · intro _
    exact key2 _ _
  · intro _
    constructor
    · intro _
      exact key2 _ _
    · intro _
      exact key2 _ _
noncomputable def pickV (n : Int) (s : Src) : Int := match F_pick [.src, .d (.int n)] s with
  | .ok (.int r) _ => r
  | _ => 0
noncomputable def pickS (n : Int) (s : Src) : Src := match F_pick [.src, .d (.int n)] s with
  | .ok _ s1 => s1
  | _ => s
theorem pick_eq {n : Int} {s : Src} (h1 : 1 ≤ n) (h2 : n < 1000000) : F_pick [.src, .d (.int n)] s = .ok (.int (pickV n s)) (pickS n s) := by
  obtain ⟨v, s1, e, r, rfl, _⟩ := pick_spec n s h1 h2
  unfold pickV pickS
  rw [e]
theorem pick_in {n : Int} (s : Src) (h1 : 1 ≤ n) (h2 : n < 1000000) : 0 ≤ pickV n s ∧ pickV n s < n := by
  obtain ⟨v, s1, e, r, rfl, h3, h4⟩ := pick_spec n s h1 h2
  unfold pickV
  rw [e]
  exact ⟨h3, h4⟩
theorem gt_pick {n : Int} {s : Src} {P : D → Src → Prop} {E : Str → List (Str × D) → Src → Prop} (h1 : 1 ≤ n) (h2 : n < 1000000) : Gt (F_pick [.src, .d (.int n)] s) P E = P (.int (pickV n s)) (pickS n s) := gt_eq (pick_eq h1 h2)
/-- _law_of: one of a list -/
noncomputable def mOf : Ms := (mRet (mBin dIx (mVar 1) (mApp F_pick (mConsS 0 (mConsA (mCall dLen (mCons (mVar 1) mNil)) mNil)))))
noncomputable def F_of : Fs := runF 2 mOf
theorem of_spec (ds : List D) (s : Src) (h : (decide (1 ≤ ds.length) && decide (ds.length < 1000000)) = true) : ∃ v s1, F_of [.src, .d (.list ds)] s = .ok v s1 ∧ v ∈ ds := by
  rw [Bool.and_eq_true] at h
  have h1 := of_decide_eq_true h.1
  have h2 := of_decide_eq_true h.2
  refine run_ex (e0 := [.src, .d (.list ds)]) ?_
  have hp := pick_in (n := (ds.length : Int)) s (by omega) (by omega)
  obtain ⟨k, hk⟩ : ∃ k : Nat, pickV (ds.length : Int) s = k := ⟨(pickV (ds.length : Int) s).toNat, by omega⟩
  have hl : k < ds.length := by omega
  unfold mOf
  simp (disch := (first | omega | assumption | exact Pt.mul_r (by omega) (by omega) | exact Pt.mul_l (by omega) (by omega) | exact ml _ _ | decide)) only [↓Pt.gt_ok, ↓Pt.gt_bind, ↓Pt.gt_lift, ↓Pt.at_0, ↓Pt.at_s, ↓Pt.nt_0, ↓Pt.nt_s, ↓Pt.vd_d, ↓Pt.vd_h, ↓Pt.vo_l, ↓Pt.vo_k, ↓Pt.vo_t, ↓Pt.vl_l, ↓Pt.vs_s, ↓Pt.pu_0, ↓Pt.pu_s, ↓Pt.wi_0, ↓Pt.wi_s, ↓Pt.bp_n, ↓Pt.bp_t, ↓Pt.bp_l, ↓Pt.bps_0, ↓Pt.bps_s, ↓Pt.bo_t, ↓Pt.bo_f, ↓Pt.bo_not, ↓Pt.gt_var, ↓Pt.gt_own, ↓Pt.gt_c, ↓Pt.gt_bin, ↓Pt.gt_un, ↓Pt.gt_tst, ↓Pt.gt_andT, ↓Pt.gt_orT, ↓Pt.gt_notT, ↓Pt.gt_and, ↓Pt.gt_or, ↓Pt.gt_not, ↓Pt.gt_if, ↓Pt.gt_chain, ↓Pt.gt_nil, ↓Pt.gt_cons, ↓Pt.gt_consA, ↓Pt.gt_consS, ↓Pt.gt_tup, ↓Pt.gt_lst, ↓Pt.gt_fz, ↓Pt.gt_fzD, ↓Pt.gt_call, ↓Pt.gt_callL, ↓Pt.gt_callK, ↓Pt.gt_app, ↓Pt.gt_sl, ↓Pt.gt_none, ↓Pt.gt_some, ↓Pt.ls_l, ↓Pt.gt_rev, ↓Pt.gt_sq, ↓Pt.ox_some, ↓Pt.seq_l, ↓Pt.seq_t, ↓Pt.tst_b, ↓Pt.intD_i, ↓Pt.z1_i, ↓Pt.z2_i, ↓Pt.gt_rg1, ↓Pt.gt_rg1J, ↓Pt.gt_rg2, ↓Pt.gt_srcI, ↓Pt.gt_srcLen, ↓Pt.gt_lc, ↓Pt.gt_yes, ↓Pt.gl_nil, ↓Pt.gl_cons, ↓Pt.gl_ok, ↓Pt.vh_h, ↓Pt.vt_t, ↓Pt.gt_ht, ↓Pt.gt_tupL, ↓Pt.lst_l, ↓Pt.gt_newD, ↓Pt.tag_t, ↓Pt.gt_get2T, ↓Pt.key_3, ↓Pt.zp_l, ↓Pt.zp_t, ↓Pt.gt_zip, ↓Pt.pair_0, ↓Pt.pair_s, ↓Pt.gs_seq, ↓Pt.sq_nx, ↓Pt.sq_rt, ↓Pt.sq_bk, ↓Pt.sq_ct, ↓Pt.sq_ex, ↓Pt.gs_skip, ↓Pt.gs_brk, ↓Pt.gs_cnt, ↓Pt.gs_nx, ↓Pt.gs_put, ↓Pt.gs_putZ, ↓Pt.gt_map, ↓Pt.gs_ret, ↓Pt.gs_drop, ↓Pt.gs_if, ↓Pt.gs_bind, ↓Pt.gs_par, ↓Pt.gs_par3, ↓Pt.gs_for, ↓Pt.fg_nx, ↓Pt.fg_ct, ↓Pt.fg_bk, ↓Pt.fg_rt, ↓Pt.gs_frz, ↓Pt.fe_s, ↓Pt.fe_l, ↓Pt.fe_k, ↓Pt.fe_t, ↓Pt.fe_d, ↓Pt.gs_apd, ↓Pt.gs_putT, ↓Pt.gs_srcPut, ↓Pt.ox_add, ↓Pt.ox_addL, ↓Pt.ox_addT, ↓Pt.ox_sub, ↓Pt.ox_mul, ↓Pt.ox_div, ↓Pt.ox_mod, ↓Pt.ox_neg, ↓Pt.ox_lt, ↓Pt.ox_le, ↓Pt.ox_gt, ↓Pt.ox_ge, ↓Pt.ox_eq, ↓Pt.ox_ne, ↓Pt.ox_eqS, ↓Pt.ox_neS, ↓Pt.ox_eqL, ↓Pt.ox_neL, ↓Pt.ox_eqT, ↓Pt.ox_neT, ↓Pt.ox_ix0, ↓Pt.ox_ix1, ↓Pt.ox_ix2, ↓Pt.ox_ix3, ↓Pt.ox_ixT0, ↓Pt.ox_ixT1, ↓Pt.ox_ixT2, ↓Pt.ox_ixT3, ↓Pt.ox_pow20, ↓Pt.ox_lenL, ↓Pt.ox_lenT, ↓Pt.ox_int, ↓Pt.ox_abs, ↓Pt.ox_max, ↓Pt.ox_min, ↓Pt.ox_tup, ↓Pt.ox_tupT, ↓Pt.ox_list, ↓Pt.ox_listT, ↓Pt.ox_repr, ↓gt_pick, hk, ↓ox_ix]
  unfold Nt
  rw [List.getElem?_eq_getElem hl, ox_some]
  exact ⟨_, _, rfl, List.getElem_mem hl⟩
noncomputable def ofV (ds : List D) (s : Src) : D := match F_of [.src, .d (.list ds)] s with
  | .ok v _ => v
  | _ => .none
noncomputable def ofS (ds : List D) (s : Src) : Src := match F_of [.src, .d (.list ds)] s with
  | .ok _ s1 => s1
  | _ => s
theorem gt_of {ds : List D} {s : Src} {P : D → Src → Prop} {E : Str → List (Str × D) → Src → Prop} (h : (decide (1 ≤ ds.length) && decide (ds.length < 1000000)) = true) : Gt (F_of [.src, .d (.list ds)] s) P E = P (ofV ds s) (ofS ds s) := by
  obtain ⟨v, s1, e, h1⟩ := of_spec ds s h
  unfold ofV ofS
  rw [e]
  rfl
theorem of_mem (ds : List D) (s : Src) (h : (decide (1 ≤ ds.length) && decide (ds.length < 1000000)) = true) : ofV ds s ∈ ds := by
  obtain ⟨v, s1, e, h1⟩ := of_spec ds s h
  unfold ofV
  rw [e]
  exact h1

/-! ### loops by lists -/
section
variable {p : Pat} {b : Ms} {s : Src} {Z : Sr → Prop}
/-- for .. if ..: return .. -/
theorem gs_find (f : D → Option D) (I : Sg → Prop) : ∀ {xs : List D} {e : Sg}, I e → (∀ x ∈ xs, ∀ e, I e → Bp p x e fun e1 => Gs (b e1 s) fun r => (∃ d, f x = some d ∧ r = .rt d s) ∨ (f x = none ∧ ∃ e2, r = .nx e2 s ∧ I e2)) →
    (∀ d, xs.findSome? f = some d → Z (.rt d s)) → (xs.findSome? f = none → ∀ e', I e' → Z (.nx e' s)) → Gs (forGo p b xs e s) Z
  | [], e, h, _, _, h2 => h2 rfl e h
  | x :: xs, e, h, hs, h1, h2 => by
    rw [gs_go1]
    have q := hs x List.mem_cons_self e h
    unfold Bp at q ⊢
    cases hb : bindP p x e with
    | none => rw [hb] at q; exact q.elim
    | some e1 =>
      rw [hb, ox_some] at q
      rw [ox_some]
      refine gs_mono q fun r hr => ?_
      rcases hr with ⟨d, hd, rfl⟩ | ⟨hd, e2, rfl, he⟩
      · exact h1 d (by rw [List.findSome?_cons, hd])
      · rw [fg_nx]
        exact gs_find f I he (fun y hy => hs y (List.mem_cons_of_mem _ hy)) (fun d h => h1 d (by rw [List.findSome?_cons, hd]; exact h)) (fun h => h2 (by rw [List.findSome?_cons, hd]; exact h))
/-- for .. that gathers -/
theorem gs_fold {α : Type} (step : α → D → α) (I : α → Sg → Prop) : ∀ {xs : List D} {e : Sg} {a : α}, I a e → (∀ x ∈ xs, ∀ a e, I a e → Bp p x e fun e1 => Gs (b e1 s) fun r => ∃ e2, r = .nx e2 s ∧ I (step a x) e2) →
    (∀ e', I (xs.foldl step a) e' → Z (.nx e' s)) → Gs (forGo p b xs e s) Z
  | [], e, a, h, _, h2 => h2 e h
  | x :: xs, e, a, h, hs, h2 => by
    rw [gs_go1]
    have q := hs x List.mem_cons_self a e h
    unfold Bp at q ⊢
    cases hb : bindP p x e with
    | none => rw [hb] at q; exact q.elim
    | some e1 =>
      rw [hb, ox_some] at q
      rw [ox_some]
      refine gs_mono q fun r hr => ?_
      obtain ⟨e2, rfl, he⟩ := hr
      rw [fg_nx]
      exact gs_fold step I he (fun y hy => hs y (List.mem_cons_of_mem _ hy)) h2
/-- for .. with what is drawn in it: only the frame's shape stays -/
theorem gs_laps (I : Sg → Prop) : ∀ {xs : List D} {e : Sg} {s : Src}, I e → (∀ x ∈ xs, ∀ e s, I e → Bp p x e fun e1 => Gs (b e1 s) fun r => ∃ e2 s2, r = .nx e2 s2 ∧ I e2) → (∀ e s, I e → Z (.nx e s)) → Gs (forGo p b xs e s) Z
  | [], e, s, h, _, h2 => h2 e s h
  | x :: xs, e, s, h, hs, h2 => by
    rw [gs_go1]
    have q := hs x List.mem_cons_self e s h
    unfold Bp at q ⊢
    cases hb : bindP p x e with
    | none => rw [hb] at q; exact q.elim
    | some e1 =>
      rw [hb, ox_some] at q
      rw [ox_some]
      refine gs_mono q fun r hr => ?_
      obtain ⟨e2, s2, rfl, he⟩ := hr
      rw [fg_nx]
      exact gs_laps I he (fun y hy => hs y (List.mem_cons_of_mem _ hy)) h2
end
theorem rng_eq (n : Nat) : rangeL 0 1 n = (List.range n).map fun i => PyData.int (i : Nat) := by
  unfold rangeL
  refine List.map_congr_left fun i _ => ?_
  rw [Int.zero_add, Int.mul_one]
theorem rng_mem {n : Nat} {d : D} (h : d ∈ rangeL 0 1 n) : ∃ i : Nat, i < n ∧ d = .int i := by
  rw [rng_eq] at h
  obtain ⟨i, h1, h2⟩ := List.mem_map.mp h
  exact ⟨i, List.mem_range.mp h1, h2.symm⟩
theorem rng_at {n i : Nat} {d : D} (h : (rangeL 0 1 n)[i]? = some d) : i < n ∧ d = .int i := by
  obtain ⟨h1, h2⟩ := rangeL_get h
  exact ⟨h1, by rw [h2, Int.zero_add, Int.mul_one]⟩
/-- the same over range -/
theorem gs_findR {p : Pat} {b : Ms} {s : Src} {Z : Sr → Prop} {n : Nat} (f : Nat → Option D) (I : Sg → Prop) {e : Sg} (h : I e) (hs : ∀ i, i < n → ∀ e, I e → Bp p (.int (i : Nat)) e fun e1 => Gs (b e1 s) fun r => (∃ d, f i = some d ∧ r = .rt d s) ∨ (f i = none ∧ ∃ e2, r = .nx e2 s ∧ I e2))
    (h1 : ∀ d, (List.range n).findSome? f = some d → Z (.rt d s)) (h2 : (List.range n).findSome? f = none → ∀ e', I e' → Z (.nx e' s)) : Gs (forGo p b (rangeL 0 1 n) e s) Z := by
  let f' : D → Option D := fun d => match d with | .int i => f i.toNat | _ => none
  have e1 : (rangeL 0 1 n).findSome? f' = (List.range n).findSome? f := by
    rw [rng_eq, List.findSome?_map]
    rfl
  refine gs_find f' I h (fun x hx e he => ?_) (fun d hd => h1 d (e1 ▸ hd)) (fun hd => h2 (e1 ▸ hd))
  have q := rng_mem hx
  obtain ⟨i, q⟩ := q
  have q2 := q.2
  subst q2
  exact hs i q.1 e he
/-- a comprehension over range -/
theorem lc_rng {p : Pat} {mt : Mn Bool} {me : Mn D} {e : Sg} {s : Src} {n : Nat} (t : Nat → Bool) (f : Nat → D) (h : ∀ i, i < n → Bp p (.int (i : Nat)) e fun e1 => Gt (mt e1 s) (fun k s1 => k = t i ∧ s1 = s ∧ (t i = true → Gt (me e1 s) (fun y s2 => y = f i ∧ s2 = s) F0)) F0) :
    lcGo p mt me (rangeL 0 1 n) e s = .ok (((List.range n).filter t).map f) s := by
  let t' : D → Bool := fun d => match d with | .int i => t i.toNat | _ => false
  let f' : D → D := fun d => match d with | .int i => f i.toNat | _ => .none
  have e1 : (rangeL 0 1 n).filter t' = ((List.range n).filter t).map fun i => PyData.int (i : Nat) := by
    rw [rng_eq, List.filter_map]
    rfl
  rw [lc_pure t' f' _ fun x hx => ?_, e1, List.map_map]
  · rfl
  · obtain ⟨i, hi, rfl⟩ := rng_mem hx
    exact h i hi

/-! ### sums -/
def nsum : Nat → (Nat → Nat) → Nat
  | 0, _ => 0
  | n + 1, f => nsum n f + f n
def b01 (b : Bool) : Nat := if b = true then 1 else 0
theorem nsum_congr {f g : Nat → Nat} : ∀ {n : Nat}, (∀ i, i < n → f i = g i) → nsum n f = nsum n g
  | 0, _ => rfl
  | n + 1, h => by
    rw [nsum, nsum, nsum_congr fun i hi => h i (by omega), h n (by omega)]
theorem nsum_le {f : Nat → Nat} {m : Nat} : ∀ {n : Nat}, (∀ i, i < n → f i ≤ m) → nsum n f ≤ n * m
  | 0, _ => Nat.zero_le _
  | n + 1, h => by
    rw [nsum, Nat.succ_mul]
    exact Nat.add_le_add (nsum_le fun i hi => h i (by omega)) (h n (by omega))
theorem b01_le (b : Bool) : b01 b ≤ 1 := by cases b <;> simp [b01]
theorem nsum_pos {f : Nat → Nat} : ∀ {n : Nat}, 0 < nsum n f → ∃ i, i < n ∧ 0 < f i
  | 0, h => absurd h (by simp [nsum])
  | n + 1, h => by
    rw [nsum] at h
    by_cases q : 0 < f n
    · exact ⟨n, by omega, q⟩
    · obtain ⟨i, h1, h2⟩ := nsum_pos (f := f) (n := n) (by omega)
      exact ⟨i, by omega, h2⟩
theorem filter_len (t : Nat → Bool) : ∀ n : Nat, ((List.range n).filter t).length = nsum n fun i => b01 (t i)
  | 0 => rfl
  | n + 1 => by
    rw [List.range_succ, List.filter_append, List.length_append, filter_len t n, nsum]
    cases h : t n <;> simp [h, b01]
theorem nsum_shift1 (f : Nat → Nat) : ∀ n : Nat, nsum (n + 1) f = f 0 + nsum n fun i => f (i + 1)
  | 0 => by simp [nsum]
  | n + 1 => by
    rw [nsum, nsum_shift1 f n, nsum]
    omega
theorem nsum_turn1 {n : Nat} (hn : 0 < n) (f : Nat → Nat) : (nsum n fun i => f ((i + 1) % n)) = nsum n f := by
  obtain ⟨m, rfl⟩ : ∃ m, n = m + 1 := ⟨n - 1, by omega⟩
  rw [nsum_shift1 f m, nsum, Nat.mod_self, Nat.add_comm]
  congr 1
  exact nsum_congr fun i hi => by rw [Nat.mod_eq_of_lt (by omega)]
theorem nsum_turn {n : Nat} (hn : 0 < n) (f : Nat → Nat) : ∀ t : Nat, (nsum n fun i => f ((i + t) % n)) = nsum n f
  | 0 => nsum_congr fun i hi => by rw [Nat.add_zero, Nat.mod_eq_of_lt hi]
  | t + 1 => by
    have h := nsum_turn1 hn fun i => f ((i + t) % n)
    rw [nsum_turn hn f t] at h
    rw [← h]
    refine nsum_congr fun i hi => ?_
    rw [Nat.mod_add_mod, show i + 1 + t = i + (t + 1) by omega]
end Pt

/-! Pt M: texts of data, loops by their place. -/
namespace Pt
open PySem PySem.Spec PyProof.Rows L2

/-! ### texts -/
mutual
def nodes : D → Nat
  | .list xs => nodesAll xs + 1
  | .tuple xs => nodesAll xs + 1
  | _ => 1
def nodesAll : List D → Nat
  | [] => 0
  | x :: xs => nodes x + nodesAll xs
end
def wideI (i : Int) : Bool := decide (i.natAbs.log2 < 1920)
mutual
def plain : D → Bool
  | .none => true
  | .bool _ => true
  | .int i => wideI i
  | .list xs => plainAll xs
  | .tuple xs => plainAll xs
  | .str x => PyData.strOk x && decide ((reprText x).length + 10 ≤ 2000)
  | .dict _ => false
def plainAll : List D → Bool
  | [] => true
  | x :: xs => plain x && plainAll xs
end
theorem wide_of {i : Int} (h1 : -18446744073709551616 < i) (h2 : i < 18446744073709551616) : wideI i = true := by
  unfold wideI
  refine decide_eq_true ?_
  by_cases h : i.natAbs = 0
  · rw [h]; decide
  · have := (Nat.log2_lt h).mpr (show i.natAbs < 2 ^ 64 by omega)
    omega
theorem wide_pow {i : Int} {k : Nat} (hk : k ≤ 1900) (h : i.natAbs < 2 ^ k) : wideI i = true := by
  unfold wideI
  refine decide_eq_true ?_
  by_cases h0 : i.natAbs = 0
  · rw [h0]; decide
  · have := (Nat.log2_lt h0).mpr h
    omega
mutual
theorem plain_lay : ∀ d : D, plain d = true → d.canLay0 = true ∧ d.showable = true
  | .none, _ => ⟨by simp only [PyData.canLay0], by simp only [PyData.showable]⟩
  | .bool _, _ => ⟨by simp only [PyData.canLay0], by simp only [PyData.showable]⟩
  | .int i, h => by
    simp only [plain, wideI] at h
    exact ⟨by simp only [PyData.canLay0], by simp only [PyData.showable]; exact h⟩
  | .list xs, h => by
    simp only [plain] at h
    have q := plainAll_lay xs h
    exact ⟨by simp only [PyData.canLay0]; exact q.1, by simp only [PyData.showable]; exact q.2⟩
  | .tuple xs, h => by
    simp only [plain] at h
    have q := plainAll_lay xs h
    exact ⟨by simp only [PyData.canLay0]; exact q.1, by simp only [PyData.showable]; exact q.2⟩
  | .str _, h => by
    simp only [plain, Bool.and_eq_true] at h
    exact ⟨by simp only [PyData.canLay0]; exact h.1, by simp only [PyData.showable]⟩
  | .dict _, h => by simp only [plain] at h; cases h
theorem plainAll_lay : ∀ ds : List D, plainAll ds = true → PyData.canLayAll0 ds = true ∧ PyData.showableAll ds = true
  | [], _ => ⟨by simp only [PyData.canLayAll0], by simp only [PyData.showableAll]⟩
  | x :: xs, h => by
    simp only [plainAll, Bool.and_eq_true] at h
    have q1 := plain_lay x h.1
    have q2 := plainAll_lay xs h.2
    exact ⟨by simp only [PyData.canLayAll0, Bool.and_eq_true]; exact ⟨q1.1, q2.1⟩, by simp only [PyData.showableAll, Bool.and_eq_true]; exact ⟨q1.2, q2.2⟩⟩
end
theorem listText_le (ts : List Str) : (listText ts).length ≤ piled ts + 2 := by
  cases ts with
  | nil => exact (by decide : 2 ≤ 0 + 2)
  | cons t r =>
    unfold listText
    rw [strLen_append]
    show (textFrom 1 (("[" : Str) ++ (("" : String) : Str) ++ t) r).length + 1 ≤ _
    rw [textFrom_length_pos r 1 _ (by decide), strLen_append, strLen_append, piled_cons]
    have e1 : (("[" : Str)).length = 1 := rfl
    have e2 : ((("" : String) : Str)).length = 0 := rfl
    omega
theorem tupleText_le (ts : List Str) : (tupleText ts).length ≤ piled ts + 3 := by
  unfold tupleText
  rw [strLen_append, strLen_append]
  have e1 : ((("(" : String) : Str)).length = 1 := rfl
  have e3 : (((if ts.length == 1 then ",)" else ")" : String) : Str)).length ≤ 2 := by split <;> decide
  cases ts with
  | nil =>
    have e4 : (Str.join ", " []).length = 0 := rfl
    show 1 + (Str.join ", " []).length + _ ≤ _
    omega
  | cons t r =>
    have := join_length_add (t :: r) (by simp)
    omega
mutual
theorem shown_le : ∀ d : D, plain d = true → d.shown.length + 10 ≤ 2000 * nodes d
  | .none, _ => by
    simp only [PyData.shown, nodes]
    show 4 + 10 ≤ 2000 * 1
    omega
  | .bool b, _ => by
    simp only [PyData.shown, nodes]
    cases b
    · show 5 + 10 ≤ 2000 * 1; omega
    · show 4 + 10 ≤ 2000 * 1; omega
  | .int i, h => by
    simp only [plain, wideI] at h
    have := int_text_len_1921 (of_decide_eq_true h)
    simp only [PyData.shown, nodes]
    omega
  | .list xs, h => by
    simp only [plain] at h
    have := shownAll_le xs h
    have := listText_le (PyData.shownAll xs)
    simp only [PyData.shown, nodes]
    omega
  | .tuple xs, h => by
    simp only [plain] at h
    have := shownAll_le xs h
    have := tupleText_le (PyData.shownAll xs)
    simp only [PyData.shown, nodes]
    omega
  | .str _, h => by
    simp only [plain, Bool.and_eq_true] at h
    have := of_decide_eq_true h.2
    simp only [PyData.shown, nodes]
    omega
  | .dict _, h => by simp only [plain] at h; cases h
theorem shownAll_le : ∀ ds : List D, plainAll ds = true → piled (PyData.shownAll ds) ≤ 2000 * nodesAll ds
  | [], _ => by simp only [PyData.shownAll, piled_nil, nodesAll]; omega
  | x :: xs, h => by
    simp only [plainAll, Bool.and_eq_true] at h
    have q1 := shown_le x h.1
    have q2 := shownAll_le xs h.2
    simp only [PyData.shownAll, piled_cons, nodesAll]
    omega
end
theorem text_ok {d : D} (h : plain d = true) (hn : nodes d ≤ 8000) (hd : d.depth ≤ 64) : textOk d = true := by
  have q := plain_lay d h
  have z := shown_le d h
  unfold textOk SeqAt.shaped
  rw [q.1, q.2, decide_eq_true hd, sz_few (by omega)]
  rfl
theorem sh_ok {d : D} (h : plain d = true) (hd : d.depth ≤ 64) : shB d = true := by
  have q := plain_lay d h
  unfold shB SeqAt.shaped
  rw [q.1, decide_eq_true hd]
  rfl

/-! ### is it the same -/
mutual
def same : D → D → Bool
  | .none, .none => true
  | .bool a, .bool b => a == b
  | .int i, .int j => decide (i = j)
  | .list xs, .list ys => sameAll xs ys
  | .tuple xs, .tuple ys => sameAll xs ys
  | _, _ => false
def sameAll : List D → List D → Bool
  | [], [] => true
  | x :: xs, y :: ys => same x y && sameAll xs ys
  | _, _ => false
end
mutual
theorem same_eq : ∀ a b : D, same a b = true → a = b
  | .none, b, h => by cases b <;> first | rfl | (simp [same] at h)
  | .bool a, b, h => by
    cases b with
    | bool b => simp only [same, beq_iff_eq] at h; rw [h]
    | _ => simp [same] at h
  | .int a, b, h => by
    cases b with
    | int b => simp only [same, decide_eq_true_eq] at h; rw [h]
    | _ => simp [same] at h
  | .list xs, b, h => by
    cases b with
    | list ys => simp only [same] at h; rw [sameAll_eq xs ys h]
    | _ => simp [same] at h
  | .tuple xs, b, h => by
    cases b with
    | tuple ys => simp only [same] at h; rw [sameAll_eq xs ys h]
    | _ => simp [same] at h
  | .str _, b, h => by cases b <;> simp [same] at h
  | .dict _, b, h => by cases b <;> simp [same] at h
theorem sameAll_eq : ∀ a b : List D, sameAll a b = true → a = b
  | [], b, h => by
    cases b with
    | nil => rfl
    | cons y ys => simp [sameAll] at h
  | x :: xs, b, h => by
    cases b with
    | nil => simp [sameAll] at h
    | cons y ys =>
      simp only [sameAll, Bool.and_eq_true] at h
      rw [same_eq x y h.1, sameAll_eq xs ys h.2]
end

/-! ### loops by their place -/
section
variable {p : Pat} {b : Ms} {s : Src} {Z : Sr → Prop}
def itr {α : Type} (step : Nat → α → α) (a : α) : Nat → α
  | 0 => a
  | k + 1 => step k (itr step a k)
theorem gs_itr {α : Type} {n : Nat} {e : Sg} (step : Nat → α → α) (a : α) (I : Nat → α → Sg → Prop) (h : I 0 a e) (hs : ∀ k, k < n → ∀ e, I k (itr step a k) e → Bp p (.int (k : Nat)) e fun e1 => Gs (b e1 s) fun r => ∃ e2, r = .nx e2 s ∧ I (k + 1) (step k (itr step a k)) e2)
    (h2 : ∀ e', I n (itr step a n) e' → Z (.nx e' s)) : Gs (forGo p b (rangeL 0 1 n) e s) Z := by
  refine gs_goI (fun k e s' => s' = s ∧ I k (itr step a k) e) _ 0 _ s ⟨rfl, h⟩ ?_ ?_
  · intro i x e s' hx hI
    obtain ⟨hs', hI⟩ := hI
    subst hs'
    have hr := rng_at hx
    have hx2 := hr.2
    subst hx2
    rw [Nat.zero_add] at hI ⊢
    have q := hs i hr.1 e hI
    unfold Bp at q ⊢
    cases hb : bindP p (.int (i : Nat)) e with
    | none => rw [hb] at q; exact q.elim
    | some e1 =>
      rw [hb, ox_some] at q
      rw [ox_some]
      refine gs_mono q fun r hr => ?_
      obtain ⟨e2, rfl, h3⟩ := hr
      exact ⟨rfl, h3⟩
  · intro e s' hI
    obtain ⟨hs', hI⟩ := hI
    subst hs'
    rw [Nat.zero_add, rangeL_len] at hI
    exact h2 e hI
theorem gs_foldI {α : Type} {xs : List D} {e : Sg} (step : α → D → α) (a : α) (I : Nat → α → Sg → Prop) (h : I 0 a e) (hs : ∀ i x, xs[i]? = some x → ∀ a e, I i a e → Bp p x e fun e1 => Gs (b e1 s) fun r => ∃ e2, r = .nx e2 s ∧ I (i + 1) (step a x) e2)
    (h2 : ∀ e', I xs.length (xs.foldl step a) e' → Z (.nx e' s)) : Gs (forGo p b xs e s) Z := by
  refine gs_goI (fun k e s' => s' = s ∧ I k ((xs.take k).foldl step a) e) _ 0 _ s ⟨rfl, h⟩ ?_ ?_
  · intro i x e s' hx hI
    obtain ⟨hs', hI⟩ := hI
    subst hs'
    rw [Nat.zero_add] at hI ⊢
    have q := hs i x hx _ e hI
    unfold Bp at q ⊢
    cases hb : bindP p x e with
    | none => rw [hb] at q; exact q.elim
    | some e1 =>
      rw [hb, ox_some] at q
      rw [ox_some]
      refine gs_mono q fun r hr => ?_
      obtain ⟨e2, rfl, h3⟩ := hr
      refine ⟨rfl, ?_⟩
      rw [List.take_add_one, hx, List.foldl_append]
      exact h3
  · intro e s' hI
    obtain ⟨hs', hI⟩ := hI
    subst hs'
    rw [Nat.zero_add, List.take_length] at hI
    exact h2 e hI
end
end Pt

/-! Pt V: isinstance, gcd, written constants. -/
namespace Pt
open PySem PySem.Spec PyProof.Rows L2
/-! ### isinstance(x, T) -/
def tyNm : D → String
  | .none => "NoneType"
  | .bool _ => "bool"
  | .int _ => "int"
  | .str _ => "str"
  | .list _ => "list"
  | .tuple _ => "tuple"
  | .dict _ => "dict"
def isB (T nm : String) : Bool := nm == T || (T == "int" && nm == "bool")
def knownT (T : String) : Prop := ∀ (K : PySem.W.Frag) (d : D), PySem.W.kitOne K (.type (tyNm d)) (.type T) = some (isB T (tyNm d))
theorem kn_int : knownT "int" := fun K d => by cases d <;> rfl
theorem kn_bool : knownT "bool" := fun K d => by cases d <;> rfl
theorem kn_tuple : knownT "tuple" := fun K d => by cases d <;> rfl
theorem kn_list : knownT "list" := fun K d => by cases d <;> rfl
theorem kn_str : knownT "str" := fun K d => by cases d <;> rfl
theorem kn_dict : knownT "dict" := fun K d => by cases d <;> rfl
theorem tyx_of {K : PySem.W.Frag} {H F : Hp} {v : V} {d : D} (sub : Same F H) (h : IsV K H F v d) : TyX K H v (.type (tyNm d)) := by
  rcases h with h | ⟨a, vs, es, e1, e2, h1, _⟩ | ⟨a, ws, kvs, e1, e2, h1, _⟩ | ⟨a, ws, kvs, e1, e2, h1, _⟩
  · cases h with
    | non => exact .base .non
    | bl b => exact .base (.bl b)
    | int i => exact .base (.int i)
    | str x => exact .base (.str x)
    | lst h1 _ _ => exact .base (.lst (sub _ _ h1))
    | tup h1 _ _ =>
      rcases Same.seqT sub h1 with (h2 | ⟨o, h2⟩) | ⟨o, us, n, h2, h3, h4, h5⟩
      · exact .base (.tup h2)
      · exact .fTuple h2
      · exact .kTuple h2 h3
    | dct h1 _ => exact .base (.dK (sub _ _ h1))
    | dtt h1 _ => exact .base (.dT (sub _ _ h1))
  · subst e1
    subst e2
    exact .base (.lst h1)
  · subst e1
    subst e2
    exact .base (.dK h1)
  · subst e1
    subst e2
    exact .base (.dT h1)
section
variable {X : Cx} {W : WX}
def mIsi (T : String) (m : Mn D) : Mn D := fun e s => (m e s).bind fun d s1 => .ok (.bool (isB T (tyNm d))) s1
theorem de_isi {T : String} (kn : knownT T) {x : Str} {a : Expr} {m : Mn D} {p pT pos : Pos} (ha : DV X W a m) (hm : X.mg "isinstance" = none) (hT : X.mg x = none) (hv : bootBuiltins x = some (.type T)) (hg : L2.Gl X "isinstance" := by rfl) (hgT : L2.Gl X x := by rfl) (hn : x ≠ "__name__" := by decide) (hdT : (x == ("__debug__" : Str)) = false := by decide)
    (he : starEach [a, .Name x pT] X.env = (false, eval a X.env) :: starEach [.Name x pT] X.env := by rfl) (he2 : starEach [.Name x pT] X.env = (false, eval (.Name x pT) X.env) :: starEach [] X.env := by rfl) (hpl : (backTo pos (starEach [.Name x pT] X.env)).any (·.1) = false := by rfl) :
    DE X W (.Call (.Name "isinstance" p) [a, .Name x pT] [] pos) (mIsi T m) :=
  pe_imp (pe_callB call_isi hg hm (by decide +kernel) (pa_cons ha (pa_cons (pe_bltn (v := .ty T) hgT hT hv rfl hn hdT) pa_nil he2) he) (by decide) (by decide) he hpl) fun σ H Q ⟨G, e, s, F, rl, p⟩ => rG_seq rl p fun d s1 H1 F1 x rl1 st1 w1 jx p1 =>
    ⟨x, .ty T, _, _, _, rfl, .ty T, tyx_of w1.sub (jx H1 F1 Stp.refl w1.sub), kn _ d, p1 H1 F1 Stp.refl w1 _ (.bl _)⟩
/-- a module's name for a built-in function -/
theorem de_callF {f : List D → Option D} {id : String} {x : Str} {p pos : Pos} {a : Expr} {es : List Expr} {ma : Mn (List D)} (hc : CallR X (.builtin id) (rOC X.K f)) (hm : X.mg x = some (.builtin id)) (ha : DVs X W (a :: es) ma) (hg : L2.Gl X x := by rfl)
    (hdb : (x == ("__debug__" : Str)) = false := by decide) (he : starEach (a :: es) X.env = (false, eval a X.env) :: starEach es X.env := by rfl) (hpl : (backTo pos (starEach es X.env)).any (·.1) = false := by rfl) : DE X W (.Call (.Name x p) (a :: es) [] pos) (mCall f ma) :=
  pe_imp (pe_callBfun hc hg hm ha hdb he hpl) fun σ H Q h => call_of h
def dGcd : List D → Option D
  | [.int a, .int b] => some (.int (Nat.gcd a.natAbs b.natAbs))
  | _ => none
theorem cr_gcdD : CallR X (.builtin "math.gcd") (rOC X.K dGcd) := cr_imp cr_gcd fun xs H Q ⟨F, ds, r, sub, hx, e, q⟩ => by
  unfold dGcd at e
  split at e
  · cases e
    obtain ⟨x, y, hxy, h1, h2⟩ := pr2 hx
    subst hxy
    rw [h1.int, h2.int]
    exact ⟨_, _, rfl, q _ H F (Al.refl sub) (.int _)⟩
  · cases e
end
/-! ### written constants -/
theorem tupK {K : PySem.W.Frag} {a : Addr} {dd : Option Addr} {us : List Value} {n : Nat} {sl : Array (Option Value)} {vs : List V} {ds : List D} (l : K.lookup a = some ⟨.type "tuple", dd, .seq us.toArray n, sl⟩) (hv : Vals vs us) (hs : us.length ≤ sizeLine) (hd : ds.length ≤ sizeLine) (h : ∀ F, IsAll K F vs ds) : ∀ F, Is K F (.ref a) (.tuple ds) := fun F =>
  .tup (.inr ⟨_, us.toArray, n, l, rfl, rfl, by rw [List.size_toArray]; exact hs, by simpa using hv⟩) (h F) hd
end Pt

/-! Pt N: tables of four whole numbers, plainly. -/
namespace Pt
/-- a table of four numbers -/
structure M4 where
  a : Int
  b : Int
  c : Int
  d : Int
deriving DecidableEq
def M4.mul (m n : M4) : M4 := ⟨m.a * n.a + m.b * n.c, m.a * n.b + m.b * n.d, m.c * n.a + m.d * n.c, m.c * n.b + m.d * n.d⟩
def M4.inv (m : M4) : M4 := ⟨m.d, -m.b, -m.c, m.a⟩
def M4.neg (m : M4) : M4 := ⟨-m.a, -m.b, -m.c, -m.d⟩
def M4.det (m : M4) : Int := m.a * m.d - m.b * m.c
def M4.tr (m : M4) : Int := m.a + m.d
def M4.one : M4 := ⟨1, 0, 0, 1⟩
def M4.le (m : M4) (k : Nat) : Prop := m.a.natAbs ≤ k ∧ m.b.natAbs ≤ k ∧ m.c.natAbs ≤ k ∧ m.d.natAbs ≤ k
def kk (x y z : Int) : Int := x * x + y * y + z * z - x * y * z - 2
theorem mul_le' {x y : Int} {j k : Nat} (hx : x.natAbs ≤ j) (hy : y.natAbs ≤ k) : (x * y).natAbs ≤ j * k := by
  rw [Int.natAbs_mul]
  exact Nat.mul_le_mul hx hy
theorem M4.mul_le {m n : M4} {j k : Nat} (hm : m.le j) (hn : n.le k) : (m.mul n).le (2 * (j * k)) := by
  obtain ⟨m1, m2, m3, m4⟩ := hm
  obtain ⟨n1, n2, n3, n4⟩ := hn
  have h1 := mul_le' m1 n1
  have h2 := mul_le' m2 n3
  have h3 := mul_le' m1 n2
  have h4 := mul_le' m2 n4
  have h5 := mul_le' m3 n1
  have h6 := mul_le' m4 n3
  have h7 := mul_le' m3 n2
  have h8 := mul_le' m4 n4
  unfold M4.mul M4.le
  refine ⟨?_, ?_, ?_, ?_⟩ <;> (show Int.natAbs (_ + _) ≤ _; omega)
theorem M4.mul_leN {m n : M4} {j k N : Nat} (hm : m.le j) (hn : n.le k) (h : 2 * (j * k) ≤ N) : (m.mul n).le N := by
  obtain ⟨h1, h2, h3, h4⟩ := M4.mul_le hm hn
  exact ⟨by omega, by omega, by omega, by omega⟩
theorem M4.inv_le {m : M4} {j : Nat} (hm : m.le j) : m.inv.le j := by
  obtain ⟨m1, m2, m3, m4⟩ := hm
  exact ⟨m4, by show Int.natAbs (-_) ≤ _; omega, by show Int.natAbs (-_) ≤ _; omega, m1⟩
theorem M4.le_mono {m : M4} {j k : Nat} (hm : m.le j) (h : j ≤ k) : m.le k := by
  obtain ⟨h1, h2, h3, h4⟩ := hm
  exact ⟨by omega, by omega, by omega, by omega⟩
theorem M4.tr_le {m : M4} {j : Nat} (hm : m.le j) : m.tr.natAbs ≤ 2 * j := by
  obtain ⟨h1, h2, h3, h4⟩ := hm
  unfold M4.tr
  omega
theorem M4.ext' {m n : M4} (h1 : m.a = n.a) (h2 : m.b = n.b) (h3 : m.c = n.c) (h4 : m.d = n.d) : m = n := by
  cases m; cases n; cases h1; cases h2; cases h3; cases h4; rfl
theorem M4.mul_assoc (l m n : M4) : (l.mul m).mul n = l.mul (m.mul n) := by
  apply M4.ext' <;> simp only [M4.mul] <;> grind
theorem M4.one_mul (m : M4) : M4.one.mul m = m := by
  apply M4.ext' <;> simp only [M4.mul, M4.one] <;> grind
theorem M4.mul_one (m : M4) : m.mul M4.one = m := by
  apply M4.ext' <;> simp only [M4.mul, M4.one] <;> grind
theorem M4.det_mul (m n : M4) : (m.mul n).det = m.det * n.det := by
  simp only [M4.mul, M4.det]; grind
theorem M4.det_inv (m : M4) : m.inv.det = m.det := by
  simp only [M4.inv, M4.det]; grind
theorem M4.det_one : M4.one.det = 1 := rfl
theorem M4.mul_inv {m : M4} (h : m.det = 1) : m.mul m.inv = M4.one := by
  simp only [M4.det] at h
  apply M4.ext' <;> simp only [M4.mul, M4.inv, M4.one] <;> grind
theorem M4.inv_mul {m : M4} (h : m.det = 1) : m.inv.mul m = M4.one := by
  simp only [M4.det] at h
  apply M4.ext' <;> simp only [M4.mul, M4.inv, M4.one] <;> grind
theorem M4.inv_inv (m : M4) : m.inv.inv = m := by
  apply M4.ext' <;> simp only [M4.inv] <;> grind
theorem M4.inv_of_mul (m n : M4) : (m.mul n).inv = n.inv.mul m.inv := by
  apply M4.ext' <;> simp only [M4.inv, M4.mul] <;> grind
theorem M4.tr_mul (m n : M4) : (m.mul n).tr = (n.mul m).tr := by
  simp only [M4.tr, M4.mul]; grind
theorem M4.tr_inv (m : M4) : m.inv.tr = m.tr := by
  simp only [M4.tr, M4.inv]; grind
/-- a table led by another one -/
def M4.led (l m : M4) : M4 := (l.mul m).mul l.inv
theorem M4.det_led {l m : M4} (hl : l.det = 1) : (l.led m).det = m.det := by
  unfold M4.led
  rw [M4.det_mul, M4.det_mul, M4.det_inv, hl]; grind
theorem M4.tr_led {l m : M4} (hl : l.det = 1) : (l.led m).tr = m.tr := by
  unfold M4.led
  rw [M4.tr_mul, ← M4.mul_assoc, M4.inv_mul hl, M4.one_mul]
theorem M4.led_mul {l m n : M4} (hl : l.det = 1) : (l.led m).mul (l.led n) = l.led (m.mul n) := by
  unfold M4.led
  rw [M4.mul_assoc (l.mul m), ← M4.mul_assoc l.inv, ← M4.mul_assoc l.inv, M4.inv_mul hl, M4.one_mul, ← M4.mul_assoc, ← M4.mul_assoc]
theorem M4.led_back {l m : M4} (hl : l.det = 1) : l.inv.led (l.led m) = m := by
  unfold M4.led
  rw [M4.inv_inv, ← M4.mul_assoc, ← M4.mul_assoc, M4.inv_mul hl, M4.one_mul, M4.mul_assoc, M4.inv_mul hl, M4.mul_one]
theorem M4.led_inj {l m n : M4} (hl : l.det = 1) (h : l.led m = l.led n) : m = n := by
  have := congrArg (l.inv.led ·) h
  simp only [M4.led_back hl] at this
  exact this
/-- k of the traces of a pair -/
def M4.k (m n : M4) : Int := kk m.tr n.tr (m.mul n).tr
theorem M4.k_turn {m n : M4} (hm : m.det = 1) (hn : n.det = 1) : ((m.mul n).mul (n.mul m).inv).tr = m.k n := by
  simp only [M4.det] at hm hn
  simp only [M4.k, kk, M4.tr, M4.mul, M4.inv]
  grind
theorem M4.k_led {l m n : M4} (hl : l.det = 1) : (l.led m).k (l.led n) = m.k n := by
  unfold M4.k
  rw [M4.led_mul hl, M4.tr_led hl, M4.tr_led hl, M4.tr_led hl]
/-- 2 less k is the determinant of what both ways differ -/
def M4.sub (m n : M4) : M4 := ⟨m.a - n.a, m.b - n.b, m.c - n.c, m.d - n.d⟩
theorem M4.k_two {m n : M4} (hm : m.det = 1) (hn : n.det = 1) : ((m.mul n).sub (n.mul m)).det = 2 - m.k n := by
  simp only [M4.det] at hm hn
  simp only [M4.k, kk, M4.tr, M4.mul, M4.sub, M4.det]
  grind
end Pt

/-! Pt O: columns that tables keep. -/
namespace Pt
/-! ### columns in least form -/
structure Norm (u v : Int) : Prop where
  one : Int.gcd u v = 1
  pos : 0 < u ∨ (u = 0 ∧ 0 < v)
theorem dvd_cop {u v w : Int} (h : Int.gcd u v = 1) (d : u ∣ v * w) : u ∣ w := by
  rw [← Int.natAbs_dvd_natAbs] at d ⊢
  rw [Int.natAbs_mul] at d
  exact Nat.Coprime.dvd_of_dvd_mul_left h d
theorem norm_unique {u v u2 v2 : Int} (h : Norm u v) (h2 : Norm u2 v2) (e : u * v2 = v * u2) : u = u2 ∧ v = v2 := by
  have d1 : u ∣ u2 := dvd_cop h.one ⟨v2, e.symm⟩
  have d2 : u2 ∣ u := dvd_cop h2.one ⟨v, by rw [Int.mul_comm v2, e, Int.mul_comm]⟩
  have ab : u.natAbs = u2.natAbs := Nat.dvd_antisymm (Int.natAbs_dvd_natAbs.mpr d1) (Int.natAbs_dvd_natAbs.mpr d2)
  have uu : u = u2 := by
    rcases h.pos with p | ⟨p, _⟩ <;> rcases h2.pos with q | ⟨q, _⟩ <;> omega
  refine ⟨uu, ?_⟩
  subst uu
  by_cases z : u = 0
  · subst z
    have g1 := h.one
    have g2 := h2.one
    rw [Int.gcd_zero_left] at g1 g2
    rcases h.pos with p | ⟨_, p⟩
    · omega
    · rcases h2.pos with q | ⟨_, q⟩
      · omega
      · omega
  · have : u * v2 = u * v := by rw [e, Int.mul_comm]
    exact (Int.eq_of_mul_eq_mul_left z this).symm
/-- the part in common with the sign of the first that is not 0 -/
def partS (x y : Int) : Int := if 0 < (if x = 0 then y else x) then ((Nat.gcd x.natAbs y.natAbs : Nat) : Int) else -((Nat.gcd x.natAbs y.natAbs : Nat) : Int)
theorem norm_of {x y : Int} (h : ¬ (x = 0 ∧ y = 0)) : Norm (x / partS x y) (y / partS x y) ∧ x = partS x y * (x / partS x y) ∧ y = partS x y * (y / partS x y) ∧ partS x y ≠ 0 := by
  have g0 : 0 < Nat.gcd x.natAbs y.natAbs := by
    by_cases hx : x = 0
    · exact Nat.gcd_pos_of_pos_right _ (by omega)
    · exact Nat.gcd_pos_of_pos_left _ (by omega)
  obtain ⟨t, ht⟩ : ∃ t : Int, t = partS x y := ⟨_, rfl⟩
  rw [← ht]
  unfold partS at ht
  have ta : t.natAbs = Nat.gcd x.natAbs y.natAbs := by rw [ht]; split <;> omega
  have tx : t ∣ x := by rw [← Int.natAbs_dvd_natAbs, ta]; exact Nat.gcd_dvd_left _ _
  have ty : t ∣ y := by rw [← Int.natAbs_dvd_natAbs, ta]; exact Nat.gcd_dvd_right _ _
  have t0 : t ≠ 0 := by omega
  obtain ⟨u, hu⟩ := tx
  obtain ⟨v, hv⟩ := ty
  have e1 : x / t = u := by rw [hu, Int.mul_ediv_cancel_left _ t0]
  have e2 : y / t = v := by rw [hv, Int.mul_ediv_cancel_left _ t0]
  rw [e1, e2]
  refine ⟨⟨?_, ?_⟩, hu, hv, t0⟩
  · have e : Nat.gcd x.natAbs y.natAbs = t.natAbs * Nat.gcd u.natAbs v.natAbs := by
      rw [hu, hv, Int.natAbs_mul, Int.natAbs_mul, Nat.gcd_mul_left]
    rw [← ta] at e
    have : t.natAbs * Nat.gcd u.natAbs v.natAbs = t.natAbs * 1 := by rw [← e, Nat.mul_one]
    exact Nat.eq_of_mul_eq_mul_left (by omega) this
  · have key : ∀ s w : Int, s ≠ 0 → (0 < s * w → (0 < s ↔ 0 < w)) := fun s w hs hp => by
      by_cases a : 0 < s
      · refine ⟨fun _ => ?_, fun _ => a⟩
        by_cases b : 0 < w
        · exact b
        · have : s * w ≤ 0 := Int.mul_nonpos_of_nonneg_of_nonpos (by omega) (by omega)
          omega
      · constructor
        · intro z; exact absurd z a
        · intro z
          have : s * w ≤ 0 := Int.mul_nonpos_of_nonpos_of_nonneg (by omega) (by omega)
          omega
    have key2 : ∀ s w : Int, s * w < 0 → (s < 0 → 0 < w) := fun s w hp hs => by
      by_cases a : 0 < w
      · exact a
      · have : 0 ≤ s * w := Int.mul_nonneg_of_nonpos_of_nonpos (by omega) (by omega)
        omega
    by_cases hx : x = 0
    · right
      have u0 : u = 0 := by
        rcases Int.mul_eq_zero.mp (hu.symm.trans hx) with z | z
        · exact absurd z t0
        · exact z
      refine ⟨u0, ?_⟩
      rw [if_pos hx] at ht
      by_cases hy : 0 < y
      · rw [if_pos hy] at ht
        exact (key t v t0 (by omega)).mp (by omega)
      · rw [if_neg hy] at ht
        exact key2 t v (by omega) (by omega)
    · left
      rw [if_neg hx] at ht
      by_cases hy : 0 < x
      · rw [if_pos hy] at ht
        exact (key t u t0 (by omega)).mp (by omega)
      · rw [if_neg hy] at ht
        exact key2 t u (by omega) (by omega)
/-! ### what a table keeps -/
def M4.kf (m : M4) (u v : Int) : Int := (m.a * u + m.b * v) * v - (m.c * u + m.d * v) * u
theorem M4.kf_scale (m : M4) (t u v : Int) : m.kf (t * u) (t * v) = t * t * m.kf u v := by
  unfold M4.kf; grind
theorem M4.kf_of_scale {m : M4} {t u v : Int} (ht : t ≠ 0) (h : m.kf (t * u) (t * v) = 0) : m.kf u v = 0 := by
  rw [M4.kf_scale] at h
  rcases Int.mul_eq_zero.mp h with z | z
  · rcases Int.mul_eq_zero.mp z with z | z <;> exact absurd z ht
  · exact z
/-- the column of a table of the trace 2 t -/
def M4.col (m : M4) (t : Int) : Int × Int := if m.b ≠ 0 ∨ t ≠ m.a then (m.b, t - m.a) else (t - m.d, m.c)
def M4.unit (m : M4) : Prop := m = M4.one ∨ m = M4.one.neg
section
variable {m n : M4} {t : Int}
theorem M4.col_cases (ht : m.tr = 2 * t) : m.col t = (m.b, t - m.a) ∨ (m.col t = (0, m.c) ∧ m.b = 0 ∧ m.a = t ∧ m.d = t) := by
  unfold M4.tr at ht
  unfold M4.col
  split
  · exact .inl rfl
  · rename_i h
    refine .inr ⟨?_, ?_, ?_, ?_⟩
    · rw [show t - m.d = 0 by omega]
    all_goals omega
theorem M4.col_ne (ht : m.tr = 2 * t) (tt : t = 1 ∨ t = -1) (hu : ¬ m.unit) : ¬ ((m.col t).1 = 0 ∧ (m.col t).2 = 0) := by
  intro z
  apply hu
  unfold M4.col at z
  unfold M4.tr at ht
  unfold M4.unit
  by_cases h : m.b ≠ 0 ∨ t ≠ m.a
  · rw [if_pos h] at z
    have h1 : m.b = 0 := z.1
    have h2 : t - m.a = 0 := z.2
    omega
  · rw [if_neg h] at z
    have h1 : t - m.d = 0 := z.1
    have h2 : m.c = 0 := z.2
    have h3 : m.b = 0 := by omega
    rcases tt with rfl | rfl
    · left; apply M4.ext' <;> simp only [M4.one] <;> omega
    · right; apply M4.ext' <;> simp only [M4.one, M4.neg] <;> omega
theorem M4.col_kept (ht : m.tr = 2 * t) (tt : t * t = 1) (hm : m.det = 1) : m.kf (m.col t).1 (m.col t).2 = 0 := by
  unfold M4.det at hm
  have ht' := ht
  unfold M4.tr at ht
  rcases M4.col_cases ht' with e | ⟨e, h1, h2, h3⟩
  · rw [e]; simp only [M4.kf]; grind
  · rw [e]; simp only [M4.kf]; rw [h1, h2, h3]; grind
/-- only the column is kept -/
theorem M4.col_only (ht : m.tr = 2 * t) (tt : t * t = 1) (hm : m.det = 1) (hu : ¬ m.unit) (t1 : t = 1 ∨ t = -1) {u v : Int} (h : m.kf u v = 0) : u * (m.col t).2 = v * (m.col t).1 := by
  have hne := M4.col_ne ht t1 hu
  unfold M4.det at hm
  have ht' := ht
  unfold M4.tr at ht
  have sq0 : ∀ x : Int, x * x = 0 → x = 0 := fun x h => by rcases Int.mul_eq_zero.mp h with z | z <;> exact z
  rcases M4.col_cases ht' with e | ⟨e, h1, h2, h3⟩
  · rw [e] at hne ⊢
    have key : (u * (t - m.a) - v * m.b) * (u * (t - m.a) - v * m.b) = m.b * m.kf u v := by
      simp only [M4.kf]; grind
    rw [h, Int.mul_zero] at key
    have := sq0 _ key
    show u * (t - m.a) = v * m.b
    omega
  · rw [e] at hne ⊢
    simp only [M4.kf] at h
    rw [h1, h2, h3] at h
    have h4 : m.c * (u * u) = 0 := by grind
    have hc : m.c ≠ 0 := fun z => hne ⟨rfl, z⟩
    have := sq0 u (by rcases Int.mul_eq_zero.mp h4 with z | z; exact absurd z hc; exact z)
    subst this
    show 0 * m.c = v * 0
    omega
/-- where k is 2, the other one keeps it, too -/
theorem M4.col_both (ht : m.tr = 2 * t) (tt : t * t = 1) (hm : m.det = 1) (hn : n.det = 1) (hk : m.k n = 2) : n.kf (m.col t).1 (m.col t).2 = 0 := by
  have h2 := M4.k_two hm hn
  rw [hk] at h2
  have sq0 : ∀ x : Int, x * x = 0 → x = 0 := fun x h => by rcases Int.mul_eq_zero.mp h with z | z <;> exact z
  unfold M4.det at hm hn
  have ht' := ht
  unfold M4.tr at ht
  simp only [M4.det, M4.sub, M4.mul] at h2
  -- the trace of the nothing by n
  have key : ((m.a - t) * n.a + m.b * n.c + m.c * n.b + (m.d - t) * n.d) * ((m.a - t) * n.a + m.b * n.c + m.c * n.b + (m.d - t) * n.d) = 0 := by
    have hd : m.d = 2 * t - m.a := by omega
    rw [hd] at hm h2 ⊢
    grind
  have key := sq0 _ key
  rcases M4.col_cases ht' with e | ⟨e, h1, h2, h3⟩
  · rw [e]; simp only [M4.kf]; grind
  · rw [e]
    rw [h1, h2, h3] at key
    simp only [M4.kf]
    grind
/-- both keep a column: k is 2 -/
theorem M4.both_k {u v : Int} (hm : m.det = 1) (hn : n.det = 1) (hw : (u = 1 ∧ v = 0) ∨ v = 1) (h1 : m.kf u v = 0) (h2 : n.kf u v = 0) : m.k n = 2 := by
  have h := M4.k_two hm hn
  have z : ((m.mul n).sub (n.mul m)).det = 0 := by
    simp only [M4.kf] at h1 h2
    simp only [M4.det, M4.sub, M4.mul]
    rcases hw with ⟨rfl, rfl⟩ | rfl
    · have a1 : m.c = 0 := by omega
      have a2 : n.c = 0 := by omega
      rw [a1, a2]; grind
    · have a1 : m.b = (m.c * u + m.d) * u - m.a * u := by grind
      have a2 : n.b = (n.c * u + n.d) * u - n.a * u := by grind
      rw [a1, a2]; grind
  omega
/-- a number by a square is a square: so is the number -/
theorem sq_of_mul {x a b : Int} (ha : a ≠ 0) (h : x * (a * a) = b * b) : ∃ j : Int, x = j * j := by
  have hd : a ∣ b := by
    rw [← Int.natAbs_dvd_natAbs]
    have h1 : a.natAbs ^ 2 ∣ b.natAbs ^ 2 := by
      refine ⟨x.natAbs, ?_⟩
      have := congrArg Int.natAbs h
      rw [Int.natAbs_mul, Int.natAbs_mul, Int.natAbs_mul] at this
      rw [Nat.pow_two, Nat.pow_two, ← this, Nat.mul_comm]
    exact (Nat.pow_dvd_pow_iff (by decide)).mp h1
  obtain ⟨j, rfl⟩ := hd
  refine ⟨j, ?_⟩
  have h3 : (a * a) * x = (a * a) * (j * j) := by grind
  have : a * a ≠ 0 := fun z => by rcases Int.mul_eq_zero.mp z with z | z <;> exact ha z
  exact Int.eq_of_mul_eq_mul_left this h3
theorem tr_square {x j : Int} (h : x * x - 4 = j * j) : x * x = 4 := by
  have hx : x * x = (x.natAbs : Int) * x.natAbs := (Int.natAbs_mul_self' x).symm
  have hj : j * j = (j.natAbs : Int) * j.natAbs := (Int.natAbs_mul_self' j).symm
  rw [hx] at h ⊢
  rw [hj] at h
  generalize x.natAbs = p at *
  generalize j.natAbs = q at *
  have h' : p * p = 4 + q * q := by
    have : ((p * p : Nat) : Int) = ((4 + q * q : Nat) : Int) := by push_cast; omega
    exact Int.ofNat.inj this
  have lt : q < p := by
    by_cases c : q < p
    · exact c
    · have := Nat.mul_le_mul (show p ≤ q by omega) (show p ≤ q by omega)
      omega
  obtain ⟨r, rfl⟩ : ∃ r, p = q + 1 + r := ⟨p - q - 1, by omega⟩
  have e : (q + 1 + r) * (q + 1 + r) = q * q + 2 * q + 1 + r * (2 * q + 2 + r) := by grind
  have q1 : q ≤ 1 := by omega
  have r2 : r ≤ 2 := by
    by_cases c : r ≤ 2
    · exact c
    · have := Nat.mul_le_mul (show 3 ≤ r by omega) (show 3 ≤ 2 * q + 2 + r by omega)
      omega
  have c1 : q = 0 ∨ q = 1 := by omega
  have c2 : r = 0 ∨ r = 1 ∨ r = 2 := by omega
  rcases c1 with rfl | rfl <;> rcases c2 with rfl | rfl | rfl <;> simp at h' ⊢
/-- where k is 2 and a trace is not 2 or -2, both ways are one -/
theorem M4.root_both (hm : m.det = 1) (hn : n.det = 1) (hk : m.k n = 2) (ht : m.tr * m.tr ≠ 4) : m.mul n = n.mul m := by
  have h2 := M4.k_two hm hn
  rw [hk] at h2
  obtain ⟨al, hal⟩ : ∃ al : Int, al = (m.mul n).a - (n.mul m).a := ⟨_, rfl⟩
  obtain ⟨be, hbe⟩ : ∃ be : Int, be = (m.mul n).b - (n.mul m).b := ⟨_, rfl⟩
  obtain ⟨ga, hga⟩ : ∃ ga : Int, ga = (m.mul n).c - (n.mul m).c := ⟨_, rfl⟩
  have hde : (m.mul n).d - (n.mul m).d = - al := by rw [hal]; simp only [M4.mul]; grind
  have hdet : al * al + be * ga = 0 := by
    simp only [M4.det, M4.sub] at h2
    rw [hde, ← hal, ← hbe, ← hga] at h2
    grind
  have htr : (m.a - m.d) * al + m.b * ga + m.c * be = 0 := by
    rw [hal, hbe, hga]; simp only [M4.mul]; grind
  have disc : m.tr * m.tr - 4 = (m.a - m.d) * (m.a - m.d) + 4 * (m.b * m.c) := by
    unfold M4.det at hm; unfold M4.tr; grind
  have sqs : (m.tr * m.tr - 4) * (al * al) = (m.b * ga - m.c * be) * (m.b * ga - m.c * be) := by
    rw [disc]
    have e1 : (m.a - m.d) * al = -(m.b * ga + m.c * be) := by omega
    have e2 : al * al = -(be * ga) := by omega
    have e3 : ((m.a - m.d) * al) * ((m.a - m.d) * al) = (m.b * ga + m.c * be) * (m.b * ga + m.c * be) := by rw [e1]; grind
    grind
  have a0 : al = 0 := by
    by_cases c : al = 0
    · exact c
    · obtain ⟨j, hj⟩ := sq_of_mul c sqs
      exact absurd (tr_square hj) ht
  rw [a0] at hdet htr
  have pz : be = 0 ∨ ga = 0 := Int.mul_eq_zero.mp (by omega)
  have fin : be = 0 ∧ ga = 0 := by
    rcases pz with z | z
    · refine ⟨z, ?_⟩
      rw [z] at htr
      by_cases c : ga = 0
      · exact c
      · have hb : m.b = 0 := by
          rcases Int.mul_eq_zero.mp (show m.b * ga = 0 by omega) with y | y
          · exact y
          · exact absurd y c
        rw [hb] at disc
        exact absurd (tr_square (j := m.a - m.d) (by rw [disc]; omega)) ht
    · refine ⟨?_, z⟩
      rw [z] at htr
      by_cases c : be = 0
      · exact c
      · have hb : m.c = 0 := by
          rcases Int.mul_eq_zero.mp (show m.c * be = 0 by omega) with y | y
          · exact y
          · exact absurd y c
        rw [hb] at disc
        exact absurd (tr_square (j := m.a - m.d) (by rw [disc]; omega)) ht
  apply M4.ext' <;> omega
end
theorem norm_same {u v x y : Int} (h : ¬ (u = 0 ∧ v = 0)) (h2 : ¬ (x = 0 ∧ y = 0)) (e : u * y = v * x) : u / partS u v = x / partS x y ∧ v / partS u v = y / partS x y := by
  obtain ⟨n1, e1, e2, e3⟩ := norm_of h
  obtain ⟨n2, f1, f2, f3⟩ := norm_of h2
  refine norm_unique n1 n2 ?_
  generalize u / partS u v = u1 at *
  generalize v / partS u v = v1 at *
  generalize x / partS x y = x1 at *
  generalize y / partS x y = y1 at *
  generalize partS u v = p at *
  generalize partS x y = q at *
  have h3 : (p * q) * (u1 * y1) = (p * q) * (v1 * x1) := by
    rw [e1, e2, f1, f2] at e
    grind
  exact Int.eq_of_mul_eq_mul_left (fun z => by rcases Int.mul_eq_zero.mp z with z | z; exact e3 z; exact f3 z) h3
end Pt

/-! Pt W: a while by a measure; more rules. -/
namespace Pt
open PySem PySem.Spec PyProof.Rows L2
/-- what a lap of a while comes to -/
def Wl (Z : Sr → Prop) (I : Sg → Src → Prop) : Sr → Prop
  | .nx e s => I e s
  | .ct e s => I e s
  | .bk e s => Z (.nx e s)
  | .rt d s => Z (.rt d s)
  | .ex c x e s => Z (.ex c x e s)
  | .no => False
section
variable {Z : Sr → Prop} {I : Sg → Src → Prop} {e : Sg} {s : Src}
theorem wl_nx : Wl Z I (.nx e s) = I e s := rfl
theorem wl_ct : Wl Z I (.ct e s) = I e s := rfl
theorem wl_bk : Wl Z I (.bk e s) = Z (.nx e s) := rfl
theorem wl_rt {d : D} : Wl Z I (.rt d s) = Z (.rt d s) := rfl
theorem wl_ex {c : Str} {x : List (Str × D)} : Wl Z I (.ex c x e s) = Z (.ex c x e s) := rfl
theorem gs_wh {c : Mn Bool} {b : Ms} (I : Nat → Sg → Src → Prop) {n : Nat} (h0 : I n e s)
    (h : ∀ n e s, I n e s → Gt (c e s) (fun k s1 => Bo k (Gs (b e s1) (Wl Z fun e2 s2 => ∃ n', n' < n ∧ I n' e2 s2)) (Z (.nx e s1))) F0) : Gs (mWhile c b e s) Z := by
  have key : ∀ n e s, I n e s → ∃ m r, whGo c b m e s = r ∧ r ≠ .no ∧ Gs r Z := by
    intro n
    induction n using Nat.strongRecOn with
    | ind n ih =>
      intro e s hi
      have q := h n e s hi
      cases hc : c e s with
      | no => rw [hc] at q; exact q.elim
      | ex _ _ _ => rw [hc] at q; exact q.elim
      | ok k s1 =>
        rw [hc, gt_ok] at q
        cases k with
        | false =>
          rw [bo_f] at q
          exact ⟨1, .nx e s1, by rw [whGo, hc], nofun, q⟩
        | true =>
          rw [bo_t] at q
          have one : ∀ r : Sr, whGo c b 1 e s = r → r ≠ .no → Gs r Z → ∃ m r, whGo c b m e s = r ∧ r ≠ .no ∧ Gs r Z := fun r h1 h2 h3 => ⟨1, r, h1, h2, h3⟩
          have more : ∀ e2 s2, (∃ n', n' < n ∧ I n' e2 s2) → (∀ m, whGo c b (m + 1) e s = whGo c b m e2 s2) → ∃ m r, whGo c b m e s = r ∧ r ≠ .no ∧ Gs r Z := fun e2 s2 ⟨n', lt, hi2⟩ hm => by
            obtain ⟨m, r, h1, h2, h3⟩ := ih n' lt e2 s2 hi2
            exact ⟨m + 1, r, by rw [hm, h1], h2, h3⟩
          cases hb : b e s1 with
          | no => rw [hb] at q; exact q.elim
          | nx e2 s2 => rw [hb] at q; exact more e2 s2 q fun m => by rw [whGo, hc]; show (match b e s1 with | .nx e2 s2 => whGo c b m e2 s2 | .ct e2 s2 => whGo c b m e2 s2 | .bk e2 s2 => .nx e2 s2 | .rt d s2 => .rt d s2 | .ex c x e2 s2 => .ex c x e2 s2 | .no => .no) = _; rw [hb]
          | ct e2 s2 => rw [hb] at q; exact more e2 s2 q fun m => by rw [whGo, hc]; show (match b e s1 with | .nx e2 s2 => whGo c b m e2 s2 | .ct e2 s2 => whGo c b m e2 s2 | .bk e2 s2 => .nx e2 s2 | .rt d s2 => .rt d s2 | .ex c x e2 s2 => .ex c x e2 s2 | .no => .no) = _; rw [hb]
          | bk e2 s2 => rw [hb] at q; exact one (.nx e2 s2) (by rw [whGo, hc]; show (match b e s1 with | .nx e2 s2 => whGo c b 0 e2 s2 | .ct e2 s2 => whGo c b 0 e2 s2 | .bk e2 s2 => .nx e2 s2 | .rt d s2 => .rt d s2 | .ex c x e2 s2 => .ex c x e2 s2 | .no => .no) = _; rw [hb]) (fun z => by cases z) q
          | rt d s2 => rw [hb] at q; exact one (.rt d s2) (by rw [whGo, hc]; show (match b e s1 with | .nx e2 s2 => whGo c b 0 e2 s2 | .ct e2 s2 => whGo c b 0 e2 s2 | .bk e2 s2 => .nx e2 s2 | .rt d s2 => .rt d s2 | .ex c x e2 s2 => .ex c x e2 s2 | .no => .no) = _; rw [hb]) (fun z => by cases z) q
          | ex a x e2 s2 => rw [hb] at q; exact one (.ex a x e2 s2) (by rw [whGo, hc]; show (match b e s1 with | .nx e2 s2 => whGo c b 0 e2 s2 | .ct e2 s2 => whGo c b 0 e2 s2 | .bk e2 s2 => .nx e2 s2 | .rt d s2 => .rt d s2 | .ex c x e2 s2 => .ex c x e2 s2 | .no => .no) = _; rw [hb]) (fun z => by cases z) q
  obtain ⟨m, r, h1, h2, h3⟩ := key n e s h0
  rw [mWhile_eq m h1 h2]
  exact h3
end
theorem gt_val {α : Type} {m : Rs α} {v : α} {s : Src} (h : Gt m (fun a s1 => a = v ∧ s1 = s) F0) : m = .ok v s := by
  cases m with
  | ok a s1 => obtain ⟨rfl, rfl⟩ := h; rfl
  | ex c x s1 => exact h.elim
  | no => exact h.elim
theorem bo_mk {c : Bool} {p q : Prop} (h1 : c = true → p) (h2 : c = false → q) : Bo c p q := ⟨h1, h2⟩
theorem gt_use {α : Type} {m : Rs α} {R Q : α → Src → Prop} {E : Str → List (Str × D) → Src → Prop} (h : Gt m R F0) (k : ∀ a s, R a s → Q a s) : Gt m Q E := by
  cases m with
  | ok a s => exact k a s h
  | ex c x s => exact h.elim
  | no => exact h.elim
theorem run_gt {n : Nat} {m : Ms} {as : List Ar} {e0 : Sg} {s : Src} {P : D → Src → Prop} (h : Gs (m e0 s) fun r => ∃ v s1, r = .rt v s1 ∧ P v s1) (he : as.map arSl ++ List.replicate (n - as.length) .un = e0 := by rfl) : Gt (runF n m as s) P F0 := by
  obtain ⟨v, s1, e, h1⟩ := run_ex h he
  rw [e]
  exact h1
theorem gs_keepW {c : Mn Bool} {a : Ms} {e : Sg} {s : Src} {Z : Sr → Prop} (h1 : Gt (c e s) (fun b s1 => b = false ∧ s1 = s) F0) (h2 : Z (.nx e s)) : Gs (mIfS c a mSkip e s) Z := by
  rw [gs_if]
  refine gt_use h1 ?_
  rintro _ _ ⟨rfl, rfl⟩
  rw [bo_f, gs_skip]
  exact h2
mutual
theorem eqv_self : ∀ d : D, plain d = true → PyData.eqv d d = true
  | .none, _ => by simp only [PyData.eqv]
  | .bool b, _ => by simp [PyData.eqv]
  | .int i, _ => by simp [PyData.eqv]
  | .str x, _ => by simp [PyData.eqv]
  | .list xs, h => by
    simp only [plain] at h
    simp only [PyData.eqv]
    exact eqvAll_self xs h
  | .tuple xs, h => by
    simp only [plain] at h
    simp only [PyData.eqv]
    exact eqvAll_self xs h
  | .dict _, h => by simp [plain] at h
theorem eqvAll_self : ∀ ds : List D, plainAll ds = true → PyData.eqvAll ds ds = true
  | [], _ => by simp only [PyData.eqvAll]
  | x :: xs, h => by
    simp only [plainAll, Bool.and_eq_true] at h
    simp only [PyData.eqvAll, Bool.and_eq_true]
    exact ⟨eqv_self x h.1, eqvAll_self xs h.2⟩
end
/-- data that is small and plain -/
structure OkD (d : D) : Prop where
  pl : plain d = true
  few : nodes d ≤ 8000
  deep : d.depth ≤ 64
theorem OkD.text {d : D} (h : OkD d) : textOk d = true := text_ok h.pl h.few h.deep
theorem OkD.sh {d : D} (h : OkD d) : shB d = true := sh_ok h.pl h.deep
theorem law_math {r : Sr} (h : Gs r fun r => ∃ s, r = .rt (.bool true) s) : ∃ s, r = .rt (.bool true) s := by
  cases r with
  | rt d s2 => exact h
  | no => exact h.elim
  | nx e1 s2 => obtain ⟨s, e⟩ := h; cases e
  | bk e1 s2 => obtain ⟨s, e⟩ := h; cases e
  | ct e1 s2 => obtain ⟨s, e⟩ := h; cases e
  | ex c x e1 s2 => obtain ⟨s, e⟩ := h; cases e
/-! ### more rules -/
section
variable {α : Type} {Q : α → Src → Prop} {E : Str → List (Str × D) → Src → Prop} {e : Sg} {s : Src} {P : D → Src → Prop} {K : D → Prop} {i j : Int}
theorem gt_rg2J {r : Mn (List D)} {T : List D → Src → Prop} : Gt (mRg2J r e s) T E = Gt (r e s) (fun ds s1 => Z2 ds fun i j => (szB (j - i).toNat && (rgB i && rgB j)) = true ∧ T (rangeL i 1 (j - i).toNat) s1) E := by
  unfold mRg2J
  rw [gt_bind]
  congr 1
  funext ds s1
  rcases ds with _ | ⟨d, _ | ⟨d2, _ | ⟨d3, r⟩⟩⟩
  · rfl
  · cases d <;> rfl
  · cases d with
    | int n =>
      cases d2 with
      | int m => exact gt_guard
      | _ => rfl
    | _ => cases d2 <;> rfl
  · cases d <;> first | rfl | (cases d2 <;> rfl)
theorem gt_isiW {T : String} {m : Mn D} : Gt (mIsi T m e s) P E = Gt (m e s) (fun d s1 => P (.bool (isB T (tyNm d))) s1) E := by
  unfold mIsi
  simp only [gt_bind, gt_ok]
theorem ox_gcdW : Ox (dGcd [.int i, .int j]) K = K (.int (Nat.gcd i.natAbs j.natAbs : Nat)) := rfl
end
end Pt

/-! Pg T: the program's defs about tables. -/
namespace Pg
open PySem PySem.Spec PyProof.Rows L2 Pt
noncomputable def m_is_whole : Ms :=
    (mRet (mAnd (mIsi "int" (mVar 0)) (mNot (mIsi "bool" (mVar 0)))))
noncomputable def F_is_whole : Fs := runF 1 m_is_whole
noncomputable def m_is_table : Ms :=
    (mSeq (mIfS (mOrT (mNotT (mTst (mIsi "tuple" (mVar 0)))) (mOrT (mTst (mBin dNe (mCall dLen (mCons (mVar 0) mNil)) (mC (.int 4)))) (mNotT (mTst (mCall dAll (mCons (mFz (mLc (mSq (mVar 0)) (.n 1) mYes (mApp F_is_whole (mConsA (mVar 1) mNil)) [1])) mNil)))))) (mRet (mC (.bool false))) mSkip)
    (mRet (mBin dEq (mBin dSub (mBin dMul (mBin dIx (mVar 0) (mC (.int 0))) (mBin dIx (mVar 0) (mC (.int 3)))) (mBin dMul (mBin dIx (mVar 0) (mC (.int 1))) (mBin dIx (mVar 0) (mC (.int 2))))) (mC (.int 1)))))
noncomputable def F_is_table : Fs := runF 2 m_is_table
noncomputable def m_is_pair : Ms :=
    (mRet (mAnd (mIsi "tuple" (mVar 0)) (mAnd (mBin dEq (mCall dLen (mCons (mVar 0) mNil)) (mC (.int 2))) (mCall dAll (mCons (mFz (mLc (mSq (mVar 0)) (.n 1) mYes (mApp F_is_table (mConsA (mVar 1) mNil)) [1])) mNil)))))
noncomputable def F_is_pair : Fs := runF 2 m_is_pair
noncomputable def m_table_times : Ms :=
    (mSeq (mBind (.t [(.n 2), (.n 3), (.n 4), (.n 5)]) (mVar 0))
    (mSeq (mBind (.t [(.n 6), (.n 7), (.n 8), (.n 9)]) (mVar 1))
    (mRet (mTup (mCons (mBin dAdd (mBin dMul (mVar 2) (mVar 6)) (mBin dMul (mVar 3) (mVar 8))) (mCons (mBin dAdd (mBin dMul (mVar 2) (mVar 7)) (mBin dMul (mVar 3) (mVar 9))) (mCons (mBin dAdd (mBin dMul (mVar 4) (mVar 6)) (mBin dMul (mVar 5) (mVar 8))) (mCons (mBin dAdd (mBin dMul (mVar 4) (mVar 7)) (mBin dMul (mVar 5) (mVar 9))) mNil))))))))
noncomputable def F_table_times : Fs := runF 10 m_table_times
noncomputable def m_trace_of : Ms :=
    (mRet (mBin dAdd (mBin dIx (mVar 0) (mC (.int 0))) (mBin dIx (mVar 0) (mC (.int 3)))))
noncomputable def F_trace_of : Fs := runF 1 m_trace_of
noncomputable def m_traced : Ms :=
    (mRet (mTup (mCons (mApp F_trace_of (mConsA (mBin dIx (mVar 0) (mC (.int 0))) mNil)) (mCons (mApp F_trace_of (mConsA (mBin dIx (mVar 0) (mC (.int 1))) mNil)) (mCons (mApp F_trace_of (mConsA (mApp F_table_times (mConsA (mBin dIx (mVar 0) (mC (.int 0))) (mConsA (mBin dIx (mVar 0) (mC (.int 1))) mNil))) mNil)) mNil)))))
noncomputable def F_traced : Fs := runF 1 m_traced
noncomputable def m_k_of : Ms :=
    (mSeq (mBind (.t [(.n 1), (.n 2), (.n 3)]) (mVar 0))
    (mRet (mBin dSub (mBin dSub (mBin dAdd (mBin dAdd (mBin dMul (mVar 1) (mVar 1)) (mBin dMul (mVar 2) (mVar 2))) (mBin dMul (mVar 3) (mVar 3))) (mBin dMul (mBin dMul (mVar 1) (mVar 2)) (mVar 3))) (mC (.int 2)))))
noncomputable def F_k_of : Fs := runF 4 m_k_of
noncomputable def m_least_row : Ms :=
    (mSeq (mPut 1 (mMap Sl.d (mC (.int 0))))
    (mSeq (mFor (mSq (mVar 0)) (.n 2)
    (mPut 1 (mMap Sl.d (mCall dGcd (mCons (mVar 1) (mCons (mCall dAbs (mCons (mVar 2) mNil)) mNil))))))
    (mSeq (mPutZ 3 (mLc (mSq (mVar 0)) (.n 2) (mTst (mBin dNe (mVar 2) (mC (.int 0)))) (mVar 2) [2]))
    (mSeq (mIfS (mTst (mBin dEq (mVar 3) (mFz (mLst mNil)))) (mRet (mFz (mCallL dListL (mCons (mVar 0) mNil)))) mSkip)
    (mSeq (mPut 1 (mMap Sl.d (mIf (mTst (mBin dGt (mBin dIx (mVar 3) (mC (.int 0))) (mC (.int 0)))) (mVar 1) (mUn dNeg (mVar 1)))))
    (mRet (mFz (mLc (mSq (mVar 0)) (.n 2) mYes (mBin dDiv (mVar 2) (mVar 1)) [2]))))))))
noncomputable def F_least_row : Fs := runF 4 m_least_row
noncomputable def m_kept_column : Ms :=
    (mSeq (mBind (.t [(.n 1), (.n 2), (.n 3), (.n 4)]) (mVar 0))
    (mSeq (mPut 5 (mMap Sl.d (mBin dDiv (mBin dAdd (mVar 1) (mVar 4)) (mC (.int 2)))))
    (mSeq (mPut 6 (mMap Sl.d (mIf (mOrT (mTst (mBin dNe (mVar 2) (mC (.int 0)))) (mTst (mBin dNe (mVar 5) (mVar 1)))) (mTup (mCons (mVar 2) (mCons (mBin dSub (mVar 5) (mVar 1)) mNil))) (mTup (mCons (mBin dSub (mVar 5) (mVar 4)) (mCons (mVar 3) mNil))))))
    (mRet (mCall dTuple (mCons (mApp F_least_row (mConsA (mVar 6) mNil)) mNil))))))
noncomputable def F_kept_column : Fs := runF 7 m_kept_column
noncomputable def m_line_told : Ms :=
    (mSeq (mIfS (mTst (mBin dNe (mApp F_k_of (mConsA (mApp F_traced (mConsA (mVar 0) mNil)) mNil)) (mC (.int 2)))) (mRet (mTup (mCons (mC (.str "none")) mNil))) mSkip)
    (mSeq (mPutZ 1 (mLc (mSq (mVar 0)) (.n 3) (mTst (mBin (dIn true) (mVar 3) (mC (.tuple [(.tuple [(.int 1), (.int 0), (.int 0), (.int 1)]), (.tuple [(.int (-1)), (.int 0), (.int 0), (.int (-1))])])))) (mVar 3) [3]))
    (mSeq (mIfS (mTst (mBin dEq (mVar 1) (mFz (mLst mNil)))) (mRet (mTup (mCons (mC (.str "every")) mNil))) mSkip)
    (mSeq (mPut 2 (mMap Sl.d (mBin dSub (mBin dMul (mApp F_trace_of (mConsA (mBin dIx (mVar 1) (mC (.int 0))) mNil)) (mApp F_trace_of (mConsA (mBin dIx (mVar 1) (mC (.int 0))) mNil))) (mC (.int 4)))))
    (mRet (mIf (mTst (mBin dEq (mVar 2) (mC (.int 0)))) (mTup (mCons (mC (.str "one")) (mCons (mApp F_kept_column (mConsA (mBin dIx (mVar 1) (mC (.int 0))) mNil)) mNil))) (mTup (mCons (mC (.str "root")) (mCons (mVar 2) mNil)))))))))
noncomputable def F_line_told : Fs := runF 4 m_line_told
end Pg

/-! Pg T: the program's defs about tables, what they come to. -/
namespace Pg
open PySem PySem.Spec PyProof.Rows L2 Pt
def _root_.Pt.M4.D (m : M4) : D := .tuple [.int m.a, .int m.b, .int m.c, .int m.d]
/-- small enough for a product -/
def sm (m : M4) : Prop := m.le 1000000000000000000
theorem F_times (m n : M4) (s : Src) (h : sm n) : F_table_times [.d m.D, .d n.D] s = .ok (m.mul n).D s := by
  obtain ⟨h1, h2, h3, h4⟩ := h
  refine run_ok (e0 := [.d m.D, .d n.D, .un, .un, .un, .un, .un, .un, .un, .un]) ?_
  have sz : ∀ x y z u : Pt.D, szB [x, y, z, u].length = true := fun _ _ _ _ => rfl
  unfold m_table_times M4.D
  simp -implicitDefEqProofs (disch := (first | omega | assumption | exact Pt.mul_r (by omega) (by omega) | exact Pt.mul_l (by omega) (by omega) | exact ml _ _ | decide)) only [↓Pt.gt_ok, ↓Pt.gt_bind, ↓Pt.gt_lift, ↓Pt.at_0, ↓Pt.at_s, ↓Pt.nt_0, ↓Pt.nt_s, ↓Pt.vd_d, ↓Pt.vd_h, ↓Pt.vo_l, ↓Pt.vo_k, ↓Pt.vo_t, ↓Pt.vl_l, ↓Pt.vs_s, ↓Pt.pu_0, ↓Pt.pu_s, ↓Pt.wi_0, ↓Pt.wi_s, ↓Pt.bp_n, ↓Pt.bp_t, ↓Pt.bp_l, ↓Pt.bps_0, ↓Pt.bps_s, ↓Pt.bo_t, ↓Pt.bo_f, ↓Pt.bo_not, ↓Pt.gt_var, ↓Pt.gt_own, ↓Pt.gt_c, ↓Pt.gt_bin, ↓Pt.gt_un, ↓Pt.gt_tst, ↓Pt.gt_andT, ↓Pt.gt_orT, ↓Pt.gt_notT, ↓Pt.gt_and, ↓Pt.gt_or, ↓Pt.gt_not, ↓Pt.gt_if, ↓Pt.gt_chain, ↓Pt.gt_nil, ↓Pt.gt_cons, ↓Pt.gt_consA, ↓Pt.gt_consS, ↓Pt.gt_tup, ↓Pt.gt_lst, ↓Pt.gt_fz, ↓Pt.gt_fzD, ↓Pt.gt_call, ↓Pt.gt_callL, ↓Pt.gt_callK, ↓Pt.gt_app, ↓Pt.gt_sl, ↓Pt.gt_none, ↓Pt.gt_some, ↓Pt.ls_l, ↓Pt.gt_rev, ↓Pt.gt_sq, ↓Pt.ox_some, ↓Pt.seq_l, ↓Pt.seq_t, ↓Pt.tst_b, ↓Pt.intD_i, ↓Pt.z1_i, ↓Pt.z2_i, ↓Pt.gt_rg1, ↓Pt.gt_rg1J, ↓Pt.gt_rg2, ↓Pt.gt_srcI, ↓Pt.gt_srcLen, ↓Pt.gt_lc, ↓Pt.gt_yes, ↓Pt.gl_nil, ↓Pt.gl_cons, ↓Pt.gl_ok, ↓Pt.vh_h, ↓Pt.vt_t, ↓Pt.gt_ht, ↓Pt.gt_tupL, ↓Pt.lst_l, ↓Pt.gt_newD, ↓Pt.tag_t, ↓Pt.gt_get2T, ↓Pt.key_3, ↓Pt.zp_l, ↓Pt.zp_t, ↓Pt.gt_zip, ↓Pt.pair_0, ↓Pt.pair_s, ↓Pt.gs_seq, ↓Pt.sq_nx, ↓Pt.sq_rt, ↓Pt.sq_bk, ↓Pt.sq_ct, ↓Pt.sq_ex, ↓Pt.gs_skip, ↓Pt.gs_brk, ↓Pt.gs_cnt, ↓Pt.gs_nx, ↓Pt.gs_put, ↓Pt.gs_putZ, ↓Pt.gt_map, ↓Pt.gs_ret, ↓Pt.gs_drop, ↓Pt.gs_if, ↓Pt.gs_bind, ↓Pt.gs_par, ↓Pt.gs_par3, ↓Pt.gs_for, ↓Pt.fg_nx, ↓Pt.fg_ct, ↓Pt.fg_bk, ↓Pt.fg_rt, ↓Pt.gs_frz, ↓Pt.fe_s, ↓Pt.fe_l, ↓Pt.fe_k, ↓Pt.fe_t, ↓Pt.fe_d, ↓Pt.gs_apd, ↓Pt.gs_putT, ↓Pt.gs_srcPut, ↓Pt.ox_add, ↓Pt.ox_addL, ↓Pt.ox_addT, ↓Pt.ox_sub, ↓Pt.ox_mul, ↓Pt.ox_div, ↓Pt.ox_mod, ↓Pt.ox_neg, ↓Pt.ox_lt, ↓Pt.ox_le, ↓Pt.ox_gt, ↓Pt.ox_ge, ↓Pt.ox_eq, ↓Pt.ox_ne, ↓Pt.ox_eqS, ↓Pt.ox_neS, ↓Pt.ox_eqL, ↓Pt.ox_neL, ↓Pt.ox_eqT, ↓Pt.ox_neT, ↓Pt.ox_ix0, ↓Pt.ox_ix1, ↓Pt.ox_ix2, ↓Pt.ox_ix3, ↓Pt.ox_ixT0, ↓Pt.ox_ixT1, ↓Pt.ox_ixT2, ↓Pt.ox_ixT3, ↓Pt.ox_pow20, ↓Pt.ox_lenL, ↓Pt.ox_lenT, ↓Pt.ox_int, ↓Pt.ox_abs, ↓Pt.ox_max, ↓Pt.ox_min, ↓Pt.ox_tup, ↓Pt.ox_tupT, ↓Pt.ox_list, ↓Pt.ox_listT, ↓Pt.ox_repr, sz, true_and]
  rfl
theorem big_ok {i j : Int} (h1 : i.natAbs ≤ 10 ^ 100) (h2 : j.natAbs ≤ 10 ^ 100) : mulB i j = true :=
  mul_w (Nat.lt_of_le_of_lt h1 (by decide)) (Nat.lt_of_le_of_lt h2 (by decide))
theorem sz3 (a b c : Pt.D) : szB [a, b, c].length = true := rfl
theorem sz4 (a b c d : Pt.D) : szB [a, b, c, d].length = true := rfl
theorem sz2 (a b : Pt.D) : szB [a, b].length = true := rfl
theorem F_trace (m : M4) (s : Src) : F_trace_of [.d m.D] s = .ok (.int m.tr) s := by
  refine run_ok (e0 := [.d m.D]) ?_
  unfold m_trace_of M4.D
  simp -implicitDefEqProofs (disch := (first | omega | assumption | exact Pt.mul_r (by omega) (by omega) | exact Pt.mul_l (by omega) (by omega) | exact ml _ _ | decide)) only [↓Pt.gt_ok, ↓Pt.gt_bind, ↓Pt.gt_lift, ↓Pt.at_0, ↓Pt.at_s, ↓Pt.nt_0, ↓Pt.nt_s, ↓Pt.vd_d, ↓Pt.vd_h, ↓Pt.vo_l, ↓Pt.vo_k, ↓Pt.vo_t, ↓Pt.vl_l, ↓Pt.vs_s, ↓Pt.pu_0, ↓Pt.pu_s, ↓Pt.wi_0, ↓Pt.wi_s, ↓Pt.bp_n, ↓Pt.bp_t, ↓Pt.bp_l, ↓Pt.bps_0, ↓Pt.bps_s, ↓Pt.bo_t, ↓Pt.bo_f, ↓Pt.bo_not, ↓Pt.gt_var, ↓Pt.gt_own, ↓Pt.gt_c, ↓Pt.gt_bin, ↓Pt.gt_un, ↓Pt.gt_tst, ↓Pt.gt_andT, ↓Pt.gt_orT, ↓Pt.gt_notT, ↓Pt.gt_and, ↓Pt.gt_or, ↓Pt.gt_not, ↓Pt.gt_if, ↓Pt.gt_chain, ↓Pt.gt_nil, ↓Pt.gt_cons, ↓Pt.gt_consA, ↓Pt.gt_consS, ↓Pt.gt_tup, ↓Pt.gt_lst, ↓Pt.gt_fz, ↓Pt.gt_fzD, ↓Pt.gt_call, ↓Pt.gt_callL, ↓Pt.gt_callK, ↓Pt.gt_app, ↓Pt.gt_sl, ↓Pt.gt_none, ↓Pt.gt_some, ↓Pt.ls_l, ↓Pt.gt_rev, ↓Pt.gt_sq, ↓Pt.ox_some, ↓Pt.seq_l, ↓Pt.seq_t, ↓Pt.tst_b, ↓Pt.intD_i, ↓Pt.z1_i, ↓Pt.z2_i, ↓Pt.gt_rg1, ↓Pt.gt_rg1J, ↓Pt.gt_rg2, ↓Pt.gt_srcI, ↓Pt.gt_srcLen, ↓Pt.gt_lc, ↓Pt.gt_yes, ↓Pt.gl_nil, ↓Pt.gl_cons, ↓Pt.gl_ok, ↓Pt.vh_h, ↓Pt.vt_t, ↓Pt.gt_ht, ↓Pt.gt_tupL, ↓Pt.lst_l, ↓Pt.gt_newD, ↓Pt.tag_t, ↓Pt.gt_get2T, ↓Pt.key_3, ↓Pt.zp_l, ↓Pt.zp_t, ↓Pt.gt_zip, ↓Pt.pair_0, ↓Pt.pair_s, ↓Pt.gs_seq, ↓Pt.sq_nx, ↓Pt.sq_rt, ↓Pt.sq_bk, ↓Pt.sq_ct, ↓Pt.sq_ex, ↓Pt.gs_skip, ↓Pt.gs_brk, ↓Pt.gs_cnt, ↓Pt.gs_nx, ↓Pt.gs_put, ↓Pt.gs_putZ, ↓Pt.gt_map, ↓Pt.gs_ret, ↓Pt.gs_drop, ↓Pt.gs_if, ↓Pt.gs_bind, ↓Pt.gs_par, ↓Pt.gs_par3, ↓Pt.gs_for, ↓Pt.fg_nx, ↓Pt.fg_ct, ↓Pt.fg_bk, ↓Pt.fg_rt, ↓Pt.gs_frz, ↓Pt.fe_s, ↓Pt.fe_l, ↓Pt.fe_k, ↓Pt.fe_t, ↓Pt.fe_d, ↓Pt.gs_apd, ↓Pt.gs_putT, ↓Pt.gs_srcPut, ↓Pt.ox_add, ↓Pt.ox_addL, ↓Pt.ox_addT, ↓Pt.ox_sub, ↓Pt.ox_mul, ↓Pt.ox_div, ↓Pt.ox_mod, ↓Pt.ox_neg, ↓Pt.ox_lt, ↓Pt.ox_le, ↓Pt.ox_gt, ↓Pt.ox_ge, ↓Pt.ox_eq, ↓Pt.ox_ne, ↓Pt.ox_eqS, ↓Pt.ox_neS, ↓Pt.ox_eqL, ↓Pt.ox_neL, ↓Pt.ox_eqT, ↓Pt.ox_neT, ↓Pt.ox_ix0, ↓Pt.ox_ix1, ↓Pt.ox_ix2, ↓Pt.ox_ix3, ↓Pt.ox_ixT0, ↓Pt.ox_ixT1, ↓Pt.ox_ixT2, ↓Pt.ox_ixT3, ↓Pt.ox_pow20, ↓Pt.ox_lenL, ↓Pt.ox_lenT, ↓Pt.ox_int, ↓Pt.ox_abs, ↓Pt.ox_max, ↓Pt.ox_min, ↓Pt.ox_tup, ↓Pt.ox_tupT, ↓Pt.ox_list, ↓Pt.ox_listT, ↓Pt.ox_repr]
  rfl
abbrev tri (m n : M4) : D := .tuple [.int m.tr, .int n.tr, .int (m.mul n).tr]
theorem F_tracedP (m n : M4) (s : Src) (h : sm n) : F_traced [.d (.tuple [m.D, n.D])] s = .ok (tri m n) s := by
  refine run_ok (e0 := [.d (.tuple [m.D, n.D])]) ?_
  have f1 := F_trace m s
  have f2 := F_trace n s
  have f3 := F_times m n s h
  have f4 := F_trace (m.mul n) s
  unfold m_traced
  simp -implicitDefEqProofs (disch := (first | omega | assumption | exact Pt.mul_r (by omega) (by omega) | exact Pt.mul_l (by omega) (by omega) | exact ml _ _ | decide)) only [↓Pt.gt_ok, ↓Pt.gt_bind, ↓Pt.gt_lift, ↓Pt.at_0, ↓Pt.at_s, ↓Pt.nt_0, ↓Pt.nt_s, ↓Pt.vd_d, ↓Pt.vd_h, ↓Pt.vo_l, ↓Pt.vo_k, ↓Pt.vo_t, ↓Pt.vl_l, ↓Pt.vs_s, ↓Pt.pu_0, ↓Pt.pu_s, ↓Pt.wi_0, ↓Pt.wi_s, ↓Pt.bp_n, ↓Pt.bp_t, ↓Pt.bp_l, ↓Pt.bps_0, ↓Pt.bps_s, ↓Pt.bo_t, ↓Pt.bo_f, ↓Pt.bo_not, ↓Pt.gt_var, ↓Pt.gt_own, ↓Pt.gt_c, ↓Pt.gt_bin, ↓Pt.gt_un, ↓Pt.gt_tst, ↓Pt.gt_andT, ↓Pt.gt_orT, ↓Pt.gt_notT, ↓Pt.gt_and, ↓Pt.gt_or, ↓Pt.gt_not, ↓Pt.gt_if, ↓Pt.gt_chain, ↓Pt.gt_nil, ↓Pt.gt_cons, ↓Pt.gt_consA, ↓Pt.gt_consS, ↓Pt.gt_tup, ↓Pt.gt_lst, ↓Pt.gt_fz, ↓Pt.gt_fzD, ↓Pt.gt_call, ↓Pt.gt_callL, ↓Pt.gt_callK, ↓Pt.gt_app, ↓Pt.gt_sl, ↓Pt.gt_none, ↓Pt.gt_some, ↓Pt.ls_l, ↓Pt.gt_rev, ↓Pt.gt_sq, ↓Pt.ox_some, ↓Pt.seq_l, ↓Pt.seq_t, ↓Pt.tst_b, ↓Pt.intD_i, ↓Pt.z1_i, ↓Pt.z2_i, ↓Pt.gt_rg1, ↓Pt.gt_rg1J, ↓Pt.gt_rg2, ↓Pt.gt_srcI, ↓Pt.gt_srcLen, ↓Pt.gt_lc, ↓Pt.gt_yes, ↓Pt.gl_nil, ↓Pt.gl_cons, ↓Pt.gl_ok, ↓Pt.vh_h, ↓Pt.vt_t, ↓Pt.gt_ht, ↓Pt.gt_tupL, ↓Pt.lst_l, ↓Pt.gt_newD, ↓Pt.tag_t, ↓Pt.gt_get2T, ↓Pt.key_3, ↓Pt.zp_l, ↓Pt.zp_t, ↓Pt.gt_zip, ↓Pt.pair_0, ↓Pt.pair_s, ↓Pt.gs_seq, ↓Pt.sq_nx, ↓Pt.sq_rt, ↓Pt.sq_bk, ↓Pt.sq_ct, ↓Pt.sq_ex, ↓Pt.gs_skip, ↓Pt.gs_brk, ↓Pt.gs_cnt, ↓Pt.gs_nx, ↓Pt.gs_put, ↓Pt.gs_putZ, ↓Pt.gt_map, ↓Pt.gs_ret, ↓Pt.gs_drop, ↓Pt.gs_if, ↓Pt.gs_bind, ↓Pt.gs_par, ↓Pt.gs_par3, ↓Pt.gs_for, ↓Pt.fg_nx, ↓Pt.fg_ct, ↓Pt.fg_bk, ↓Pt.fg_rt, ↓Pt.gs_frz, ↓Pt.fe_s, ↓Pt.fe_l, ↓Pt.fe_k, ↓Pt.fe_t, ↓Pt.fe_d, ↓Pt.gs_apd, ↓Pt.gs_putT, ↓Pt.gs_srcPut, ↓Pt.ox_add, ↓Pt.ox_addL, ↓Pt.ox_addT, ↓Pt.ox_sub, ↓Pt.ox_mul, ↓Pt.ox_div, ↓Pt.ox_mod, ↓Pt.ox_neg, ↓Pt.ox_lt, ↓Pt.ox_le, ↓Pt.ox_gt, ↓Pt.ox_ge, ↓Pt.ox_eq, ↓Pt.ox_ne, ↓Pt.ox_eqS, ↓Pt.ox_neS, ↓Pt.ox_eqL, ↓Pt.ox_neL, ↓Pt.ox_eqT, ↓Pt.ox_neT, ↓Pt.ox_ix0, ↓Pt.ox_ix1, ↓Pt.ox_ix2, ↓Pt.ox_ix3, ↓Pt.ox_ixT0, ↓Pt.ox_ixT1, ↓Pt.ox_ixT2, ↓Pt.ox_ixT3, ↓Pt.ox_pow20, ↓Pt.ox_lenL, ↓Pt.ox_lenT, ↓Pt.ox_int, ↓Pt.ox_abs, ↓Pt.ox_max, ↓Pt.ox_min, ↓Pt.ox_tup, ↓Pt.ox_tupT, ↓Pt.ox_list, ↓Pt.ox_listT, ↓Pt.ox_repr, ↓gt_eq f1, ↓gt_eq f2, ↓gt_eq f3, ↓gt_eq f4, sz3, true_and]
theorem F_kof {x y z : Int} (s : Src) (hx : x.natAbs ≤ 10 ^ 40) (hy : y.natAbs ≤ 10 ^ 40) (hz : z.natAbs ≤ 10 ^ 40) : F_k_of [.d (.tuple [.int x, .int y, .int z])] s = .ok (.int (kk x y z)) s := by
  refine run_ok (e0 := [.d (.tuple [.int x, .int y, .int z]), .un, .un, .un]) ?_
  have q1 : mulB x x = true := big_ok (Nat.le_trans hx (by decide)) (Nat.le_trans hx (by decide))
  have q2 : mulB y y = true := big_ok (Nat.le_trans hy (by decide)) (Nat.le_trans hy (by decide))
  have q3 : mulB z z = true := big_ok (Nat.le_trans hz (by decide)) (Nat.le_trans hz (by decide))
  have q4 : mulB x y = true := big_ok (Nat.le_trans hx (by decide)) (Nat.le_trans hy (by decide))
  have q5 : mulB (x * y) z = true := big_ok (Nat.le_trans (mul_le' hx hy) (by decide)) (Nat.le_trans hz (by decide))
  unfold m_k_of
  simp -implicitDefEqProofs (disch := (first | assumption | decide)) only [↓Pt.gt_ok, ↓Pt.gt_bind, ↓Pt.gt_lift, ↓Pt.at_0, ↓Pt.at_s, ↓Pt.nt_0, ↓Pt.nt_s, ↓Pt.vd_d, ↓Pt.vd_h, ↓Pt.vo_l, ↓Pt.vo_k, ↓Pt.vo_t, ↓Pt.vl_l, ↓Pt.vs_s, ↓Pt.pu_0, ↓Pt.pu_s, ↓Pt.wi_0, ↓Pt.wi_s, ↓Pt.bp_n, ↓Pt.bp_t, ↓Pt.bp_l, ↓Pt.bps_0, ↓Pt.bps_s, ↓Pt.bo_t, ↓Pt.bo_f, ↓Pt.bo_not, ↓Pt.gt_var, ↓Pt.gt_own, ↓Pt.gt_c, ↓Pt.gt_bin, ↓Pt.gt_un, ↓Pt.gt_tst, ↓Pt.gt_andT, ↓Pt.gt_orT, ↓Pt.gt_notT, ↓Pt.gt_and, ↓Pt.gt_or, ↓Pt.gt_not, ↓Pt.gt_if, ↓Pt.gt_chain, ↓Pt.gt_nil, ↓Pt.gt_cons, ↓Pt.gt_consA, ↓Pt.gt_consS, ↓Pt.gt_tup, ↓Pt.gt_lst, ↓Pt.gt_fz, ↓Pt.gt_fzD, ↓Pt.gt_call, ↓Pt.gt_callL, ↓Pt.gt_callK, ↓Pt.gt_app, ↓Pt.gt_sl, ↓Pt.gt_none, ↓Pt.gt_some, ↓Pt.ls_l, ↓Pt.gt_rev, ↓Pt.gt_sq, ↓Pt.ox_some, ↓Pt.seq_l, ↓Pt.seq_t, ↓Pt.tst_b, ↓Pt.intD_i, ↓Pt.z1_i, ↓Pt.z2_i, ↓Pt.gt_rg1, ↓Pt.gt_rg1J, ↓Pt.gt_rg2, ↓Pt.gt_srcI, ↓Pt.gt_srcLen, ↓Pt.gt_lc, ↓Pt.gt_yes, ↓Pt.gl_nil, ↓Pt.gl_cons, ↓Pt.gl_ok, ↓Pt.vh_h, ↓Pt.vt_t, ↓Pt.gt_ht, ↓Pt.gt_tupL, ↓Pt.lst_l, ↓Pt.gt_newD, ↓Pt.tag_t, ↓Pt.gt_get2T, ↓Pt.key_3, ↓Pt.zp_l, ↓Pt.zp_t, ↓Pt.gt_zip, ↓Pt.pair_0, ↓Pt.pair_s, ↓Pt.gs_seq, ↓Pt.sq_nx, ↓Pt.sq_rt, ↓Pt.sq_bk, ↓Pt.sq_ct, ↓Pt.sq_ex, ↓Pt.gs_skip, ↓Pt.gs_brk, ↓Pt.gs_cnt, ↓Pt.gs_nx, ↓Pt.gs_put, ↓Pt.gs_putZ, ↓Pt.gt_map, ↓Pt.gs_ret, ↓Pt.gs_drop, ↓Pt.gs_if, ↓Pt.gs_bind, ↓Pt.gs_par, ↓Pt.gs_par3, ↓Pt.gs_for, ↓Pt.fg_nx, ↓Pt.fg_ct, ↓Pt.fg_bk, ↓Pt.fg_rt, ↓Pt.gs_frz, ↓Pt.fe_s, ↓Pt.fe_l, ↓Pt.fe_k, ↓Pt.fe_t, ↓Pt.fe_d, ↓Pt.gs_apd, ↓Pt.gs_putT, ↓Pt.gs_srcPut, ↓Pt.ox_add, ↓Pt.ox_addL, ↓Pt.ox_addT, ↓Pt.ox_sub, ↓Pt.ox_mul, ↓Pt.ox_div, ↓Pt.ox_mod, ↓Pt.ox_neg, ↓Pt.ox_lt, ↓Pt.ox_le, ↓Pt.ox_gt, ↓Pt.ox_ge, ↓Pt.ox_eq, ↓Pt.ox_ne, ↓Pt.ox_eqS, ↓Pt.ox_neS, ↓Pt.ox_eqL, ↓Pt.ox_neL, ↓Pt.ox_eqT, ↓Pt.ox_neT, ↓Pt.ox_ix0, ↓Pt.ox_ix1, ↓Pt.ox_ix2, ↓Pt.ox_ix3, ↓Pt.ox_ixT0, ↓Pt.ox_ixT1, ↓Pt.ox_ixT2, ↓Pt.ox_ixT3, ↓Pt.ox_pow20, ↓Pt.ox_lenL, ↓Pt.ox_lenT, ↓Pt.ox_int, ↓Pt.ox_abs, ↓Pt.ox_max, ↓Pt.ox_min, ↓Pt.ox_tup, ↓Pt.ox_tupT, ↓Pt.ox_list, ↓Pt.ox_listT, ↓Pt.ox_repr]
  rfl
theorem gt_isi {T : String} {m : Mn Pt.D} {e : Sg} {s : Src} {P : Pt.D → Src → Prop} {E : Str → List (Str × Pt.D) → Src → Prop} : Gt (mIsi T m e s) P E = Gt (m e s) (fun d s1 => P (.bool (isB T (tyNm d))) s1) E := by
  unfold mIsi
  simp only [Pt.gt_bind, Pt.gt_ok]
def wholeB (v : Pt.D) : Bool := match v with
  | .int _ => true
  | _ => false
theorem F_whole (v : Pt.D) (s : Src) : F_is_whole [.d v] s = .ok (.bool (wholeB v)) s := by
  refine run_ok (e0 := [.d v]) ?_
  unfold m_is_whole
  simp -implicitDefEqProofs (disch := (first | omega | assumption | exact Pt.mul_r (by omega) (by omega) | exact Pt.mul_l (by omega) (by omega) | exact ml _ _ | decide)) only [↓Pt.gt_ok, ↓Pt.gt_bind, ↓Pt.gt_lift, ↓Pt.at_0, ↓Pt.at_s, ↓Pt.nt_0, ↓Pt.nt_s, ↓Pt.vd_d, ↓Pt.vd_h, ↓Pt.vo_l, ↓Pt.vo_k, ↓Pt.vo_t, ↓Pt.vl_l, ↓Pt.vs_s, ↓Pt.pu_0, ↓Pt.pu_s, ↓Pt.wi_0, ↓Pt.wi_s, ↓Pt.bp_n, ↓Pt.bp_t, ↓Pt.bp_l, ↓Pt.bps_0, ↓Pt.bps_s, ↓Pt.bo_t, ↓Pt.bo_f, ↓Pt.bo_not, ↓Pt.gt_var, ↓Pt.gt_own, ↓Pt.gt_c, ↓Pt.gt_bin, ↓Pt.gt_un, ↓Pt.gt_tst, ↓Pt.gt_andT, ↓Pt.gt_orT, ↓Pt.gt_notT, ↓Pt.gt_and, ↓Pt.gt_or, ↓Pt.gt_not, ↓Pt.gt_if, ↓Pt.gt_chain, ↓Pt.gt_nil, ↓Pt.gt_cons, ↓Pt.gt_consA, ↓Pt.gt_consS, ↓Pt.gt_tup, ↓Pt.gt_lst, ↓Pt.gt_fz, ↓Pt.gt_fzD, ↓Pt.gt_call, ↓Pt.gt_callL, ↓Pt.gt_callK, ↓Pt.gt_app, ↓Pt.gt_sl, ↓Pt.gt_none, ↓Pt.gt_some, ↓Pt.ls_l, ↓Pt.gt_rev, ↓Pt.gt_sq, ↓Pt.ox_some, ↓Pt.seq_l, ↓Pt.seq_t, ↓Pt.tst_b, ↓Pt.intD_i, ↓Pt.z1_i, ↓Pt.z2_i, ↓Pt.gt_rg1, ↓Pt.gt_rg1J, ↓Pt.gt_rg2, ↓Pt.gt_srcI, ↓Pt.gt_srcLen, ↓Pt.gt_lc, ↓Pt.gt_yes, ↓Pt.gl_nil, ↓Pt.gl_cons, ↓Pt.gl_ok, ↓Pt.vh_h, ↓Pt.vt_t, ↓Pt.gt_ht, ↓Pt.gt_tupL, ↓Pt.lst_l, ↓Pt.gt_newD, ↓Pt.tag_t, ↓Pt.gt_get2T, ↓Pt.key_3, ↓Pt.zp_l, ↓Pt.zp_t, ↓Pt.gt_zip, ↓Pt.pair_0, ↓Pt.pair_s, ↓Pt.gs_seq, ↓Pt.sq_nx, ↓Pt.sq_rt, ↓Pt.sq_bk, ↓Pt.sq_ct, ↓Pt.sq_ex, ↓Pt.gs_skip, ↓Pt.gs_brk, ↓Pt.gs_cnt, ↓Pt.gs_nx, ↓Pt.gs_put, ↓Pt.gs_putZ, ↓Pt.gt_map, ↓Pt.gs_ret, ↓Pt.gs_drop, ↓Pt.gs_if, ↓Pt.gs_bind, ↓Pt.gs_par, ↓Pt.gs_par3, ↓Pt.gs_for, ↓Pt.fg_nx, ↓Pt.fg_ct, ↓Pt.fg_bk, ↓Pt.fg_rt, ↓Pt.gs_frz, ↓Pt.fe_s, ↓Pt.fe_l, ↓Pt.fe_k, ↓Pt.fe_t, ↓Pt.fe_d, ↓Pt.gs_apd, ↓Pt.gs_putT, ↓Pt.gs_srcPut, ↓Pt.ox_add, ↓Pt.ox_addL, ↓Pt.ox_addT, ↓Pt.ox_sub, ↓Pt.ox_mul, ↓Pt.ox_div, ↓Pt.ox_mod, ↓Pt.ox_neg, ↓Pt.ox_lt, ↓Pt.ox_le, ↓Pt.ox_gt, ↓Pt.ox_ge, ↓Pt.ox_eq, ↓Pt.ox_ne, ↓Pt.ox_eqS, ↓Pt.ox_neS, ↓Pt.ox_eqL, ↓Pt.ox_neL, ↓Pt.ox_eqT, ↓Pt.ox_neT, ↓Pt.ox_ix0, ↓Pt.ox_ix1, ↓Pt.ox_ix2, ↓Pt.ox_ix3, ↓Pt.ox_ixT0, ↓Pt.ox_ixT1, ↓Pt.ox_ixT2, ↓Pt.ox_ixT3, ↓Pt.ox_pow20, ↓Pt.ox_lenL, ↓Pt.ox_lenT, ↓Pt.ox_int, ↓Pt.ox_abs, ↓Pt.ox_max, ↓Pt.ox_min, ↓Pt.ox_tup, ↓Pt.ox_tupT, ↓Pt.ox_list, ↓Pt.ox_listT, ↓Pt.ox_repr, ↓gt_isi]
  cases v <;> simp [isB, tyNm, wholeB, Bo]
def tableB (v : Pt.D) : Bool := match v with
  | .tuple [.int a, .int b, .int c, .int d] => decide (a * d - b * c = 1)
  | _ => false
theorem mapM_tst (f : Pt.D → Bool) : ∀ ds : List Pt.D, (ds.map fun v => PyData.bool (f v)).mapM tst = some (ds.map f)
  | [] => rfl
  | d :: r => by
    rw [List.map_cons, List.mapM_cons, mapM_tst f r]
    rfl
theorem ox_all {ds : List Pt.D} {f : Pt.D → Bool} {K : Pt.D → Prop} : Ox (dAll [.list (ds.map fun v => PyData.bool (f v))]) K = K (.bool (ds.all f)) := by
  show Ox (((ds.map fun v => PyData.bool (f v)).mapM tst).map fun bs => PyData.bool (bs.all id)) K = _
  rw [mapM_tst]
  show K (.bool ((ds.map f).all id)) = _
  rw [List.all_map]
  rfl
theorem all4 {ds : List Pt.D} (h4 : ds.length = 4) (hw : ds.all wholeB = true) : ∃ a b c d : Int, ds = [.int a, .int b, .int c, .int d] := by
  have w : ∀ v : Pt.D, wholeB v = true → ∃ i, v = .int i := fun v h => by
    cases v <;> first | exact ⟨_, rfl⟩ | cases h
  match ds, h4 with
  | [x, y, z, u], _ =>
    simp only [List.all_cons, List.all_nil, Bool.and_true, Bool.and_eq_true] at hw
    obtain ⟨a, rfl⟩ := w x hw.1
    obtain ⟨b, rfl⟩ := w y hw.2.1
    obtain ⟨c, rfl⟩ := w z hw.2.2.1
    obtain ⟨d, rfl⟩ := w u hw.2.2.2
    exact ⟨a, b, c, d, rfl⟩
theorem F_isT (v : Pt.D) (s : Src) (hv : ∀ a b c d, v = .tuple [.int a, .int b, .int c, .int d] → mulB a d = true ∧ mulB b c = true) : F_is_table [.d v] s = .ok (.bool (tableB v)) s := by
  refine run_ok (e0 := [.d v, .un]) ?_
  unfold m_is_table
  rw [Pt.gs_seq]
  cases v with
  | tuple ds =>
    have go : lcGo (.n 1) mYes (mApp F_is_whole (mConsA (mVar 1) mNil)) ds [.d (.tuple ds), .un] s = .ok ((ds.filter fun _ => true).map fun v => PyData.bool (wholeB v)) s := by
      refine lc_pure _ _ ds fun x hx => ?_
      have fw := F_whole x s
      simp -implicitDefEqProofs (disch := (first | omega | assumption | exact Pt.mul_r (by omega) (by omega) | exact Pt.mul_l (by omega) (by omega) | exact ml _ _ | decide)) only [↓Pt.gt_ok, ↓Pt.gt_bind, ↓Pt.gt_lift, ↓Pt.at_0, ↓Pt.at_s, ↓Pt.nt_0, ↓Pt.nt_s, ↓Pt.vd_d, ↓Pt.vd_h, ↓Pt.vo_l, ↓Pt.vo_k, ↓Pt.vo_t, ↓Pt.vl_l, ↓Pt.vs_s, ↓Pt.pu_0, ↓Pt.pu_s, ↓Pt.wi_0, ↓Pt.wi_s, ↓Pt.bp_n, ↓Pt.bp_t, ↓Pt.bp_l, ↓Pt.bps_0, ↓Pt.bps_s, ↓Pt.bo_t, ↓Pt.bo_f, ↓Pt.bo_not, ↓Pt.gt_var, ↓Pt.gt_own, ↓Pt.gt_c, ↓Pt.gt_bin, ↓Pt.gt_un, ↓Pt.gt_tst, ↓Pt.gt_andT, ↓Pt.gt_orT, ↓Pt.gt_notT, ↓Pt.gt_and, ↓Pt.gt_or, ↓Pt.gt_not, ↓Pt.gt_if, ↓Pt.gt_chain, ↓Pt.gt_nil, ↓Pt.gt_cons, ↓Pt.gt_consA, ↓Pt.gt_consS, ↓Pt.gt_tup, ↓Pt.gt_lst, ↓Pt.gt_fz, ↓Pt.gt_fzD, ↓Pt.gt_call, ↓Pt.gt_callL, ↓Pt.gt_callK, ↓Pt.gt_app, ↓Pt.gt_sl, ↓Pt.gt_none, ↓Pt.gt_some, ↓Pt.ls_l, ↓Pt.gt_rev, ↓Pt.gt_sq, ↓Pt.ox_some, ↓Pt.seq_l, ↓Pt.seq_t, ↓Pt.tst_b, ↓Pt.intD_i, ↓Pt.z1_i, ↓Pt.z2_i, ↓Pt.gt_rg1, ↓Pt.gt_rg1J, ↓Pt.gt_rg2, ↓Pt.gt_srcI, ↓Pt.gt_srcLen, ↓Pt.gt_lc, ↓Pt.gt_yes, ↓Pt.gl_nil, ↓Pt.gl_cons, ↓Pt.gl_ok, ↓Pt.vh_h, ↓Pt.vt_t, ↓Pt.gt_ht, ↓Pt.gt_tupL, ↓Pt.lst_l, ↓Pt.gt_newD, ↓Pt.tag_t, ↓Pt.gt_get2T, ↓Pt.key_3, ↓Pt.zp_l, ↓Pt.zp_t, ↓Pt.gt_zip, ↓Pt.pair_0, ↓Pt.pair_s, ↓Pt.gs_seq, ↓Pt.sq_nx, ↓Pt.sq_rt, ↓Pt.sq_bk, ↓Pt.sq_ct, ↓Pt.sq_ex, ↓Pt.gs_skip, ↓Pt.gs_brk, ↓Pt.gs_cnt, ↓Pt.gs_nx, ↓Pt.gs_put, ↓Pt.gs_putZ, ↓Pt.gt_map, ↓Pt.gs_ret, ↓Pt.gs_drop, ↓Pt.gs_if, ↓Pt.gs_bind, ↓Pt.gs_par, ↓Pt.gs_par3, ↓Pt.gs_for, ↓Pt.fg_nx, ↓Pt.fg_ct, ↓Pt.fg_bk, ↓Pt.fg_rt, ↓Pt.gs_frz, ↓Pt.fe_s, ↓Pt.fe_l, ↓Pt.fe_k, ↓Pt.fe_t, ↓Pt.fe_d, ↓Pt.gs_apd, ↓Pt.gs_putT, ↓Pt.gs_srcPut, ↓Pt.ox_add, ↓Pt.ox_addL, ↓Pt.ox_addT, ↓Pt.ox_sub, ↓Pt.ox_mul, ↓Pt.ox_div, ↓Pt.ox_mod, ↓Pt.ox_neg, ↓Pt.ox_lt, ↓Pt.ox_le, ↓Pt.ox_gt, ↓Pt.ox_ge, ↓Pt.ox_eq, ↓Pt.ox_ne, ↓Pt.ox_eqS, ↓Pt.ox_neS, ↓Pt.ox_eqL, ↓Pt.ox_neL, ↓Pt.ox_eqT, ↓Pt.ox_neT, ↓Pt.ox_ix0, ↓Pt.ox_ix1, ↓Pt.ox_ix2, ↓Pt.ox_ix3, ↓Pt.ox_ixT0, ↓Pt.ox_ixT1, ↓Pt.ox_ixT2, ↓Pt.ox_ixT3, ↓Pt.ox_pow20, ↓Pt.ox_lenL, ↓Pt.ox_lenT, ↓Pt.ox_int, ↓Pt.ox_abs, ↓Pt.ox_max, ↓Pt.ox_min, ↓Pt.ox_tup, ↓Pt.ox_tupT, ↓Pt.ox_list, ↓Pt.ox_listT, ↓Pt.ox_repr, ↓gt_eq fw, and_self, implies_true]
    have ft : (ds.filter fun _ => true) = ds := List.filter_eq_self.mpr fun _ _ => rfl
    rw [ft] at go
    simp -implicitDefEqProofs (disch := (first | omega | assumption | exact Pt.mul_r (by omega) (by omega) | exact Pt.mul_l (by omega) (by omega) | exact ml _ _ | decide)) only [↓Pt.gt_ok, ↓Pt.gt_bind, ↓Pt.gt_lift, ↓Pt.at_0, ↓Pt.at_s, ↓Pt.nt_0, ↓Pt.nt_s, ↓Pt.vd_d, ↓Pt.vd_h, ↓Pt.vo_l, ↓Pt.vo_k, ↓Pt.vo_t, ↓Pt.vl_l, ↓Pt.vs_s, ↓Pt.pu_0, ↓Pt.pu_s, ↓Pt.wi_0, ↓Pt.wi_s, ↓Pt.bp_n, ↓Pt.bp_t, ↓Pt.bp_l, ↓Pt.bps_0, ↓Pt.bps_s, ↓Pt.bo_t, ↓Pt.bo_f, ↓Pt.bo_not, ↓Pt.gt_var, ↓Pt.gt_own, ↓Pt.gt_c, ↓Pt.gt_bin, ↓Pt.gt_un, ↓Pt.gt_tst, ↓Pt.gt_andT, ↓Pt.gt_orT, ↓Pt.gt_notT, ↓Pt.gt_and, ↓Pt.gt_or, ↓Pt.gt_not, ↓Pt.gt_if, ↓Pt.gt_chain, ↓Pt.gt_nil, ↓Pt.gt_cons, ↓Pt.gt_consA, ↓Pt.gt_consS, ↓Pt.gt_tup, ↓Pt.gt_lst, ↓Pt.gt_fz, ↓Pt.gt_fzD, ↓Pt.gt_call, ↓Pt.gt_callL, ↓Pt.gt_callK, ↓Pt.gt_app, ↓Pt.gt_sl, ↓Pt.gt_none, ↓Pt.gt_some, ↓Pt.ls_l, ↓Pt.gt_rev, ↓Pt.gt_sq, ↓Pt.ox_some, ↓Pt.seq_l, ↓Pt.seq_t, ↓Pt.tst_b, ↓Pt.intD_i, ↓Pt.z1_i, ↓Pt.z2_i, ↓Pt.gt_rg1, ↓Pt.gt_rg1J, ↓Pt.gt_rg2, ↓Pt.gt_srcI, ↓Pt.gt_srcLen, ↓Pt.gt_lc, ↓Pt.gt_yes, ↓Pt.gl_nil, ↓Pt.gl_cons, ↓Pt.gl_ok, ↓Pt.vh_h, ↓Pt.vt_t, ↓Pt.gt_ht, ↓Pt.gt_tupL, ↓Pt.lst_l, ↓Pt.gt_newD, ↓Pt.tag_t, ↓Pt.gt_get2T, ↓Pt.key_3, ↓Pt.zp_l, ↓Pt.zp_t, ↓Pt.gt_zip, ↓Pt.pair_0, ↓Pt.pair_s, ↓Pt.gs_seq, ↓Pt.sq_nx, ↓Pt.sq_rt, ↓Pt.sq_bk, ↓Pt.sq_ct, ↓Pt.sq_ex, ↓Pt.gs_skip, ↓Pt.gs_brk, ↓Pt.gs_cnt, ↓Pt.gs_nx, ↓Pt.gs_put, ↓Pt.gs_putZ, ↓Pt.gt_map, ↓Pt.gs_ret, ↓Pt.gs_drop, ↓Pt.gs_if, ↓Pt.gs_bind, ↓Pt.gs_par, ↓Pt.gs_par3, ↓Pt.gs_for, ↓Pt.fg_nx, ↓Pt.fg_ct, ↓Pt.fg_bk, ↓Pt.fg_rt, ↓Pt.gs_frz, ↓Pt.fe_s, ↓Pt.fe_l, ↓Pt.fe_k, ↓Pt.fe_t, ↓Pt.fe_d, ↓Pt.gs_apd, ↓Pt.gs_putT, ↓Pt.gs_srcPut, ↓Pt.ox_add, ↓Pt.ox_addL, ↓Pt.ox_addT, ↓Pt.ox_sub, ↓Pt.ox_mul, ↓Pt.ox_div, ↓Pt.ox_mod, ↓Pt.ox_neg, ↓Pt.ox_lt, ↓Pt.ox_le, ↓Pt.ox_gt, ↓Pt.ox_ge, ↓Pt.ox_eq, ↓Pt.ox_ne, ↓Pt.ox_eqS, ↓Pt.ox_neS, ↓Pt.ox_eqL, ↓Pt.ox_neL, ↓Pt.ox_eqT, ↓Pt.ox_neT, ↓Pt.ox_ix0, ↓Pt.ox_ix1, ↓Pt.ox_ix2, ↓Pt.ox_ix3, ↓Pt.ox_ixT0, ↓Pt.ox_ixT1, ↓Pt.ox_ixT2, ↓Pt.ox_ixT3, ↓Pt.ox_pow20, ↓Pt.ox_lenL, ↓Pt.ox_lenT, ↓Pt.ox_int, ↓Pt.ox_abs, ↓Pt.ox_max, ↓Pt.ox_min, ↓Pt.ox_tup, ↓Pt.ox_tupT, ↓Pt.ox_list, ↓Pt.ox_listT, ↓Pt.ox_repr, ↓gt_isi, go, ↓ox_all]
    have t1 : isB "tuple" (tyNm (.tuple ds)) = true := rfl
    rw [t1]
    by_cases h4 : ds.length = 4
    · have l4 : ((ds.length : Nat) : Int) = 4 := by omega
      by_cases hw : ds.all wholeB = true
      · obtain ⟨a, b, c, d, e⟩ := all4 h4 hw
        subst e
        obtain ⟨m1, m2⟩ := hv a b c d rfl
        simp -implicitDefEqProofs (disch := (first | assumption | decide)) only [↓Pt.gt_ok, ↓Pt.gt_bind, ↓Pt.gt_lift, ↓Pt.at_0, ↓Pt.at_s, ↓Pt.nt_0, ↓Pt.nt_s, ↓Pt.vd_d, ↓Pt.vd_h, ↓Pt.vo_l, ↓Pt.vo_k, ↓Pt.vo_t, ↓Pt.vl_l, ↓Pt.vs_s, ↓Pt.pu_0, ↓Pt.pu_s, ↓Pt.wi_0, ↓Pt.wi_s, ↓Pt.bp_n, ↓Pt.bp_t, ↓Pt.bp_l, ↓Pt.bps_0, ↓Pt.bps_s, ↓Pt.bo_t, ↓Pt.bo_f, ↓Pt.bo_not, ↓Pt.gt_var, ↓Pt.gt_own, ↓Pt.gt_c, ↓Pt.gt_bin, ↓Pt.gt_un, ↓Pt.gt_tst, ↓Pt.gt_andT, ↓Pt.gt_orT, ↓Pt.gt_notT, ↓Pt.gt_and, ↓Pt.gt_or, ↓Pt.gt_not, ↓Pt.gt_if, ↓Pt.gt_chain, ↓Pt.gt_nil, ↓Pt.gt_cons, ↓Pt.gt_consA, ↓Pt.gt_consS, ↓Pt.gt_tup, ↓Pt.gt_lst, ↓Pt.gt_fz, ↓Pt.gt_fzD, ↓Pt.gt_call, ↓Pt.gt_callL, ↓Pt.gt_callK, ↓Pt.gt_app, ↓Pt.gt_sl, ↓Pt.gt_none, ↓Pt.gt_some, ↓Pt.ls_l, ↓Pt.gt_rev, ↓Pt.gt_sq, ↓Pt.ox_some, ↓Pt.seq_l, ↓Pt.seq_t, ↓Pt.tst_b, ↓Pt.intD_i, ↓Pt.z1_i, ↓Pt.z2_i, ↓Pt.gt_rg1, ↓Pt.gt_rg1J, ↓Pt.gt_rg2, ↓Pt.gt_srcI, ↓Pt.gt_srcLen, ↓Pt.gt_lc, ↓Pt.gt_yes, ↓Pt.gl_nil, ↓Pt.gl_cons, ↓Pt.gl_ok, ↓Pt.vh_h, ↓Pt.vt_t, ↓Pt.gt_ht, ↓Pt.gt_tupL, ↓Pt.lst_l, ↓Pt.gt_newD, ↓Pt.tag_t, ↓Pt.gt_get2T, ↓Pt.key_3, ↓Pt.zp_l, ↓Pt.zp_t, ↓Pt.gt_zip, ↓Pt.pair_0, ↓Pt.pair_s, ↓Pt.gs_seq, ↓Pt.sq_nx, ↓Pt.sq_rt, ↓Pt.sq_bk, ↓Pt.sq_ct, ↓Pt.sq_ex, ↓Pt.gs_skip, ↓Pt.gs_brk, ↓Pt.gs_cnt, ↓Pt.gs_nx, ↓Pt.gs_put, ↓Pt.gs_putZ, ↓Pt.gt_map, ↓Pt.gs_ret, ↓Pt.gs_drop, ↓Pt.gs_if, ↓Pt.gs_bind, ↓Pt.gs_par, ↓Pt.gs_par3, ↓Pt.gs_for, ↓Pt.fg_nx, ↓Pt.fg_ct, ↓Pt.fg_bk, ↓Pt.fg_rt, ↓Pt.gs_frz, ↓Pt.fe_s, ↓Pt.fe_l, ↓Pt.fe_k, ↓Pt.fe_t, ↓Pt.fe_d, ↓Pt.gs_apd, ↓Pt.gs_putT, ↓Pt.gs_srcPut, ↓Pt.ox_add, ↓Pt.ox_addL, ↓Pt.ox_addT, ↓Pt.ox_sub, ↓Pt.ox_mul, ↓Pt.ox_div, ↓Pt.ox_mod, ↓Pt.ox_neg, ↓Pt.ox_lt, ↓Pt.ox_le, ↓Pt.ox_gt, ↓Pt.ox_ge, ↓Pt.ox_eq, ↓Pt.ox_ne, ↓Pt.ox_eqS, ↓Pt.ox_neS, ↓Pt.ox_eqL, ↓Pt.ox_neL, ↓Pt.ox_eqT, ↓Pt.ox_neT, ↓Pt.ox_ix0, ↓Pt.ox_ix1, ↓Pt.ox_ix2, ↓Pt.ox_ix3, ↓Pt.ox_ixT0, ↓Pt.ox_ixT1, ↓Pt.ox_ixT2, ↓Pt.ox_ixT3, ↓Pt.ox_pow20, ↓Pt.ox_lenL, ↓Pt.ox_lenT, ↓Pt.ox_int, ↓Pt.ox_abs, ↓Pt.ox_max, ↓Pt.ox_min, ↓Pt.ox_tup, ↓Pt.ox_tupT, ↓Pt.ox_list, ↓Pt.ox_listT, ↓Pt.ox_repr, hw, l4, decide_true, Bool.not_true]
        rfl
      · have hw2 : ds.all wholeB = false := by simpa using hw
        have tf : tableB (.tuple ds) = false := by
          unfold tableB
          split
          · rename_i a b c d e
            cases e
            exact absurd rfl hw
          · rfl
        simp -implicitDefEqProofs (disch := (first | assumption | decide)) only [↓Pt.gt_ok, ↓Pt.gt_bind, ↓Pt.gt_lift, ↓Pt.at_0, ↓Pt.at_s, ↓Pt.nt_0, ↓Pt.nt_s, ↓Pt.vd_d, ↓Pt.vd_h, ↓Pt.vo_l, ↓Pt.vo_k, ↓Pt.vo_t, ↓Pt.vl_l, ↓Pt.vs_s, ↓Pt.pu_0, ↓Pt.pu_s, ↓Pt.wi_0, ↓Pt.wi_s, ↓Pt.bp_n, ↓Pt.bp_t, ↓Pt.bp_l, ↓Pt.bps_0, ↓Pt.bps_s, ↓Pt.bo_t, ↓Pt.bo_f, ↓Pt.bo_not, ↓Pt.gt_var, ↓Pt.gt_own, ↓Pt.gt_c, ↓Pt.gt_bin, ↓Pt.gt_un, ↓Pt.gt_tst, ↓Pt.gt_andT, ↓Pt.gt_orT, ↓Pt.gt_notT, ↓Pt.gt_and, ↓Pt.gt_or, ↓Pt.gt_not, ↓Pt.gt_if, ↓Pt.gt_chain, ↓Pt.gt_nil, ↓Pt.gt_cons, ↓Pt.gt_consA, ↓Pt.gt_consS, ↓Pt.gt_tup, ↓Pt.gt_lst, ↓Pt.gt_fz, ↓Pt.gt_fzD, ↓Pt.gt_call, ↓Pt.gt_callL, ↓Pt.gt_callK, ↓Pt.gt_app, ↓Pt.gt_sl, ↓Pt.gt_none, ↓Pt.gt_some, ↓Pt.ls_l, ↓Pt.gt_rev, ↓Pt.gt_sq, ↓Pt.ox_some, ↓Pt.seq_l, ↓Pt.seq_t, ↓Pt.tst_b, ↓Pt.intD_i, ↓Pt.z1_i, ↓Pt.z2_i, ↓Pt.gt_rg1, ↓Pt.gt_rg1J, ↓Pt.gt_rg2, ↓Pt.gt_srcI, ↓Pt.gt_srcLen, ↓Pt.gt_lc, ↓Pt.gt_yes, ↓Pt.gl_nil, ↓Pt.gl_cons, ↓Pt.gl_ok, ↓Pt.vh_h, ↓Pt.vt_t, ↓Pt.gt_ht, ↓Pt.gt_tupL, ↓Pt.lst_l, ↓Pt.gt_newD, ↓Pt.tag_t, ↓Pt.gt_get2T, ↓Pt.key_3, ↓Pt.zp_l, ↓Pt.zp_t, ↓Pt.gt_zip, ↓Pt.pair_0, ↓Pt.pair_s, ↓Pt.gs_seq, ↓Pt.sq_nx, ↓Pt.sq_rt, ↓Pt.sq_bk, ↓Pt.sq_ct, ↓Pt.sq_ex, ↓Pt.gs_skip, ↓Pt.gs_brk, ↓Pt.gs_cnt, ↓Pt.gs_nx, ↓Pt.gs_put, ↓Pt.gs_putZ, ↓Pt.gt_map, ↓Pt.gs_ret, ↓Pt.gs_drop, ↓Pt.gs_if, ↓Pt.gs_bind, ↓Pt.gs_par, ↓Pt.gs_par3, ↓Pt.gs_for, ↓Pt.fg_nx, ↓Pt.fg_ct, ↓Pt.fg_bk, ↓Pt.fg_rt, ↓Pt.gs_frz, ↓Pt.fe_s, ↓Pt.fe_l, ↓Pt.fe_k, ↓Pt.fe_t, ↓Pt.fe_d, ↓Pt.gs_apd, ↓Pt.gs_putT, ↓Pt.gs_srcPut, ↓Pt.ox_add, ↓Pt.ox_addL, ↓Pt.ox_addT, ↓Pt.ox_sub, ↓Pt.ox_mul, ↓Pt.ox_div, ↓Pt.ox_mod, ↓Pt.ox_neg, ↓Pt.ox_lt, ↓Pt.ox_le, ↓Pt.ox_gt, ↓Pt.ox_ge, ↓Pt.ox_eq, ↓Pt.ox_ne, ↓Pt.ox_eqS, ↓Pt.ox_neS, ↓Pt.ox_eqL, ↓Pt.ox_neL, ↓Pt.ox_eqT, ↓Pt.ox_neT, ↓Pt.ox_ix0, ↓Pt.ox_ix1, ↓Pt.ox_ix2, ↓Pt.ox_ix3, ↓Pt.ox_ixT0, ↓Pt.ox_ixT1, ↓Pt.ox_ixT2, ↓Pt.ox_ixT3, ↓Pt.ox_pow20, ↓Pt.ox_lenL, ↓Pt.ox_lenT, ↓Pt.ox_int, ↓Pt.ox_abs, ↓Pt.ox_max, ↓Pt.ox_min, ↓Pt.ox_tup, ↓Pt.ox_tupT, ↓Pt.ox_list, ↓Pt.ox_listT, ↓Pt.ox_repr, hw2, l4, decide_true, Bool.not_true, Bool.not_false, tf]
    · have l4 : ¬ ((ds.length : Nat) : Int) = 4 := by omega
      have tf : tableB (.tuple ds) = false := by
        unfold tableB
        split
        · rename_i a b c d e
          cases e
          exact absurd rfl h4
        · rfl
      simp -implicitDefEqProofs (disch := (first | assumption | decide)) only [↓Pt.gt_ok, ↓Pt.gt_bind, ↓Pt.gt_lift, ↓Pt.at_0, ↓Pt.at_s, ↓Pt.nt_0, ↓Pt.nt_s, ↓Pt.vd_d, ↓Pt.vd_h, ↓Pt.vo_l, ↓Pt.vo_k, ↓Pt.vo_t, ↓Pt.vl_l, ↓Pt.vs_s, ↓Pt.pu_0, ↓Pt.pu_s, ↓Pt.wi_0, ↓Pt.wi_s, ↓Pt.bp_n, ↓Pt.bp_t, ↓Pt.bp_l, ↓Pt.bps_0, ↓Pt.bps_s, ↓Pt.bo_t, ↓Pt.bo_f, ↓Pt.bo_not, ↓Pt.gt_var, ↓Pt.gt_own, ↓Pt.gt_c, ↓Pt.gt_bin, ↓Pt.gt_un, ↓Pt.gt_tst, ↓Pt.gt_andT, ↓Pt.gt_orT, ↓Pt.gt_notT, ↓Pt.gt_and, ↓Pt.gt_or, ↓Pt.gt_not, ↓Pt.gt_if, ↓Pt.gt_chain, ↓Pt.gt_nil, ↓Pt.gt_cons, ↓Pt.gt_consA, ↓Pt.gt_consS, ↓Pt.gt_tup, ↓Pt.gt_lst, ↓Pt.gt_fz, ↓Pt.gt_fzD, ↓Pt.gt_call, ↓Pt.gt_callL, ↓Pt.gt_callK, ↓Pt.gt_app, ↓Pt.gt_sl, ↓Pt.gt_none, ↓Pt.gt_some, ↓Pt.ls_l, ↓Pt.gt_rev, ↓Pt.gt_sq, ↓Pt.ox_some, ↓Pt.seq_l, ↓Pt.seq_t, ↓Pt.tst_b, ↓Pt.intD_i, ↓Pt.z1_i, ↓Pt.z2_i, ↓Pt.gt_rg1, ↓Pt.gt_rg1J, ↓Pt.gt_rg2, ↓Pt.gt_srcI, ↓Pt.gt_srcLen, ↓Pt.gt_lc, ↓Pt.gt_yes, ↓Pt.gl_nil, ↓Pt.gl_cons, ↓Pt.gl_ok, ↓Pt.vh_h, ↓Pt.vt_t, ↓Pt.gt_ht, ↓Pt.gt_tupL, ↓Pt.lst_l, ↓Pt.gt_newD, ↓Pt.tag_t, ↓Pt.gt_get2T, ↓Pt.key_3, ↓Pt.zp_l, ↓Pt.zp_t, ↓Pt.gt_zip, ↓Pt.pair_0, ↓Pt.pair_s, ↓Pt.gs_seq, ↓Pt.sq_nx, ↓Pt.sq_rt, ↓Pt.sq_bk, ↓Pt.sq_ct, ↓Pt.sq_ex, ↓Pt.gs_skip, ↓Pt.gs_brk, ↓Pt.gs_cnt, ↓Pt.gs_nx, ↓Pt.gs_put, ↓Pt.gs_putZ, ↓Pt.gt_map, ↓Pt.gs_ret, ↓Pt.gs_drop, ↓Pt.gs_if, ↓Pt.gs_bind, ↓Pt.gs_par, ↓Pt.gs_par3, ↓Pt.gs_for, ↓Pt.fg_nx, ↓Pt.fg_ct, ↓Pt.fg_bk, ↓Pt.fg_rt, ↓Pt.gs_frz, ↓Pt.fe_s, ↓Pt.fe_l, ↓Pt.fe_k, ↓Pt.fe_t, ↓Pt.fe_d, ↓Pt.gs_apd, ↓Pt.gs_putT, ↓Pt.gs_srcPut, ↓Pt.ox_add, ↓Pt.ox_addL, ↓Pt.ox_addT, ↓Pt.ox_sub, ↓Pt.ox_mul, ↓Pt.ox_div, ↓Pt.ox_mod, ↓Pt.ox_neg, ↓Pt.ox_lt, ↓Pt.ox_le, ↓Pt.ox_gt, ↓Pt.ox_ge, ↓Pt.ox_eq, ↓Pt.ox_ne, ↓Pt.ox_eqS, ↓Pt.ox_neS, ↓Pt.ox_eqL, ↓Pt.ox_neL, ↓Pt.ox_eqT, ↓Pt.ox_neT, ↓Pt.ox_ix0, ↓Pt.ox_ix1, ↓Pt.ox_ix2, ↓Pt.ox_ix3, ↓Pt.ox_ixT0, ↓Pt.ox_ixT1, ↓Pt.ox_ixT2, ↓Pt.ox_ixT3, ↓Pt.ox_pow20, ↓Pt.ox_lenL, ↓Pt.ox_lenT, ↓Pt.ox_int, ↓Pt.ox_abs, ↓Pt.ox_max, ↓Pt.ox_min, ↓Pt.ox_tup, ↓Pt.ox_tupT, ↓Pt.ox_list, ↓Pt.ox_listT, ↓Pt.ox_repr, l4, decide_false, Bool.not_true, Bool.not_false, tf]
  | none =>
    have t0 : isB "tuple" (tyNm .none) = false := rfl
    simp -implicitDefEqProofs (disch := (first | omega | assumption | exact Pt.mul_r (by omega) (by omega) | exact Pt.mul_l (by omega) (by omega) | exact ml _ _ | decide)) only [↓Pt.gt_ok, ↓Pt.gt_bind, ↓Pt.gt_lift, ↓Pt.at_0, ↓Pt.at_s, ↓Pt.nt_0, ↓Pt.nt_s, ↓Pt.vd_d, ↓Pt.vd_h, ↓Pt.vo_l, ↓Pt.vo_k, ↓Pt.vo_t, ↓Pt.vl_l, ↓Pt.vs_s, ↓Pt.pu_0, ↓Pt.pu_s, ↓Pt.wi_0, ↓Pt.wi_s, ↓Pt.bp_n, ↓Pt.bp_t, ↓Pt.bp_l, ↓Pt.bps_0, ↓Pt.bps_s, ↓Pt.bo_t, ↓Pt.bo_f, ↓Pt.bo_not, ↓Pt.gt_var, ↓Pt.gt_own, ↓Pt.gt_c, ↓Pt.gt_bin, ↓Pt.gt_un, ↓Pt.gt_tst, ↓Pt.gt_andT, ↓Pt.gt_orT, ↓Pt.gt_notT, ↓Pt.gt_and, ↓Pt.gt_or, ↓Pt.gt_not, ↓Pt.gt_if, ↓Pt.gt_chain, ↓Pt.gt_nil, ↓Pt.gt_cons, ↓Pt.gt_consA, ↓Pt.gt_consS, ↓Pt.gt_tup, ↓Pt.gt_lst, ↓Pt.gt_fz, ↓Pt.gt_fzD, ↓Pt.gt_call, ↓Pt.gt_callL, ↓Pt.gt_callK, ↓Pt.gt_app, ↓Pt.gt_sl, ↓Pt.gt_none, ↓Pt.gt_some, ↓Pt.ls_l, ↓Pt.gt_rev, ↓Pt.gt_sq, ↓Pt.ox_some, ↓Pt.seq_l, ↓Pt.seq_t, ↓Pt.tst_b, ↓Pt.intD_i, ↓Pt.z1_i, ↓Pt.z2_i, ↓Pt.gt_rg1, ↓Pt.gt_rg1J, ↓Pt.gt_rg2, ↓Pt.gt_srcI, ↓Pt.gt_srcLen, ↓Pt.gt_lc, ↓Pt.gt_yes, ↓Pt.gl_nil, ↓Pt.gl_cons, ↓Pt.gl_ok, ↓Pt.vh_h, ↓Pt.vt_t, ↓Pt.gt_ht, ↓Pt.gt_tupL, ↓Pt.lst_l, ↓Pt.gt_newD, ↓Pt.tag_t, ↓Pt.gt_get2T, ↓Pt.key_3, ↓Pt.zp_l, ↓Pt.zp_t, ↓Pt.gt_zip, ↓Pt.pair_0, ↓Pt.pair_s, ↓Pt.gs_seq, ↓Pt.sq_nx, ↓Pt.sq_rt, ↓Pt.sq_bk, ↓Pt.sq_ct, ↓Pt.sq_ex, ↓Pt.gs_skip, ↓Pt.gs_brk, ↓Pt.gs_cnt, ↓Pt.gs_nx, ↓Pt.gs_put, ↓Pt.gs_putZ, ↓Pt.gt_map, ↓Pt.gs_ret, ↓Pt.gs_drop, ↓Pt.gs_if, ↓Pt.gs_bind, ↓Pt.gs_par, ↓Pt.gs_par3, ↓Pt.gs_for, ↓Pt.fg_nx, ↓Pt.fg_ct, ↓Pt.fg_bk, ↓Pt.fg_rt, ↓Pt.gs_frz, ↓Pt.fe_s, ↓Pt.fe_l, ↓Pt.fe_k, ↓Pt.fe_t, ↓Pt.fe_d, ↓Pt.gs_apd, ↓Pt.gs_putT, ↓Pt.gs_srcPut, ↓Pt.ox_add, ↓Pt.ox_addL, ↓Pt.ox_addT, ↓Pt.ox_sub, ↓Pt.ox_mul, ↓Pt.ox_div, ↓Pt.ox_mod, ↓Pt.ox_neg, ↓Pt.ox_lt, ↓Pt.ox_le, ↓Pt.ox_gt, ↓Pt.ox_ge, ↓Pt.ox_eq, ↓Pt.ox_ne, ↓Pt.ox_eqS, ↓Pt.ox_neS, ↓Pt.ox_eqL, ↓Pt.ox_neL, ↓Pt.ox_eqT, ↓Pt.ox_neT, ↓Pt.ox_ix0, ↓Pt.ox_ix1, ↓Pt.ox_ix2, ↓Pt.ox_ix3, ↓Pt.ox_ixT0, ↓Pt.ox_ixT1, ↓Pt.ox_ixT2, ↓Pt.ox_ixT3, ↓Pt.ox_pow20, ↓Pt.ox_lenL, ↓Pt.ox_lenT, ↓Pt.ox_int, ↓Pt.ox_abs, ↓Pt.ox_max, ↓Pt.ox_min, ↓Pt.ox_tup, ↓Pt.ox_tupT, ↓Pt.ox_list, ↓Pt.ox_listT, ↓Pt.ox_repr, ↓gt_isi, t0, Bool.not_false]
    rfl
  | bool x =>
    have t0 : isB "tuple" (tyNm (.bool x)) = false := rfl
    simp -implicitDefEqProofs (disch := (first | omega | assumption | exact Pt.mul_r (by omega) (by omega) | exact Pt.mul_l (by omega) (by omega) | exact ml _ _ | decide)) only [↓Pt.gt_ok, ↓Pt.gt_bind, ↓Pt.gt_lift, ↓Pt.at_0, ↓Pt.at_s, ↓Pt.nt_0, ↓Pt.nt_s, ↓Pt.vd_d, ↓Pt.vd_h, ↓Pt.vo_l, ↓Pt.vo_k, ↓Pt.vo_t, ↓Pt.vl_l, ↓Pt.vs_s, ↓Pt.pu_0, ↓Pt.pu_s, ↓Pt.wi_0, ↓Pt.wi_s, ↓Pt.bp_n, ↓Pt.bp_t, ↓Pt.bp_l, ↓Pt.bps_0, ↓Pt.bps_s, ↓Pt.bo_t, ↓Pt.bo_f, ↓Pt.bo_not, ↓Pt.gt_var, ↓Pt.gt_own, ↓Pt.gt_c, ↓Pt.gt_bin, ↓Pt.gt_un, ↓Pt.gt_tst, ↓Pt.gt_andT, ↓Pt.gt_orT, ↓Pt.gt_notT, ↓Pt.gt_and, ↓Pt.gt_or, ↓Pt.gt_not, ↓Pt.gt_if, ↓Pt.gt_chain, ↓Pt.gt_nil, ↓Pt.gt_cons, ↓Pt.gt_consA, ↓Pt.gt_consS, ↓Pt.gt_tup, ↓Pt.gt_lst, ↓Pt.gt_fz, ↓Pt.gt_fzD, ↓Pt.gt_call, ↓Pt.gt_callL, ↓Pt.gt_callK, ↓Pt.gt_app, ↓Pt.gt_sl, ↓Pt.gt_none, ↓Pt.gt_some, ↓Pt.ls_l, ↓Pt.gt_rev, ↓Pt.gt_sq, ↓Pt.ox_some, ↓Pt.seq_l, ↓Pt.seq_t, ↓Pt.tst_b, ↓Pt.intD_i, ↓Pt.z1_i, ↓Pt.z2_i, ↓Pt.gt_rg1, ↓Pt.gt_rg1J, ↓Pt.gt_rg2, ↓Pt.gt_srcI, ↓Pt.gt_srcLen, ↓Pt.gt_lc, ↓Pt.gt_yes, ↓Pt.gl_nil, ↓Pt.gl_cons, ↓Pt.gl_ok, ↓Pt.vh_h, ↓Pt.vt_t, ↓Pt.gt_ht, ↓Pt.gt_tupL, ↓Pt.lst_l, ↓Pt.gt_newD, ↓Pt.tag_t, ↓Pt.gt_get2T, ↓Pt.key_3, ↓Pt.zp_l, ↓Pt.zp_t, ↓Pt.gt_zip, ↓Pt.pair_0, ↓Pt.pair_s, ↓Pt.gs_seq, ↓Pt.sq_nx, ↓Pt.sq_rt, ↓Pt.sq_bk, ↓Pt.sq_ct, ↓Pt.sq_ex, ↓Pt.gs_skip, ↓Pt.gs_brk, ↓Pt.gs_cnt, ↓Pt.gs_nx, ↓Pt.gs_put, ↓Pt.gs_putZ, ↓Pt.gt_map, ↓Pt.gs_ret, ↓Pt.gs_drop, ↓Pt.gs_if, ↓Pt.gs_bind, ↓Pt.gs_par, ↓Pt.gs_par3, ↓Pt.gs_for, ↓Pt.fg_nx, ↓Pt.fg_ct, ↓Pt.fg_bk, ↓Pt.fg_rt, ↓Pt.gs_frz, ↓Pt.fe_s, ↓Pt.fe_l, ↓Pt.fe_k, ↓Pt.fe_t, ↓Pt.fe_d, ↓Pt.gs_apd, ↓Pt.gs_putT, ↓Pt.gs_srcPut, ↓Pt.ox_add, ↓Pt.ox_addL, ↓Pt.ox_addT, ↓Pt.ox_sub, ↓Pt.ox_mul, ↓Pt.ox_div, ↓Pt.ox_mod, ↓Pt.ox_neg, ↓Pt.ox_lt, ↓Pt.ox_le, ↓Pt.ox_gt, ↓Pt.ox_ge, ↓Pt.ox_eq, ↓Pt.ox_ne, ↓Pt.ox_eqS, ↓Pt.ox_neS, ↓Pt.ox_eqL, ↓Pt.ox_neL, ↓Pt.ox_eqT, ↓Pt.ox_neT, ↓Pt.ox_ix0, ↓Pt.ox_ix1, ↓Pt.ox_ix2, ↓Pt.ox_ix3, ↓Pt.ox_ixT0, ↓Pt.ox_ixT1, ↓Pt.ox_ixT2, ↓Pt.ox_ixT3, ↓Pt.ox_pow20, ↓Pt.ox_lenL, ↓Pt.ox_lenT, ↓Pt.ox_int, ↓Pt.ox_abs, ↓Pt.ox_max, ↓Pt.ox_min, ↓Pt.ox_tup, ↓Pt.ox_tupT, ↓Pt.ox_list, ↓Pt.ox_listT, ↓Pt.ox_repr, ↓gt_isi, t0, Bool.not_false]
    rfl
  | int x =>
    have t0 : isB "tuple" (tyNm (.int x)) = false := rfl
    simp -implicitDefEqProofs (disch := (first | omega | assumption | exact Pt.mul_r (by omega) (by omega) | exact Pt.mul_l (by omega) (by omega) | exact ml _ _ | decide)) only [↓Pt.gt_ok, ↓Pt.gt_bind, ↓Pt.gt_lift, ↓Pt.at_0, ↓Pt.at_s, ↓Pt.nt_0, ↓Pt.nt_s, ↓Pt.vd_d, ↓Pt.vd_h, ↓Pt.vo_l, ↓Pt.vo_k, ↓Pt.vo_t, ↓Pt.vl_l, ↓Pt.vs_s, ↓Pt.pu_0, ↓Pt.pu_s, ↓Pt.wi_0, ↓Pt.wi_s, ↓Pt.bp_n, ↓Pt.bp_t, ↓Pt.bp_l, ↓Pt.bps_0, ↓Pt.bps_s, ↓Pt.bo_t, ↓Pt.bo_f, ↓Pt.bo_not, ↓Pt.gt_var, ↓Pt.gt_own, ↓Pt.gt_c, ↓Pt.gt_bin, ↓Pt.gt_un, ↓Pt.gt_tst, ↓Pt.gt_andT, ↓Pt.gt_orT, ↓Pt.gt_notT, ↓Pt.gt_and, ↓Pt.gt_or, ↓Pt.gt_not, ↓Pt.gt_if, ↓Pt.gt_chain, ↓Pt.gt_nil, ↓Pt.gt_cons, ↓Pt.gt_consA, ↓Pt.gt_consS, ↓Pt.gt_tup, ↓Pt.gt_lst, ↓Pt.gt_fz, ↓Pt.gt_fzD, ↓Pt.gt_call, ↓Pt.gt_callL, ↓Pt.gt_callK, ↓Pt.gt_app, ↓Pt.gt_sl, ↓Pt.gt_none, ↓Pt.gt_some, ↓Pt.ls_l, ↓Pt.gt_rev, ↓Pt.gt_sq, ↓Pt.ox_some, ↓Pt.seq_l, ↓Pt.seq_t, ↓Pt.tst_b, ↓Pt.intD_i, ↓Pt.z1_i, ↓Pt.z2_i, ↓Pt.gt_rg1, ↓Pt.gt_rg1J, ↓Pt.gt_rg2, ↓Pt.gt_srcI, ↓Pt.gt_srcLen, ↓Pt.gt_lc, ↓Pt.gt_yes, ↓Pt.gl_nil, ↓Pt.gl_cons, ↓Pt.gl_ok, ↓Pt.vh_h, ↓Pt.vt_t, ↓Pt.gt_ht, ↓Pt.gt_tupL, ↓Pt.lst_l, ↓Pt.gt_newD, ↓Pt.tag_t, ↓Pt.gt_get2T, ↓Pt.key_3, ↓Pt.zp_l, ↓Pt.zp_t, ↓Pt.gt_zip, ↓Pt.pair_0, ↓Pt.pair_s, ↓Pt.gs_seq, ↓Pt.sq_nx, ↓Pt.sq_rt, ↓Pt.sq_bk, ↓Pt.sq_ct, ↓Pt.sq_ex, ↓Pt.gs_skip, ↓Pt.gs_brk, ↓Pt.gs_cnt, ↓Pt.gs_nx, ↓Pt.gs_put, ↓Pt.gs_putZ, ↓Pt.gt_map, ↓Pt.gs_ret, ↓Pt.gs_drop, ↓Pt.gs_if, ↓Pt.gs_bind, ↓Pt.gs_par, ↓Pt.gs_par3, ↓Pt.gs_for, ↓Pt.fg_nx, ↓Pt.fg_ct, ↓Pt.fg_bk, ↓Pt.fg_rt, ↓Pt.gs_frz, ↓Pt.fe_s, ↓Pt.fe_l, ↓Pt.fe_k, ↓Pt.fe_t, ↓Pt.fe_d, ↓Pt.gs_apd, ↓Pt.gs_putT, ↓Pt.gs_srcPut, ↓Pt.ox_add, ↓Pt.ox_addL, ↓Pt.ox_addT, ↓Pt.ox_sub, ↓Pt.ox_mul, ↓Pt.ox_div, ↓Pt.ox_mod, ↓Pt.ox_neg, ↓Pt.ox_lt, ↓Pt.ox_le, ↓Pt.ox_gt, ↓Pt.ox_ge, ↓Pt.ox_eq, ↓Pt.ox_ne, ↓Pt.ox_eqS, ↓Pt.ox_neS, ↓Pt.ox_eqL, ↓Pt.ox_neL, ↓Pt.ox_eqT, ↓Pt.ox_neT, ↓Pt.ox_ix0, ↓Pt.ox_ix1, ↓Pt.ox_ix2, ↓Pt.ox_ix3, ↓Pt.ox_ixT0, ↓Pt.ox_ixT1, ↓Pt.ox_ixT2, ↓Pt.ox_ixT3, ↓Pt.ox_pow20, ↓Pt.ox_lenL, ↓Pt.ox_lenT, ↓Pt.ox_int, ↓Pt.ox_abs, ↓Pt.ox_max, ↓Pt.ox_min, ↓Pt.ox_tup, ↓Pt.ox_tupT, ↓Pt.ox_list, ↓Pt.ox_listT, ↓Pt.ox_repr, ↓gt_isi, t0, Bool.not_false]
    rfl
  | str x =>
    have t0 : isB "tuple" (tyNm (.str x)) = false := rfl
    simp -implicitDefEqProofs (disch := (first | omega | assumption | exact Pt.mul_r (by omega) (by omega) | exact Pt.mul_l (by omega) (by omega) | exact ml _ _ | decide)) only [↓Pt.gt_ok, ↓Pt.gt_bind, ↓Pt.gt_lift, ↓Pt.at_0, ↓Pt.at_s, ↓Pt.nt_0, ↓Pt.nt_s, ↓Pt.vd_d, ↓Pt.vd_h, ↓Pt.vo_l, ↓Pt.vo_k, ↓Pt.vo_t, ↓Pt.vl_l, ↓Pt.vs_s, ↓Pt.pu_0, ↓Pt.pu_s, ↓Pt.wi_0, ↓Pt.wi_s, ↓Pt.bp_n, ↓Pt.bp_t, ↓Pt.bp_l, ↓Pt.bps_0, ↓Pt.bps_s, ↓Pt.bo_t, ↓Pt.bo_f, ↓Pt.bo_not, ↓Pt.gt_var, ↓Pt.gt_own, ↓Pt.gt_c, ↓Pt.gt_bin, ↓Pt.gt_un, ↓Pt.gt_tst, ↓Pt.gt_andT, ↓Pt.gt_orT, ↓Pt.gt_notT, ↓Pt.gt_and, ↓Pt.gt_or, ↓Pt.gt_not, ↓Pt.gt_if, ↓Pt.gt_chain, ↓Pt.gt_nil, ↓Pt.gt_cons, ↓Pt.gt_consA, ↓Pt.gt_consS, ↓Pt.gt_tup, ↓Pt.gt_lst, ↓Pt.gt_fz, ↓Pt.gt_fzD, ↓Pt.gt_call, ↓Pt.gt_callL, ↓Pt.gt_callK, ↓Pt.gt_app, ↓Pt.gt_sl, ↓Pt.gt_none, ↓Pt.gt_some, ↓Pt.ls_l, ↓Pt.gt_rev, ↓Pt.gt_sq, ↓Pt.ox_some, ↓Pt.seq_l, ↓Pt.seq_t, ↓Pt.tst_b, ↓Pt.intD_i, ↓Pt.z1_i, ↓Pt.z2_i, ↓Pt.gt_rg1, ↓Pt.gt_rg1J, ↓Pt.gt_rg2, ↓Pt.gt_srcI, ↓Pt.gt_srcLen, ↓Pt.gt_lc, ↓Pt.gt_yes, ↓Pt.gl_nil, ↓Pt.gl_cons, ↓Pt.gl_ok, ↓Pt.vh_h, ↓Pt.vt_t, ↓Pt.gt_ht, ↓Pt.gt_tupL, ↓Pt.lst_l, ↓Pt.gt_newD, ↓Pt.tag_t, ↓Pt.gt_get2T, ↓Pt.key_3, ↓Pt.zp_l, ↓Pt.zp_t, ↓Pt.gt_zip, ↓Pt.pair_0, ↓Pt.pair_s, ↓Pt.gs_seq, ↓Pt.sq_nx, ↓Pt.sq_rt, ↓Pt.sq_bk, ↓Pt.sq_ct, ↓Pt.sq_ex, ↓Pt.gs_skip, ↓Pt.gs_brk, ↓Pt.gs_cnt, ↓Pt.gs_nx, ↓Pt.gs_put, ↓Pt.gs_putZ, ↓Pt.gt_map, ↓Pt.gs_ret, ↓Pt.gs_drop, ↓Pt.gs_if, ↓Pt.gs_bind, ↓Pt.gs_par, ↓Pt.gs_par3, ↓Pt.gs_for, ↓Pt.fg_nx, ↓Pt.fg_ct, ↓Pt.fg_bk, ↓Pt.fg_rt, ↓Pt.gs_frz, ↓Pt.fe_s, ↓Pt.fe_l, ↓Pt.fe_k, ↓Pt.fe_t, ↓Pt.fe_d, ↓Pt.gs_apd, ↓Pt.gs_putT, ↓Pt.gs_srcPut, ↓Pt.ox_add, ↓Pt.ox_addL, ↓Pt.ox_addT, ↓Pt.ox_sub, ↓Pt.ox_mul, ↓Pt.ox_div, ↓Pt.ox_mod, ↓Pt.ox_neg, ↓Pt.ox_lt, ↓Pt.ox_le, ↓Pt.ox_gt, ↓Pt.ox_ge, ↓Pt.ox_eq, ↓Pt.ox_ne, ↓Pt.ox_eqS, ↓Pt.ox_neS, ↓Pt.ox_eqL, ↓Pt.ox_neL, ↓Pt.ox_eqT, ↓Pt.ox_neT, ↓Pt.ox_ix0, ↓Pt.ox_ix1, ↓Pt.ox_ix2, ↓Pt.ox_ix3, ↓Pt.ox_ixT0, ↓Pt.ox_ixT1, ↓Pt.ox_ixT2, ↓Pt.ox_ixT3, ↓Pt.ox_pow20, ↓Pt.ox_lenL, ↓Pt.ox_lenT, ↓Pt.ox_int, ↓Pt.ox_abs, ↓Pt.ox_max, ↓Pt.ox_min, ↓Pt.ox_tup, ↓Pt.ox_tupT, ↓Pt.ox_list, ↓Pt.ox_listT, ↓Pt.ox_repr, ↓gt_isi, t0, Bool.not_false]
    rfl
  | list x =>
    have t0 : isB "tuple" (tyNm (.list x)) = false := rfl
    simp -implicitDefEqProofs (disch := (first | omega | assumption | exact Pt.mul_r (by omega) (by omega) | exact Pt.mul_l (by omega) (by omega) | exact ml _ _ | decide)) only [↓Pt.gt_ok, ↓Pt.gt_bind, ↓Pt.gt_lift, ↓Pt.at_0, ↓Pt.at_s, ↓Pt.nt_0, ↓Pt.nt_s, ↓Pt.vd_d, ↓Pt.vd_h, ↓Pt.vo_l, ↓Pt.vo_k, ↓Pt.vo_t, ↓Pt.vl_l, ↓Pt.vs_s, ↓Pt.pu_0, ↓Pt.pu_s, ↓Pt.wi_0, ↓Pt.wi_s, ↓Pt.bp_n, ↓Pt.bp_t, ↓Pt.bp_l, ↓Pt.bps_0, ↓Pt.bps_s, ↓Pt.bo_t, ↓Pt.bo_f, ↓Pt.bo_not, ↓Pt.gt_var, ↓Pt.gt_own, ↓Pt.gt_c, ↓Pt.gt_bin, ↓Pt.gt_un, ↓Pt.gt_tst, ↓Pt.gt_andT, ↓Pt.gt_orT, ↓Pt.gt_notT, ↓Pt.gt_and, ↓Pt.gt_or, ↓Pt.gt_not, ↓Pt.gt_if, ↓Pt.gt_chain, ↓Pt.gt_nil, ↓Pt.gt_cons, ↓Pt.gt_consA, ↓Pt.gt_consS, ↓Pt.gt_tup, ↓Pt.gt_lst, ↓Pt.gt_fz, ↓Pt.gt_fzD, ↓Pt.gt_call, ↓Pt.gt_callL, ↓Pt.gt_callK, ↓Pt.gt_app, ↓Pt.gt_sl, ↓Pt.gt_none, ↓Pt.gt_some, ↓Pt.ls_l, ↓Pt.gt_rev, ↓Pt.gt_sq, ↓Pt.ox_some, ↓Pt.seq_l, ↓Pt.seq_t, ↓Pt.tst_b, ↓Pt.intD_i, ↓Pt.z1_i, ↓Pt.z2_i, ↓Pt.gt_rg1, ↓Pt.gt_rg1J, ↓Pt.gt_rg2, ↓Pt.gt_srcI, ↓Pt.gt_srcLen, ↓Pt.gt_lc, ↓Pt.gt_yes, ↓Pt.gl_nil, ↓Pt.gl_cons, ↓Pt.gl_ok, ↓Pt.vh_h, ↓Pt.vt_t, ↓Pt.gt_ht, ↓Pt.gt_tupL, ↓Pt.lst_l, ↓Pt.gt_newD, ↓Pt.tag_t, ↓Pt.gt_get2T, ↓Pt.key_3, ↓Pt.zp_l, ↓Pt.zp_t, ↓Pt.gt_zip, ↓Pt.pair_0, ↓Pt.pair_s, ↓Pt.gs_seq, ↓Pt.sq_nx, ↓Pt.sq_rt, ↓Pt.sq_bk, ↓Pt.sq_ct, ↓Pt.sq_ex, ↓Pt.gs_skip, ↓Pt.gs_brk, ↓Pt.gs_cnt, ↓Pt.gs_nx, ↓Pt.gs_put, ↓Pt.gs_putZ, ↓Pt.gt_map, ↓Pt.gs_ret, ↓Pt.gs_drop, ↓Pt.gs_if, ↓Pt.gs_bind, ↓Pt.gs_par, ↓Pt.gs_par3, ↓Pt.gs_for, ↓Pt.fg_nx, ↓Pt.fg_ct, ↓Pt.fg_bk, ↓Pt.fg_rt, ↓Pt.gs_frz, ↓Pt.fe_s, ↓Pt.fe_l, ↓Pt.fe_k, ↓Pt.fe_t, ↓Pt.fe_d, ↓Pt.gs_apd, ↓Pt.gs_putT, ↓Pt.gs_srcPut, ↓Pt.ox_add, ↓Pt.ox_addL, ↓Pt.ox_addT, ↓Pt.ox_sub, ↓Pt.ox_mul, ↓Pt.ox_div, ↓Pt.ox_mod, ↓Pt.ox_neg, ↓Pt.ox_lt, ↓Pt.ox_le, ↓Pt.ox_gt, ↓Pt.ox_ge, ↓Pt.ox_eq, ↓Pt.ox_ne, ↓Pt.ox_eqS, ↓Pt.ox_neS, ↓Pt.ox_eqL, ↓Pt.ox_neL, ↓Pt.ox_eqT, ↓Pt.ox_neT, ↓Pt.ox_ix0, ↓Pt.ox_ix1, ↓Pt.ox_ix2, ↓Pt.ox_ix3, ↓Pt.ox_ixT0, ↓Pt.ox_ixT1, ↓Pt.ox_ixT2, ↓Pt.ox_ixT3, ↓Pt.ox_pow20, ↓Pt.ox_lenL, ↓Pt.ox_lenT, ↓Pt.ox_int, ↓Pt.ox_abs, ↓Pt.ox_max, ↓Pt.ox_min, ↓Pt.ox_tup, ↓Pt.ox_tupT, ↓Pt.ox_list, ↓Pt.ox_listT, ↓Pt.ox_repr, ↓gt_isi, t0, Bool.not_false]
    rfl
  | dict x =>
    have t0 : isB "tuple" (tyNm (.dict x)) = false := rfl
    simp -implicitDefEqProofs (disch := (first | omega | assumption | exact Pt.mul_r (by omega) (by omega) | exact Pt.mul_l (by omega) (by omega) | exact ml _ _ | decide)) only [↓Pt.gt_ok, ↓Pt.gt_bind, ↓Pt.gt_lift, ↓Pt.at_0, ↓Pt.at_s, ↓Pt.nt_0, ↓Pt.nt_s, ↓Pt.vd_d, ↓Pt.vd_h, ↓Pt.vo_l, ↓Pt.vo_k, ↓Pt.vo_t, ↓Pt.vl_l, ↓Pt.vs_s, ↓Pt.pu_0, ↓Pt.pu_s, ↓Pt.wi_0, ↓Pt.wi_s, ↓Pt.bp_n, ↓Pt.bp_t, ↓Pt.bp_l, ↓Pt.bps_0, ↓Pt.bps_s, ↓Pt.bo_t, ↓Pt.bo_f, ↓Pt.bo_not, ↓Pt.gt_var, ↓Pt.gt_own, ↓Pt.gt_c, ↓Pt.gt_bin, ↓Pt.gt_un, ↓Pt.gt_tst, ↓Pt.gt_andT, ↓Pt.gt_orT, ↓Pt.gt_notT, ↓Pt.gt_and, ↓Pt.gt_or, ↓Pt.gt_not, ↓Pt.gt_if, ↓Pt.gt_chain, ↓Pt.gt_nil, ↓Pt.gt_cons, ↓Pt.gt_consA, ↓Pt.gt_consS, ↓Pt.gt_tup, ↓Pt.gt_lst, ↓Pt.gt_fz, ↓Pt.gt_fzD, ↓Pt.gt_call, ↓Pt.gt_callL, ↓Pt.gt_callK, ↓Pt.gt_app, ↓Pt.gt_sl, ↓Pt.gt_none, ↓Pt.gt_some, ↓Pt.ls_l, ↓Pt.gt_rev, ↓Pt.gt_sq, ↓Pt.ox_some, ↓Pt.seq_l, ↓Pt.seq_t, ↓Pt.tst_b, ↓Pt.intD_i, ↓Pt.z1_i, ↓Pt.z2_i, ↓Pt.gt_rg1, ↓Pt.gt_rg1J, ↓Pt.gt_rg2, ↓Pt.gt_srcI, ↓Pt.gt_srcLen, ↓Pt.gt_lc, ↓Pt.gt_yes, ↓Pt.gl_nil, ↓Pt.gl_cons, ↓Pt.gl_ok, ↓Pt.vh_h, ↓Pt.vt_t, ↓Pt.gt_ht, ↓Pt.gt_tupL, ↓Pt.lst_l, ↓Pt.gt_newD, ↓Pt.tag_t, ↓Pt.gt_get2T, ↓Pt.key_3, ↓Pt.zp_l, ↓Pt.zp_t, ↓Pt.gt_zip, ↓Pt.pair_0, ↓Pt.pair_s, ↓Pt.gs_seq, ↓Pt.sq_nx, ↓Pt.sq_rt, ↓Pt.sq_bk, ↓Pt.sq_ct, ↓Pt.sq_ex, ↓Pt.gs_skip, ↓Pt.gs_brk, ↓Pt.gs_cnt, ↓Pt.gs_nx, ↓Pt.gs_put, ↓Pt.gs_putZ, ↓Pt.gt_map, ↓Pt.gs_ret, ↓Pt.gs_drop, ↓Pt.gs_if, ↓Pt.gs_bind, ↓Pt.gs_par, ↓Pt.gs_par3, ↓Pt.gs_for, ↓Pt.fg_nx, ↓Pt.fg_ct, ↓Pt.fg_bk, ↓Pt.fg_rt, ↓Pt.gs_frz, ↓Pt.fe_s, ↓Pt.fe_l, ↓Pt.fe_k, ↓Pt.fe_t, ↓Pt.fe_d, ↓Pt.gs_apd, ↓Pt.gs_putT, ↓Pt.gs_srcPut, ↓Pt.ox_add, ↓Pt.ox_addL, ↓Pt.ox_addT, ↓Pt.ox_sub, ↓Pt.ox_mul, ↓Pt.ox_div, ↓Pt.ox_mod, ↓Pt.ox_neg, ↓Pt.ox_lt, ↓Pt.ox_le, ↓Pt.ox_gt, ↓Pt.ox_ge, ↓Pt.ox_eq, ↓Pt.ox_ne, ↓Pt.ox_eqS, ↓Pt.ox_neS, ↓Pt.ox_eqL, ↓Pt.ox_neL, ↓Pt.ox_eqT, ↓Pt.ox_neT, ↓Pt.ox_ix0, ↓Pt.ox_ix1, ↓Pt.ox_ix2, ↓Pt.ox_ix3, ↓Pt.ox_ixT0, ↓Pt.ox_ixT1, ↓Pt.ox_ixT2, ↓Pt.ox_ixT3, ↓Pt.ox_pow20, ↓Pt.ox_lenL, ↓Pt.ox_lenT, ↓Pt.ox_int, ↓Pt.ox_abs, ↓Pt.ox_max, ↓Pt.ox_min, ↓Pt.ox_tup, ↓Pt.ox_tupT, ↓Pt.ox_list, ↓Pt.ox_listT, ↓Pt.ox_repr, ↓gt_isi, t0, Bool.not_false]
    rfl
/-- the products of a table's numbers may be made -/
def mulOk (v : Pt.D) : Prop := ∀ a b c d, v = .tuple [.int a, .int b, .int c, .int d] → mulB a d = true ∧ mulB b c = true
def pairB (v : Pt.D) : Bool := match v with
  | .tuple [x, y] => tableB x && tableB y
  | _ => false
theorem F_isP (v : Pt.D) (s : Src) (hv : ∀ ds, v = .tuple ds → ∀ x ∈ ds, mulOk x) : F_is_pair [.d v] s = .ok (.bool (pairB v)) s := by
  refine run_ok (e0 := [.d v, .un]) ?_
  unfold m_is_pair
  cases v with
  | tuple ds =>
    have t1 : isB "tuple" (tyNm (.tuple ds)) = true := rfl
    have go : lcGo (.n 1) mYes (mApp F_is_table (mConsA (mVar 1) mNil)) ds [.d (.tuple ds), .un] s = .ok ((ds.filter fun _ => true).map fun v => PyData.bool (tableB v)) s := by
      refine lc_pure _ _ ds fun x hx => ?_
      have fw := F_isT x s (hv ds rfl x hx)
      simp -implicitDefEqProofs (disch := (first | omega | assumption | exact Pt.mul_r (by omega) (by omega) | exact Pt.mul_l (by omega) (by omega) | exact ml _ _ | decide)) only [↓Pt.gt_ok, ↓Pt.gt_bind, ↓Pt.gt_lift, ↓Pt.at_0, ↓Pt.at_s, ↓Pt.nt_0, ↓Pt.nt_s, ↓Pt.vd_d, ↓Pt.vd_h, ↓Pt.vo_l, ↓Pt.vo_k, ↓Pt.vo_t, ↓Pt.vl_l, ↓Pt.vs_s, ↓Pt.pu_0, ↓Pt.pu_s, ↓Pt.wi_0, ↓Pt.wi_s, ↓Pt.bp_n, ↓Pt.bp_t, ↓Pt.bp_l, ↓Pt.bps_0, ↓Pt.bps_s, ↓Pt.bo_t, ↓Pt.bo_f, ↓Pt.bo_not, ↓Pt.gt_var, ↓Pt.gt_own, ↓Pt.gt_c, ↓Pt.gt_bin, ↓Pt.gt_un, ↓Pt.gt_tst, ↓Pt.gt_andT, ↓Pt.gt_orT, ↓Pt.gt_notT, ↓Pt.gt_and, ↓Pt.gt_or, ↓Pt.gt_not, ↓Pt.gt_if, ↓Pt.gt_chain, ↓Pt.gt_nil, ↓Pt.gt_cons, ↓Pt.gt_consA, ↓Pt.gt_consS, ↓Pt.gt_tup, ↓Pt.gt_lst, ↓Pt.gt_fz, ↓Pt.gt_fzD, ↓Pt.gt_call, ↓Pt.gt_callL, ↓Pt.gt_callK, ↓Pt.gt_app, ↓Pt.gt_sl, ↓Pt.gt_none, ↓Pt.gt_some, ↓Pt.ls_l, ↓Pt.gt_rev, ↓Pt.gt_sq, ↓Pt.ox_some, ↓Pt.seq_l, ↓Pt.seq_t, ↓Pt.tst_b, ↓Pt.intD_i, ↓Pt.z1_i, ↓Pt.z2_i, ↓Pt.gt_rg1, ↓Pt.gt_rg1J, ↓Pt.gt_rg2, ↓Pt.gt_srcI, ↓Pt.gt_srcLen, ↓Pt.gt_lc, ↓Pt.gt_yes, ↓Pt.gl_nil, ↓Pt.gl_cons, ↓Pt.gl_ok, ↓Pt.vh_h, ↓Pt.vt_t, ↓Pt.gt_ht, ↓Pt.gt_tupL, ↓Pt.lst_l, ↓Pt.gt_newD, ↓Pt.tag_t, ↓Pt.gt_get2T, ↓Pt.key_3, ↓Pt.zp_l, ↓Pt.zp_t, ↓Pt.gt_zip, ↓Pt.pair_0, ↓Pt.pair_s, ↓Pt.gs_seq, ↓Pt.sq_nx, ↓Pt.sq_rt, ↓Pt.sq_bk, ↓Pt.sq_ct, ↓Pt.sq_ex, ↓Pt.gs_skip, ↓Pt.gs_brk, ↓Pt.gs_cnt, ↓Pt.gs_nx, ↓Pt.gs_put, ↓Pt.gs_putZ, ↓Pt.gt_map, ↓Pt.gs_ret, ↓Pt.gs_drop, ↓Pt.gs_if, ↓Pt.gs_bind, ↓Pt.gs_par, ↓Pt.gs_par3, ↓Pt.gs_for, ↓Pt.fg_nx, ↓Pt.fg_ct, ↓Pt.fg_bk, ↓Pt.fg_rt, ↓Pt.gs_frz, ↓Pt.fe_s, ↓Pt.fe_l, ↓Pt.fe_k, ↓Pt.fe_t, ↓Pt.fe_d, ↓Pt.gs_apd, ↓Pt.gs_putT, ↓Pt.gs_srcPut, ↓Pt.ox_add, ↓Pt.ox_addL, ↓Pt.ox_addT, ↓Pt.ox_sub, ↓Pt.ox_mul, ↓Pt.ox_div, ↓Pt.ox_mod, ↓Pt.ox_neg, ↓Pt.ox_lt, ↓Pt.ox_le, ↓Pt.ox_gt, ↓Pt.ox_ge, ↓Pt.ox_eq, ↓Pt.ox_ne, ↓Pt.ox_eqS, ↓Pt.ox_neS, ↓Pt.ox_eqL, ↓Pt.ox_neL, ↓Pt.ox_eqT, ↓Pt.ox_neT, ↓Pt.ox_ix0, ↓Pt.ox_ix1, ↓Pt.ox_ix2, ↓Pt.ox_ix3, ↓Pt.ox_ixT0, ↓Pt.ox_ixT1, ↓Pt.ox_ixT2, ↓Pt.ox_ixT3, ↓Pt.ox_pow20, ↓Pt.ox_lenL, ↓Pt.ox_lenT, ↓Pt.ox_int, ↓Pt.ox_abs, ↓Pt.ox_max, ↓Pt.ox_min, ↓Pt.ox_tup, ↓Pt.ox_tupT, ↓Pt.ox_list, ↓Pt.ox_listT, ↓Pt.ox_repr, ↓gt_eq fw, and_self, implies_true]
    have ft : (ds.filter fun _ => true) = ds := List.filter_eq_self.mpr fun _ _ => rfl
    rw [ft] at go
    by_cases h2 : ds.length = 2
    · have l2 : ((ds.length : Nat) : Int) = 2 := by omega
      simp -implicitDefEqProofs (disch := (first | omega | assumption | exact Pt.mul_r (by omega) (by omega) | exact Pt.mul_l (by omega) (by omega) | exact ml _ _ | decide)) only [↓Pt.gt_ok, ↓Pt.gt_bind, ↓Pt.gt_lift, ↓Pt.at_0, ↓Pt.at_s, ↓Pt.nt_0, ↓Pt.nt_s, ↓Pt.vd_d, ↓Pt.vd_h, ↓Pt.vo_l, ↓Pt.vo_k, ↓Pt.vo_t, ↓Pt.vl_l, ↓Pt.vs_s, ↓Pt.pu_0, ↓Pt.pu_s, ↓Pt.wi_0, ↓Pt.wi_s, ↓Pt.bp_n, ↓Pt.bp_t, ↓Pt.bp_l, ↓Pt.bps_0, ↓Pt.bps_s, ↓Pt.bo_t, ↓Pt.bo_f, ↓Pt.bo_not, ↓Pt.gt_var, ↓Pt.gt_own, ↓Pt.gt_c, ↓Pt.gt_bin, ↓Pt.gt_un, ↓Pt.gt_tst, ↓Pt.gt_andT, ↓Pt.gt_orT, ↓Pt.gt_notT, ↓Pt.gt_and, ↓Pt.gt_or, ↓Pt.gt_not, ↓Pt.gt_if, ↓Pt.gt_chain, ↓Pt.gt_nil, ↓Pt.gt_cons, ↓Pt.gt_consA, ↓Pt.gt_consS, ↓Pt.gt_tup, ↓Pt.gt_lst, ↓Pt.gt_fz, ↓Pt.gt_fzD, ↓Pt.gt_call, ↓Pt.gt_callL, ↓Pt.gt_callK, ↓Pt.gt_app, ↓Pt.gt_sl, ↓Pt.gt_none, ↓Pt.gt_some, ↓Pt.ls_l, ↓Pt.gt_rev, ↓Pt.gt_sq, ↓Pt.ox_some, ↓Pt.seq_l, ↓Pt.seq_t, ↓Pt.tst_b, ↓Pt.intD_i, ↓Pt.z1_i, ↓Pt.z2_i, ↓Pt.gt_rg1, ↓Pt.gt_rg1J, ↓Pt.gt_rg2, ↓Pt.gt_srcI, ↓Pt.gt_srcLen, ↓Pt.gt_lc, ↓Pt.gt_yes, ↓Pt.gl_nil, ↓Pt.gl_cons, ↓Pt.gl_ok, ↓Pt.vh_h, ↓Pt.vt_t, ↓Pt.gt_ht, ↓Pt.gt_tupL, ↓Pt.lst_l, ↓Pt.gt_newD, ↓Pt.tag_t, ↓Pt.gt_get2T, ↓Pt.key_3, ↓Pt.zp_l, ↓Pt.zp_t, ↓Pt.gt_zip, ↓Pt.pair_0, ↓Pt.pair_s, ↓Pt.gs_seq, ↓Pt.sq_nx, ↓Pt.sq_rt, ↓Pt.sq_bk, ↓Pt.sq_ct, ↓Pt.sq_ex, ↓Pt.gs_skip, ↓Pt.gs_brk, ↓Pt.gs_cnt, ↓Pt.gs_nx, ↓Pt.gs_put, ↓Pt.gs_putZ, ↓Pt.gt_map, ↓Pt.gs_ret, ↓Pt.gs_drop, ↓Pt.gs_if, ↓Pt.gs_bind, ↓Pt.gs_par, ↓Pt.gs_par3, ↓Pt.gs_for, ↓Pt.fg_nx, ↓Pt.fg_ct, ↓Pt.fg_bk, ↓Pt.fg_rt, ↓Pt.gs_frz, ↓Pt.fe_s, ↓Pt.fe_l, ↓Pt.fe_k, ↓Pt.fe_t, ↓Pt.fe_d, ↓Pt.gs_apd, ↓Pt.gs_putT, ↓Pt.gs_srcPut, ↓Pt.ox_add, ↓Pt.ox_addL, ↓Pt.ox_addT, ↓Pt.ox_sub, ↓Pt.ox_mul, ↓Pt.ox_div, ↓Pt.ox_mod, ↓Pt.ox_neg, ↓Pt.ox_lt, ↓Pt.ox_le, ↓Pt.ox_gt, ↓Pt.ox_ge, ↓Pt.ox_eq, ↓Pt.ox_ne, ↓Pt.ox_eqS, ↓Pt.ox_neS, ↓Pt.ox_eqL, ↓Pt.ox_neL, ↓Pt.ox_eqT, ↓Pt.ox_neT, ↓Pt.ox_ix0, ↓Pt.ox_ix1, ↓Pt.ox_ix2, ↓Pt.ox_ix3, ↓Pt.ox_ixT0, ↓Pt.ox_ixT1, ↓Pt.ox_ixT2, ↓Pt.ox_ixT3, ↓Pt.ox_pow20, ↓Pt.ox_lenL, ↓Pt.ox_lenT, ↓Pt.ox_int, ↓Pt.ox_abs, ↓Pt.ox_max, ↓Pt.ox_min, ↓Pt.ox_tup, ↓Pt.ox_tupT, ↓Pt.ox_list, ↓Pt.ox_listT, ↓Pt.ox_repr, ↓gt_isi, t1, l2, decide_true, go, ↓ox_all]
      match ds, h2 with
      | [x, y], _ =>
        show Sr.rt (PyData.bool ([x, y].all tableB)) s = _
        simp only [List.all_cons, List.all_nil, Bool.and_true]
        rfl
    · have l2 : ¬ ((ds.length : Nat) : Int) = 2 := by omega
      have tf : pairB (.tuple ds) = false := by
        unfold pairB
        split
        · rename_i x y e
          cases e
          exact absurd rfl h2
        · rfl
      simp -implicitDefEqProofs (disch := (first | omega | assumption | exact Pt.mul_r (by omega) (by omega) | exact Pt.mul_l (by omega) (by omega) | exact ml _ _ | decide)) only [↓Pt.gt_ok, ↓Pt.gt_bind, ↓Pt.gt_lift, ↓Pt.at_0, ↓Pt.at_s, ↓Pt.nt_0, ↓Pt.nt_s, ↓Pt.vd_d, ↓Pt.vd_h, ↓Pt.vo_l, ↓Pt.vo_k, ↓Pt.vo_t, ↓Pt.vl_l, ↓Pt.vs_s, ↓Pt.pu_0, ↓Pt.pu_s, ↓Pt.wi_0, ↓Pt.wi_s, ↓Pt.bp_n, ↓Pt.bp_t, ↓Pt.bp_l, ↓Pt.bps_0, ↓Pt.bps_s, ↓Pt.bo_t, ↓Pt.bo_f, ↓Pt.bo_not, ↓Pt.gt_var, ↓Pt.gt_own, ↓Pt.gt_c, ↓Pt.gt_bin, ↓Pt.gt_un, ↓Pt.gt_tst, ↓Pt.gt_andT, ↓Pt.gt_orT, ↓Pt.gt_notT, ↓Pt.gt_and, ↓Pt.gt_or, ↓Pt.gt_not, ↓Pt.gt_if, ↓Pt.gt_chain, ↓Pt.gt_nil, ↓Pt.gt_cons, ↓Pt.gt_consA, ↓Pt.gt_consS, ↓Pt.gt_tup, ↓Pt.gt_lst, ↓Pt.gt_fz, ↓Pt.gt_fzD, ↓Pt.gt_call, ↓Pt.gt_callL, ↓Pt.gt_callK, ↓Pt.gt_app, ↓Pt.gt_sl, ↓Pt.gt_none, ↓Pt.gt_some, ↓Pt.ls_l, ↓Pt.gt_rev, ↓Pt.gt_sq, ↓Pt.ox_some, ↓Pt.seq_l, ↓Pt.seq_t, ↓Pt.tst_b, ↓Pt.intD_i, ↓Pt.z1_i, ↓Pt.z2_i, ↓Pt.gt_rg1, ↓Pt.gt_rg1J, ↓Pt.gt_rg2, ↓Pt.gt_srcI, ↓Pt.gt_srcLen, ↓Pt.gt_lc, ↓Pt.gt_yes, ↓Pt.gl_nil, ↓Pt.gl_cons, ↓Pt.gl_ok, ↓Pt.vh_h, ↓Pt.vt_t, ↓Pt.gt_ht, ↓Pt.gt_tupL, ↓Pt.lst_l, ↓Pt.gt_newD, ↓Pt.tag_t, ↓Pt.gt_get2T, ↓Pt.key_3, ↓Pt.zp_l, ↓Pt.zp_t, ↓Pt.gt_zip, ↓Pt.pair_0, ↓Pt.pair_s, ↓Pt.gs_seq, ↓Pt.sq_nx, ↓Pt.sq_rt, ↓Pt.sq_bk, ↓Pt.sq_ct, ↓Pt.sq_ex, ↓Pt.gs_skip, ↓Pt.gs_brk, ↓Pt.gs_cnt, ↓Pt.gs_nx, ↓Pt.gs_put, ↓Pt.gs_putZ, ↓Pt.gt_map, ↓Pt.gs_ret, ↓Pt.gs_drop, ↓Pt.gs_if, ↓Pt.gs_bind, ↓Pt.gs_par, ↓Pt.gs_par3, ↓Pt.gs_for, ↓Pt.fg_nx, ↓Pt.fg_ct, ↓Pt.fg_bk, ↓Pt.fg_rt, ↓Pt.gs_frz, ↓Pt.fe_s, ↓Pt.fe_l, ↓Pt.fe_k, ↓Pt.fe_t, ↓Pt.fe_d, ↓Pt.gs_apd, ↓Pt.gs_putT, ↓Pt.gs_srcPut, ↓Pt.ox_add, ↓Pt.ox_addL, ↓Pt.ox_addT, ↓Pt.ox_sub, ↓Pt.ox_mul, ↓Pt.ox_div, ↓Pt.ox_mod, ↓Pt.ox_neg, ↓Pt.ox_lt, ↓Pt.ox_le, ↓Pt.ox_gt, ↓Pt.ox_ge, ↓Pt.ox_eq, ↓Pt.ox_ne, ↓Pt.ox_eqS, ↓Pt.ox_neS, ↓Pt.ox_eqL, ↓Pt.ox_neL, ↓Pt.ox_eqT, ↓Pt.ox_neT, ↓Pt.ox_ix0, ↓Pt.ox_ix1, ↓Pt.ox_ix2, ↓Pt.ox_ix3, ↓Pt.ox_ixT0, ↓Pt.ox_ixT1, ↓Pt.ox_ixT2, ↓Pt.ox_ixT3, ↓Pt.ox_pow20, ↓Pt.ox_lenL, ↓Pt.ox_lenT, ↓Pt.ox_int, ↓Pt.ox_abs, ↓Pt.ox_max, ↓Pt.ox_min, ↓Pt.ox_tup, ↓Pt.ox_tupT, ↓Pt.ox_list, ↓Pt.ox_listT, ↓Pt.ox_repr, ↓gt_isi, t1, l2, decide_false, tf]
  | none => simp -implicitDefEqProofs (disch := (first | omega | assumption | exact Pt.mul_r (by omega) (by omega) | exact Pt.mul_l (by omega) (by omega) | exact ml _ _ | decide)) only [↓Pt.gt_ok, ↓Pt.gt_bind, ↓Pt.gt_lift, ↓Pt.at_0, ↓Pt.at_s, ↓Pt.nt_0, ↓Pt.nt_s, ↓Pt.vd_d, ↓Pt.vd_h, ↓Pt.vo_l, ↓Pt.vo_k, ↓Pt.vo_t, ↓Pt.vl_l, ↓Pt.vs_s, ↓Pt.pu_0, ↓Pt.pu_s, ↓Pt.wi_0, ↓Pt.wi_s, ↓Pt.bp_n, ↓Pt.bp_t, ↓Pt.bp_l, ↓Pt.bps_0, ↓Pt.bps_s, ↓Pt.bo_t, ↓Pt.bo_f, ↓Pt.bo_not, ↓Pt.gt_var, ↓Pt.gt_own, ↓Pt.gt_c, ↓Pt.gt_bin, ↓Pt.gt_un, ↓Pt.gt_tst, ↓Pt.gt_andT, ↓Pt.gt_orT, ↓Pt.gt_notT, ↓Pt.gt_and, ↓Pt.gt_or, ↓Pt.gt_not, ↓Pt.gt_if, ↓Pt.gt_chain, ↓Pt.gt_nil, ↓Pt.gt_cons, ↓Pt.gt_consA, ↓Pt.gt_consS, ↓Pt.gt_tup, ↓Pt.gt_lst, ↓Pt.gt_fz, ↓Pt.gt_fzD, ↓Pt.gt_call, ↓Pt.gt_callL, ↓Pt.gt_callK, ↓Pt.gt_app, ↓Pt.gt_sl, ↓Pt.gt_none, ↓Pt.gt_some, ↓Pt.ls_l, ↓Pt.gt_rev, ↓Pt.gt_sq, ↓Pt.ox_some, ↓Pt.seq_l, ↓Pt.seq_t, ↓Pt.tst_b, ↓Pt.intD_i, ↓Pt.z1_i, ↓Pt.z2_i, ↓Pt.gt_rg1, ↓Pt.gt_rg1J, ↓Pt.gt_rg2, ↓Pt.gt_srcI, ↓Pt.gt_srcLen, ↓Pt.gt_lc, ↓Pt.gt_yes, ↓Pt.gl_nil, ↓Pt.gl_cons, ↓Pt.gl_ok, ↓Pt.vh_h, ↓Pt.vt_t, ↓Pt.gt_ht, ↓Pt.gt_tupL, ↓Pt.lst_l, ↓Pt.gt_newD, ↓Pt.tag_t, ↓Pt.gt_get2T, ↓Pt.key_3, ↓Pt.zp_l, ↓Pt.zp_t, ↓Pt.gt_zip, ↓Pt.pair_0, ↓Pt.pair_s, ↓Pt.gs_seq, ↓Pt.sq_nx, ↓Pt.sq_rt, ↓Pt.sq_bk, ↓Pt.sq_ct, ↓Pt.sq_ex, ↓Pt.gs_skip, ↓Pt.gs_brk, ↓Pt.gs_cnt, ↓Pt.gs_nx, ↓Pt.gs_put, ↓Pt.gs_putZ, ↓Pt.gt_map, ↓Pt.gs_ret, ↓Pt.gs_drop, ↓Pt.gs_if, ↓Pt.gs_bind, ↓Pt.gs_par, ↓Pt.gs_par3, ↓Pt.gs_for, ↓Pt.fg_nx, ↓Pt.fg_ct, ↓Pt.fg_bk, ↓Pt.fg_rt, ↓Pt.gs_frz, ↓Pt.fe_s, ↓Pt.fe_l, ↓Pt.fe_k, ↓Pt.fe_t, ↓Pt.fe_d, ↓Pt.gs_apd, ↓Pt.gs_putT, ↓Pt.gs_srcPut, ↓Pt.ox_add, ↓Pt.ox_addL, ↓Pt.ox_addT, ↓Pt.ox_sub, ↓Pt.ox_mul, ↓Pt.ox_div, ↓Pt.ox_mod, ↓Pt.ox_neg, ↓Pt.ox_lt, ↓Pt.ox_le, ↓Pt.ox_gt, ↓Pt.ox_ge, ↓Pt.ox_eq, ↓Pt.ox_ne, ↓Pt.ox_eqS, ↓Pt.ox_neS, ↓Pt.ox_eqL, ↓Pt.ox_neL, ↓Pt.ox_eqT, ↓Pt.ox_neT, ↓Pt.ox_ix0, ↓Pt.ox_ix1, ↓Pt.ox_ix2, ↓Pt.ox_ix3, ↓Pt.ox_ixT0, ↓Pt.ox_ixT1, ↓Pt.ox_ixT2, ↓Pt.ox_ixT3, ↓Pt.ox_pow20, ↓Pt.ox_lenL, ↓Pt.ox_lenT, ↓Pt.ox_int, ↓Pt.ox_abs, ↓Pt.ox_max, ↓Pt.ox_min, ↓Pt.ox_tup, ↓Pt.ox_tupT, ↓Pt.ox_list, ↓Pt.ox_listT, ↓Pt.ox_repr, ↓gt_isi, show isB "tuple" (tyNm .none) = false from rfl]; rfl
  | bool x => simp -implicitDefEqProofs (disch := (first | omega | assumption | exact Pt.mul_r (by omega) (by omega) | exact Pt.mul_l (by omega) (by omega) | exact ml _ _ | decide)) only [↓Pt.gt_ok, ↓Pt.gt_bind, ↓Pt.gt_lift, ↓Pt.at_0, ↓Pt.at_s, ↓Pt.nt_0, ↓Pt.nt_s, ↓Pt.vd_d, ↓Pt.vd_h, ↓Pt.vo_l, ↓Pt.vo_k, ↓Pt.vo_t, ↓Pt.vl_l, ↓Pt.vs_s, ↓Pt.pu_0, ↓Pt.pu_s, ↓Pt.wi_0, ↓Pt.wi_s, ↓Pt.bp_n, ↓Pt.bp_t, ↓Pt.bp_l, ↓Pt.bps_0, ↓Pt.bps_s, ↓Pt.bo_t, ↓Pt.bo_f, ↓Pt.bo_not, ↓Pt.gt_var, ↓Pt.gt_own, ↓Pt.gt_c, ↓Pt.gt_bin, ↓Pt.gt_un, ↓Pt.gt_tst, ↓Pt.gt_andT, ↓Pt.gt_orT, ↓Pt.gt_notT, ↓Pt.gt_and, ↓Pt.gt_or, ↓Pt.gt_not, ↓Pt.gt_if, ↓Pt.gt_chain, ↓Pt.gt_nil, ↓Pt.gt_cons, ↓Pt.gt_consA, ↓Pt.gt_consS, ↓Pt.gt_tup, ↓Pt.gt_lst, ↓Pt.gt_fz, ↓Pt.gt_fzD, ↓Pt.gt_call, ↓Pt.gt_callL, ↓Pt.gt_callK, ↓Pt.gt_app, ↓Pt.gt_sl, ↓Pt.gt_none, ↓Pt.gt_some, ↓Pt.ls_l, ↓Pt.gt_rev, ↓Pt.gt_sq, ↓Pt.ox_some, ↓Pt.seq_l, ↓Pt.seq_t, ↓Pt.tst_b, ↓Pt.intD_i, ↓Pt.z1_i, ↓Pt.z2_i, ↓Pt.gt_rg1, ↓Pt.gt_rg1J, ↓Pt.gt_rg2, ↓Pt.gt_srcI, ↓Pt.gt_srcLen, ↓Pt.gt_lc, ↓Pt.gt_yes, ↓Pt.gl_nil, ↓Pt.gl_cons, ↓Pt.gl_ok, ↓Pt.vh_h, ↓Pt.vt_t, ↓Pt.gt_ht, ↓Pt.gt_tupL, ↓Pt.lst_l, ↓Pt.gt_newD, ↓Pt.tag_t, ↓Pt.gt_get2T, ↓Pt.key_3, ↓Pt.zp_l, ↓Pt.zp_t, ↓Pt.gt_zip, ↓Pt.pair_0, ↓Pt.pair_s, ↓Pt.gs_seq, ↓Pt.sq_nx, ↓Pt.sq_rt, ↓Pt.sq_bk, ↓Pt.sq_ct, ↓Pt.sq_ex, ↓Pt.gs_skip, ↓Pt.gs_brk, ↓Pt.gs_cnt, ↓Pt.gs_nx, ↓Pt.gs_put, ↓Pt.gs_putZ, ↓Pt.gt_map, ↓Pt.gs_ret, ↓Pt.gs_drop, ↓Pt.gs_if, ↓Pt.gs_bind, ↓Pt.gs_par, ↓Pt.gs_par3, ↓Pt.gs_for, ↓Pt.fg_nx, ↓Pt.fg_ct, ↓Pt.fg_bk, ↓Pt.fg_rt, ↓Pt.gs_frz, ↓Pt.fe_s, ↓Pt.fe_l, ↓Pt.fe_k, ↓Pt.fe_t, ↓Pt.fe_d, ↓Pt.gs_apd, ↓Pt.gs_putT, ↓Pt.gs_srcPut, ↓Pt.ox_add, ↓Pt.ox_addL, ↓Pt.ox_addT, ↓Pt.ox_sub, ↓Pt.ox_mul, ↓Pt.ox_div, ↓Pt.ox_mod, ↓Pt.ox_neg, ↓Pt.ox_lt, ↓Pt.ox_le, ↓Pt.ox_gt, ↓Pt.ox_ge, ↓Pt.ox_eq, ↓Pt.ox_ne, ↓Pt.ox_eqS, ↓Pt.ox_neS, ↓Pt.ox_eqL, ↓Pt.ox_neL, ↓Pt.ox_eqT, ↓Pt.ox_neT, ↓Pt.ox_ix0, ↓Pt.ox_ix1, ↓Pt.ox_ix2, ↓Pt.ox_ix3, ↓Pt.ox_ixT0, ↓Pt.ox_ixT1, ↓Pt.ox_ixT2, ↓Pt.ox_ixT3, ↓Pt.ox_pow20, ↓Pt.ox_lenL, ↓Pt.ox_lenT, ↓Pt.ox_int, ↓Pt.ox_abs, ↓Pt.ox_max, ↓Pt.ox_min, ↓Pt.ox_tup, ↓Pt.ox_tupT, ↓Pt.ox_list, ↓Pt.ox_listT, ↓Pt.ox_repr, ↓gt_isi, show isB "tuple" (tyNm (.bool x)) = false from rfl]; rfl
  | int x => simp -implicitDefEqProofs (disch := (first | omega | assumption | exact Pt.mul_r (by omega) (by omega) | exact Pt.mul_l (by omega) (by omega) | exact ml _ _ | decide)) only [↓Pt.gt_ok, ↓Pt.gt_bind, ↓Pt.gt_lift, ↓Pt.at_0, ↓Pt.at_s, ↓Pt.nt_0, ↓Pt.nt_s, ↓Pt.vd_d, ↓Pt.vd_h, ↓Pt.vo_l, ↓Pt.vo_k, ↓Pt.vo_t, ↓Pt.vl_l, ↓Pt.vs_s, ↓Pt.pu_0, ↓Pt.pu_s, ↓Pt.wi_0, ↓Pt.wi_s, ↓Pt.bp_n, ↓Pt.bp_t, ↓Pt.bp_l, ↓Pt.bps_0, ↓Pt.bps_s, ↓Pt.bo_t, ↓Pt.bo_f, ↓Pt.bo_not, ↓Pt.gt_var, ↓Pt.gt_own, ↓Pt.gt_c, ↓Pt.gt_bin, ↓Pt.gt_un, ↓Pt.gt_tst, ↓Pt.gt_andT, ↓Pt.gt_orT, ↓Pt.gt_notT, ↓Pt.gt_and, ↓Pt.gt_or, ↓Pt.gt_not, ↓Pt.gt_if, ↓Pt.gt_chain, ↓Pt.gt_nil, ↓Pt.gt_cons, ↓Pt.gt_consA, ↓Pt.gt_consS, ↓Pt.gt_tup, ↓Pt.gt_lst, ↓Pt.gt_fz, ↓Pt.gt_fzD, ↓Pt.gt_call, ↓Pt.gt_callL, ↓Pt.gt_callK, ↓Pt.gt_app, ↓Pt.gt_sl, ↓Pt.gt_none, ↓Pt.gt_some, ↓Pt.ls_l, ↓Pt.gt_rev, ↓Pt.gt_sq, ↓Pt.ox_some, ↓Pt.seq_l, ↓Pt.seq_t, ↓Pt.tst_b, ↓Pt.intD_i, ↓Pt.z1_i, ↓Pt.z2_i, ↓Pt.gt_rg1, ↓Pt.gt_rg1J, ↓Pt.gt_rg2, ↓Pt.gt_srcI, ↓Pt.gt_srcLen, ↓Pt.gt_lc, ↓Pt.gt_yes, ↓Pt.gl_nil, ↓Pt.gl_cons, ↓Pt.gl_ok, ↓Pt.vh_h, ↓Pt.vt_t, ↓Pt.gt_ht, ↓Pt.gt_tupL, ↓Pt.lst_l, ↓Pt.gt_newD, ↓Pt.tag_t, ↓Pt.gt_get2T, ↓Pt.key_3, ↓Pt.zp_l, ↓Pt.zp_t, ↓Pt.gt_zip, ↓Pt.pair_0, ↓Pt.pair_s, ↓Pt.gs_seq, ↓Pt.sq_nx, ↓Pt.sq_rt, ↓Pt.sq_bk, ↓Pt.sq_ct, ↓Pt.sq_ex, ↓Pt.gs_skip, ↓Pt.gs_brk, ↓Pt.gs_cnt, ↓Pt.gs_nx, ↓Pt.gs_put, ↓Pt.gs_putZ, ↓Pt.gt_map, ↓Pt.gs_ret, ↓Pt.gs_drop, ↓Pt.gs_if, ↓Pt.gs_bind, ↓Pt.gs_par, ↓Pt.gs_par3, ↓Pt.gs_for, ↓Pt.fg_nx, ↓Pt.fg_ct, ↓Pt.fg_bk, ↓Pt.fg_rt, ↓Pt.gs_frz, ↓Pt.fe_s, ↓Pt.fe_l, ↓Pt.fe_k, ↓Pt.fe_t, ↓Pt.fe_d, ↓Pt.gs_apd, ↓Pt.gs_putT, ↓Pt.gs_srcPut, ↓Pt.ox_add, ↓Pt.ox_addL, ↓Pt.ox_addT, ↓Pt.ox_sub, ↓Pt.ox_mul, ↓Pt.ox_div, ↓Pt.ox_mod, ↓Pt.ox_neg, ↓Pt.ox_lt, ↓Pt.ox_le, ↓Pt.ox_gt, ↓Pt.ox_ge, ↓Pt.ox_eq, ↓Pt.ox_ne, ↓Pt.ox_eqS, ↓Pt.ox_neS, ↓Pt.ox_eqL, ↓Pt.ox_neL, ↓Pt.ox_eqT, ↓Pt.ox_neT, ↓Pt.ox_ix0, ↓Pt.ox_ix1, ↓Pt.ox_ix2, ↓Pt.ox_ix3, ↓Pt.ox_ixT0, ↓Pt.ox_ixT1, ↓Pt.ox_ixT2, ↓Pt.ox_ixT3, ↓Pt.ox_pow20, ↓Pt.ox_lenL, ↓Pt.ox_lenT, ↓Pt.ox_int, ↓Pt.ox_abs, ↓Pt.ox_max, ↓Pt.ox_min, ↓Pt.ox_tup, ↓Pt.ox_tupT, ↓Pt.ox_list, ↓Pt.ox_listT, ↓Pt.ox_repr, ↓gt_isi, show isB "tuple" (tyNm (.int x)) = false from rfl]; rfl
  | str x => simp -implicitDefEqProofs (disch := (first | omega | assumption | exact Pt.mul_r (by omega) (by omega) | exact Pt.mul_l (by omega) (by omega) | exact ml _ _ | decide)) only [↓Pt.gt_ok, ↓Pt.gt_bind, ↓Pt.gt_lift, ↓Pt.at_0, ↓Pt.at_s, ↓Pt.nt_0, ↓Pt.nt_s, ↓Pt.vd_d, ↓Pt.vd_h, ↓Pt.vo_l, ↓Pt.vo_k, ↓Pt.vo_t, ↓Pt.vl_l, ↓Pt.vs_s, ↓Pt.pu_0, ↓Pt.pu_s, ↓Pt.wi_0, ↓Pt.wi_s, ↓Pt.bp_n, ↓Pt.bp_t, ↓Pt.bp_l, ↓Pt.bps_0, ↓Pt.bps_s, ↓Pt.bo_t, ↓Pt.bo_f, ↓Pt.bo_not, ↓Pt.gt_var, ↓Pt.gt_own, ↓Pt.gt_c, ↓Pt.gt_bin, ↓Pt.gt_un, ↓Pt.gt_tst, ↓Pt.gt_andT, ↓Pt.gt_orT, ↓Pt.gt_notT, ↓Pt.gt_and, ↓Pt.gt_or, ↓Pt.gt_not, ↓Pt.gt_if, ↓Pt.gt_chain, ↓Pt.gt_nil, ↓Pt.gt_cons, ↓Pt.gt_consA, ↓Pt.gt_consS, ↓Pt.gt_tup, ↓Pt.gt_lst, ↓Pt.gt_fz, ↓Pt.gt_fzD, ↓Pt.gt_call, ↓Pt.gt_callL, ↓Pt.gt_callK, ↓Pt.gt_app, ↓Pt.gt_sl, ↓Pt.gt_none, ↓Pt.gt_some, ↓Pt.ls_l, ↓Pt.gt_rev, ↓Pt.gt_sq, ↓Pt.ox_some, ↓Pt.seq_l, ↓Pt.seq_t, ↓Pt.tst_b, ↓Pt.intD_i, ↓Pt.z1_i, ↓Pt.z2_i, ↓Pt.gt_rg1, ↓Pt.gt_rg1J, ↓Pt.gt_rg2, ↓Pt.gt_srcI, ↓Pt.gt_srcLen, ↓Pt.gt_lc, ↓Pt.gt_yes, ↓Pt.gl_nil, ↓Pt.gl_cons, ↓Pt.gl_ok, ↓Pt.vh_h, ↓Pt.vt_t, ↓Pt.gt_ht, ↓Pt.gt_tupL, ↓Pt.lst_l, ↓Pt.gt_newD, ↓Pt.tag_t, ↓Pt.gt_get2T, ↓Pt.key_3, ↓Pt.zp_l, ↓Pt.zp_t, ↓Pt.gt_zip, ↓Pt.pair_0, ↓Pt.pair_s, ↓Pt.gs_seq, ↓Pt.sq_nx, ↓Pt.sq_rt, ↓Pt.sq_bk, ↓Pt.sq_ct, ↓Pt.sq_ex, ↓Pt.gs_skip, ↓Pt.gs_brk, ↓Pt.gs_cnt, ↓Pt.gs_nx, ↓Pt.gs_put, ↓Pt.gs_putZ, ↓Pt.gt_map, ↓Pt.gs_ret, ↓Pt.gs_drop, ↓Pt.gs_if, ↓Pt.gs_bind, ↓Pt.gs_par, ↓Pt.gs_par3, ↓Pt.gs_for, ↓Pt.fg_nx, ↓Pt.fg_ct, ↓Pt.fg_bk, ↓Pt.fg_rt, ↓Pt.gs_frz, ↓Pt.fe_s, ↓Pt.fe_l, ↓Pt.fe_k, ↓Pt.fe_t, ↓Pt.fe_d, ↓Pt.gs_apd, ↓Pt.gs_putT, ↓Pt.gs_srcPut, ↓Pt.ox_add, ↓Pt.ox_addL, ↓Pt.ox_addT, ↓Pt.ox_sub, ↓Pt.ox_mul, ↓Pt.ox_div, ↓Pt.ox_mod, ↓Pt.ox_neg, ↓Pt.ox_lt, ↓Pt.ox_le, ↓Pt.ox_gt, ↓Pt.ox_ge, ↓Pt.ox_eq, ↓Pt.ox_ne, ↓Pt.ox_eqS, ↓Pt.ox_neS, ↓Pt.ox_eqL, ↓Pt.ox_neL, ↓Pt.ox_eqT, ↓Pt.ox_neT, ↓Pt.ox_ix0, ↓Pt.ox_ix1, ↓Pt.ox_ix2, ↓Pt.ox_ix3, ↓Pt.ox_ixT0, ↓Pt.ox_ixT1, ↓Pt.ox_ixT2, ↓Pt.ox_ixT3, ↓Pt.ox_pow20, ↓Pt.ox_lenL, ↓Pt.ox_lenT, ↓Pt.ox_int, ↓Pt.ox_abs, ↓Pt.ox_max, ↓Pt.ox_min, ↓Pt.ox_tup, ↓Pt.ox_tupT, ↓Pt.ox_list, ↓Pt.ox_listT, ↓Pt.ox_repr, ↓gt_isi, show isB "tuple" (tyNm (.str x)) = false from rfl]; rfl
  | list x => simp -implicitDefEqProofs (disch := (first | omega | assumption | exact Pt.mul_r (by omega) (by omega) | exact Pt.mul_l (by omega) (by omega) | exact ml _ _ | decide)) only [↓Pt.gt_ok, ↓Pt.gt_bind, ↓Pt.gt_lift, ↓Pt.at_0, ↓Pt.at_s, ↓Pt.nt_0, ↓Pt.nt_s, ↓Pt.vd_d, ↓Pt.vd_h, ↓Pt.vo_l, ↓Pt.vo_k, ↓Pt.vo_t, ↓Pt.vl_l, ↓Pt.vs_s, ↓Pt.pu_0, ↓Pt.pu_s, ↓Pt.wi_0, ↓Pt.wi_s, ↓Pt.bp_n, ↓Pt.bp_t, ↓Pt.bp_l, ↓Pt.bps_0, ↓Pt.bps_s, ↓Pt.bo_t, ↓Pt.bo_f, ↓Pt.bo_not, ↓Pt.gt_var, ↓Pt.gt_own, ↓Pt.gt_c, ↓Pt.gt_bin, ↓Pt.gt_un, ↓Pt.gt_tst, ↓Pt.gt_andT, ↓Pt.gt_orT, ↓Pt.gt_notT, ↓Pt.gt_and, ↓Pt.gt_or, ↓Pt.gt_not, ↓Pt.gt_if, ↓Pt.gt_chain, ↓Pt.gt_nil, ↓Pt.gt_cons, ↓Pt.gt_consA, ↓Pt.gt_consS, ↓Pt.gt_tup, ↓Pt.gt_lst, ↓Pt.gt_fz, ↓Pt.gt_fzD, ↓Pt.gt_call, ↓Pt.gt_callL, ↓Pt.gt_callK, ↓Pt.gt_app, ↓Pt.gt_sl, ↓Pt.gt_none, ↓Pt.gt_some, ↓Pt.ls_l, ↓Pt.gt_rev, ↓Pt.gt_sq, ↓Pt.ox_some, ↓Pt.seq_l, ↓Pt.seq_t, ↓Pt.tst_b, ↓Pt.intD_i, ↓Pt.z1_i, ↓Pt.z2_i, ↓Pt.gt_rg1, ↓Pt.gt_rg1J, ↓Pt.gt_rg2, ↓Pt.gt_srcI, ↓Pt.gt_srcLen, ↓Pt.gt_lc, ↓Pt.gt_yes, ↓Pt.gl_nil, ↓Pt.gl_cons, ↓Pt.gl_ok, ↓Pt.vh_h, ↓Pt.vt_t, ↓Pt.gt_ht, ↓Pt.gt_tupL, ↓Pt.lst_l, ↓Pt.gt_newD, ↓Pt.tag_t, ↓Pt.gt_get2T, ↓Pt.key_3, ↓Pt.zp_l, ↓Pt.zp_t, ↓Pt.gt_zip, ↓Pt.pair_0, ↓Pt.pair_s, ↓Pt.gs_seq, ↓Pt.sq_nx, ↓Pt.sq_rt, ↓Pt.sq_bk, ↓Pt.sq_ct, ↓Pt.sq_ex, ↓Pt.gs_skip, ↓Pt.gs_brk, ↓Pt.gs_cnt, ↓Pt.gs_nx, ↓Pt.gs_put, ↓Pt.gs_putZ, ↓Pt.gt_map, ↓Pt.gs_ret, ↓Pt.gs_drop, ↓Pt.gs_if, ↓Pt.gs_bind, ↓Pt.gs_par, ↓Pt.gs_par3, ↓Pt.gs_for, ↓Pt.fg_nx, ↓Pt.fg_ct, ↓Pt.fg_bk, ↓Pt.fg_rt, ↓Pt.gs_frz, ↓Pt.fe_s, ↓Pt.fe_l, ↓Pt.fe_k, ↓Pt.fe_t, ↓Pt.fe_d, ↓Pt.gs_apd, ↓Pt.gs_putT, ↓Pt.gs_srcPut, ↓Pt.ox_add, ↓Pt.ox_addL, ↓Pt.ox_addT, ↓Pt.ox_sub, ↓Pt.ox_mul, ↓Pt.ox_div, ↓Pt.ox_mod, ↓Pt.ox_neg, ↓Pt.ox_lt, ↓Pt.ox_le, ↓Pt.ox_gt, ↓Pt.ox_ge, ↓Pt.ox_eq, ↓Pt.ox_ne, ↓Pt.ox_eqS, ↓Pt.ox_neS, ↓Pt.ox_eqL, ↓Pt.ox_neL, ↓Pt.ox_eqT, ↓Pt.ox_neT, ↓Pt.ox_ix0, ↓Pt.ox_ix1, ↓Pt.ox_ix2, ↓Pt.ox_ix3, ↓Pt.ox_ixT0, ↓Pt.ox_ixT1, ↓Pt.ox_ixT2, ↓Pt.ox_ixT3, ↓Pt.ox_pow20, ↓Pt.ox_lenL, ↓Pt.ox_lenT, ↓Pt.ox_int, ↓Pt.ox_abs, ↓Pt.ox_max, ↓Pt.ox_min, ↓Pt.ox_tup, ↓Pt.ox_tupT, ↓Pt.ox_list, ↓Pt.ox_listT, ↓Pt.ox_repr, ↓gt_isi, show isB "tuple" (tyNm (.list x)) = false from rfl]; rfl
  | dict x => simp -implicitDefEqProofs (disch := (first | omega | assumption | exact Pt.mul_r (by omega) (by omega) | exact Pt.mul_l (by omega) (by omega) | exact ml _ _ | decide)) only [↓Pt.gt_ok, ↓Pt.gt_bind, ↓Pt.gt_lift, ↓Pt.at_0, ↓Pt.at_s, ↓Pt.nt_0, ↓Pt.nt_s, ↓Pt.vd_d, ↓Pt.vd_h, ↓Pt.vo_l, ↓Pt.vo_k, ↓Pt.vo_t, ↓Pt.vl_l, ↓Pt.vs_s, ↓Pt.pu_0, ↓Pt.pu_s, ↓Pt.wi_0, ↓Pt.wi_s, ↓Pt.bp_n, ↓Pt.bp_t, ↓Pt.bp_l, ↓Pt.bps_0, ↓Pt.bps_s, ↓Pt.bo_t, ↓Pt.bo_f, ↓Pt.bo_not, ↓Pt.gt_var, ↓Pt.gt_own, ↓Pt.gt_c, ↓Pt.gt_bin, ↓Pt.gt_un, ↓Pt.gt_tst, ↓Pt.gt_andT, ↓Pt.gt_orT, ↓Pt.gt_notT, ↓Pt.gt_and, ↓Pt.gt_or, ↓Pt.gt_not, ↓Pt.gt_if, ↓Pt.gt_chain, ↓Pt.gt_nil, ↓Pt.gt_cons, ↓Pt.gt_consA, ↓Pt.gt_consS, ↓Pt.gt_tup, ↓Pt.gt_lst, ↓Pt.gt_fz, ↓Pt.gt_fzD, ↓Pt.gt_call, ↓Pt.gt_callL, ↓Pt.gt_callK, ↓Pt.gt_app, ↓Pt.gt_sl, ↓Pt.gt_none, ↓Pt.gt_some, ↓Pt.ls_l, ↓Pt.gt_rev, ↓Pt.gt_sq, ↓Pt.ox_some, ↓Pt.seq_l, ↓Pt.seq_t, ↓Pt.tst_b, ↓Pt.intD_i, ↓Pt.z1_i, ↓Pt.z2_i, ↓Pt.gt_rg1, ↓Pt.gt_rg1J, ↓Pt.gt_rg2, ↓Pt.gt_srcI, ↓Pt.gt_srcLen, ↓Pt.gt_lc, ↓Pt.gt_yes, ↓Pt.gl_nil, ↓Pt.gl_cons, ↓Pt.gl_ok, ↓Pt.vh_h, ↓Pt.vt_t, ↓Pt.gt_ht, ↓Pt.gt_tupL, ↓Pt.lst_l, ↓Pt.gt_newD, ↓Pt.tag_t, ↓Pt.gt_get2T, ↓Pt.key_3, ↓Pt.zp_l, ↓Pt.zp_t, ↓Pt.gt_zip, ↓Pt.pair_0, ↓Pt.pair_s, ↓Pt.gs_seq, ↓Pt.sq_nx, ↓Pt.sq_rt, ↓Pt.sq_bk, ↓Pt.sq_ct, ↓Pt.sq_ex, ↓Pt.gs_skip, ↓Pt.gs_brk, ↓Pt.gs_cnt, ↓Pt.gs_nx, ↓Pt.gs_put, ↓Pt.gs_putZ, ↓Pt.gt_map, ↓Pt.gs_ret, ↓Pt.gs_drop, ↓Pt.gs_if, ↓Pt.gs_bind, ↓Pt.gs_par, ↓Pt.gs_par3, ↓Pt.gs_for, ↓Pt.fg_nx, ↓Pt.fg_ct, ↓Pt.fg_bk, ↓Pt.fg_rt, ↓Pt.gs_frz, ↓Pt.fe_s, ↓Pt.fe_l, ↓Pt.fe_k, ↓Pt.fe_t, ↓Pt.fe_d, ↓Pt.gs_apd, ↓Pt.gs_putT, ↓Pt.gs_srcPut, ↓Pt.ox_add, ↓Pt.ox_addL, ↓Pt.ox_addT, ↓Pt.ox_sub, ↓Pt.ox_mul, ↓Pt.ox_div, ↓Pt.ox_mod, ↓Pt.ox_neg, ↓Pt.ox_lt, ↓Pt.ox_le, ↓Pt.ox_gt, ↓Pt.ox_ge, ↓Pt.ox_eq, ↓Pt.ox_ne, ↓Pt.ox_eqS, ↓Pt.ox_neS, ↓Pt.ox_eqL, ↓Pt.ox_neL, ↓Pt.ox_eqT, ↓Pt.ox_neT, ↓Pt.ox_ix0, ↓Pt.ox_ix1, ↓Pt.ox_ix2, ↓Pt.ox_ix3, ↓Pt.ox_ixT0, ↓Pt.ox_ixT1, ↓Pt.ox_ixT2, ↓Pt.ox_ixT3, ↓Pt.ox_pow20, ↓Pt.ox_lenL, ↓Pt.ox_lenT, ↓Pt.ox_int, ↓Pt.ox_abs, ↓Pt.ox_max, ↓Pt.ox_min, ↓Pt.ox_tup, ↓Pt.ox_tupT, ↓Pt.ox_list, ↓Pt.ox_listT, ↓Pt.ox_repr, ↓gt_isi, show isB "tuple" (tyNm (.dict x)) = false from rfl]; rfl

/-! ### rows in least form -/
def gcdL (xs : List Int) : Nat := xs.foldl (fun g x => Nat.gcd g x.natAbs) 0
def partL (xs : List Int) : Int := match xs.filter (fun x => decide (x ≠ 0)) with
  | [] => 1
  | x :: _ => if 0 < x then (gcdL xs : Int) else -(gcdL xs : Int)
theorem absI_nat (x : Int) : (absI x).natAbs = x.natAbs := by
  unfold absI
  split <;> omega
theorem ox_gcd {i j : Int} {K : Pt.D → Prop} : Ox (dGcd [.int i, .int j]) K = K (.int (Nat.gcd i.natAbs j.natAbs : Nat)) := rfl
theorem ox_divS {x p : Int} {K : Pt.D → Prop} (hp : p ≠ 0) (hb : p.natAbs < 1073741824) (hd : p ∣ x) : Ox (dDiv (.int x) (.int p)) K = K (.int (x / p)) := by
  by_cases h : 0 < p
  · exact ox_div h (by omega)
  · have h1 : divB p = false := by
      unfold divB
      rw [decide_eq_false h]
      rfl
    show Ox (if divB p = true then some (PyData.int (x / p)) else if (decide (p < 0) && decide (p.natAbs < 1073741824)) = true then some (.int (x.fdiv p)) else none) K = _
    rw [h1, if_neg (by simp), decide_eq_true (by omega), decide_eq_true hb, Int.fdiv_eq_ediv_of_dvd hd]
    rfl
theorem gcd_fold_dvd : ∀ (xs : List Int) (g : Nat), xs.foldl (fun g x => Nat.gcd g x.natAbs) g ∣ g ∧ ∀ x ∈ xs, xs.foldl (fun g x => Nat.gcd g x.natAbs) g ∣ x.natAbs
  | [], g => ⟨Nat.dvd_refl _, fun x h => nomatch h⟩
  | x :: xs, g => by
    obtain ⟨h1, h2⟩ := gcd_fold_dvd xs (Nat.gcd g x.natAbs)
    refine ⟨Nat.dvd_trans h1 (Nat.gcd_dvd_left _ _), fun y hy => ?_⟩
    rcases List.mem_cons.mp hy with rfl | hy
    · exact Nat.dvd_trans h1 (Nat.gcd_dvd_right _ _)
    · exact h2 y hy
theorem gcdL_dvd {xs : List Int} {x : Int} (h : x ∈ xs) : gcdL xs ∣ x.natAbs := (gcd_fold_dvd xs 0).2 x h
theorem gcdL_pos {xs : List Int} {x : Int} (h : x ∈ xs) (h0 : x ≠ 0) : 0 < gcdL xs := by
  have := gcdL_dvd h
  rcases Nat.eq_zero_or_pos (gcdL xs) with z | z
  · rw [z, Nat.zero_dvd] at this
    omega
  · exact z
theorem plainAll_ints : ∀ (xs : List Int), (∀ x ∈ xs, x.natAbs < 2 ^ 1000) → plainAll (xs.map PyData.int) = true
  | [], _ => rfl
  | x :: xs, h => by
    rw [List.map_cons, plainAll, Pt.plain, wide_pow (k := 1000) (by decide) (h x List.mem_cons_self), plainAll_ints xs fun y hy => h y (List.mem_cons_of_mem _ hy)]
    rfl
theorem depth_ints : ∀ (xs : List Int), PyData.depthAll (xs.map PyData.int) ≤ 1 := by
  intro xs
  induction xs with
  | nil => simp [PyData.depthAll]
  | cons x xs ih => rw [List.map_cons]; simp only [PyData.depthAll, PyData.depth]; omega
theorem sh_ints {xs : List Int} (h : ∀ x ∈ xs, x.natAbs < 2 ^ 1000) : shB (.list (xs.map PyData.int)) = true := by
  refine sh_ok (by rw [Pt.plain]; exact plainAll_ints xs h) ?_
  have := depth_ints xs
  simp only [PyData.depth]
  omega
theorem F_least (xs : List Int) (row : Pt.D) (s : Src) (hr : row = .tuple (xs.map PyData.int) ∨ row = .list (xs.map PyData.int)) (hb : ∀ x ∈ xs, x.natAbs < 1073741824) :
    F_least_row [.d row] s = .ok (.list ((xs.map fun x => x / partL xs).map PyData.int)) s := by
  refine run_ok (e0 := [.d row, .un, .un, .un]) ?_
  have hseq : seqD row = some (xs.map PyData.int) := by rcases hr with rfl | rfl <;> rfl
  have hlst : dListL [row] = some (xs.map PyData.int) := by rcases hr with rfl | rfl <;> rfl
  unfold m_least_row
  rw [Pt.gs_seq]
  simp -implicitDefEqProofs (disch := (first | omega | assumption | exact Pt.mul_r (by omega) (by omega) | exact Pt.mul_l (by omega) (by omega) | exact ml _ _ | decide)) only [↓Pt.gt_ok, ↓Pt.gt_bind, ↓Pt.gt_lift, ↓Pt.at_0, ↓Pt.at_s, ↓Pt.nt_0, ↓Pt.nt_s, ↓Pt.vd_d, ↓Pt.vd_h, ↓Pt.vo_l, ↓Pt.vo_k, ↓Pt.vo_t, ↓Pt.vl_l, ↓Pt.vs_s, ↓Pt.pu_0, ↓Pt.pu_s, ↓Pt.wi_0, ↓Pt.wi_s, ↓Pt.bp_n, ↓Pt.bp_t, ↓Pt.bp_l, ↓Pt.bps_0, ↓Pt.bps_s, ↓Pt.bo_t, ↓Pt.bo_f, ↓Pt.bo_not, ↓Pt.gt_var, ↓Pt.gt_own, ↓Pt.gt_c, ↓Pt.gt_bin, ↓Pt.gt_un, ↓Pt.gt_tst, ↓Pt.gt_andT, ↓Pt.gt_orT, ↓Pt.gt_notT, ↓Pt.gt_and, ↓Pt.gt_or, ↓Pt.gt_not, ↓Pt.gt_if, ↓Pt.gt_chain, ↓Pt.gt_nil, ↓Pt.gt_cons, ↓Pt.gt_consA, ↓Pt.gt_consS, ↓Pt.gt_tup, ↓Pt.gt_lst, ↓Pt.gt_fz, ↓Pt.gt_fzD, ↓Pt.gt_call, ↓Pt.gt_callL, ↓Pt.gt_callK, ↓Pt.gt_app, ↓Pt.gt_sl, ↓Pt.gt_none, ↓Pt.gt_some, ↓Pt.ls_l, ↓Pt.gt_rev, ↓Pt.gt_sq, ↓Pt.ox_some, ↓Pt.seq_l, ↓Pt.seq_t, ↓Pt.tst_b, ↓Pt.intD_i, ↓Pt.z1_i, ↓Pt.z2_i, ↓Pt.gt_rg1, ↓Pt.gt_rg1J, ↓Pt.gt_rg2, ↓Pt.gt_srcI, ↓Pt.gt_srcLen, ↓Pt.gt_lc, ↓Pt.gt_yes, ↓Pt.gl_nil, ↓Pt.gl_cons, ↓Pt.gl_ok, ↓Pt.vh_h, ↓Pt.vt_t, ↓Pt.gt_ht, ↓Pt.gt_tupL, ↓Pt.lst_l, ↓Pt.gt_newD, ↓Pt.tag_t, ↓Pt.gt_get2T, ↓Pt.key_3, ↓Pt.zp_l, ↓Pt.zp_t, ↓Pt.gt_zip, ↓Pt.pair_0, ↓Pt.pair_s, ↓Pt.gs_seq, ↓Pt.sq_rt, ↓Pt.sq_bk, ↓Pt.sq_ct, ↓Pt.sq_ex, ↓Pt.gs_skip, ↓Pt.gs_brk, ↓Pt.gs_cnt, ↓Pt.gs_nx, ↓Pt.gs_put, ↓Pt.gs_putZ, ↓Pt.gt_map, ↓Pt.gs_ret, ↓Pt.gs_drop, ↓Pt.gs_if, ↓Pt.gs_bind, ↓Pt.gs_par, ↓Pt.gs_par3, ↓Pt.gs_for, ↓Pt.fg_nx, ↓Pt.fg_ct, ↓Pt.fg_bk, ↓Pt.fg_rt, ↓Pt.gs_frz, ↓Pt.fe_s, ↓Pt.fe_l, ↓Pt.fe_k, ↓Pt.fe_t, ↓Pt.fe_d, ↓Pt.gs_apd, ↓Pt.gs_putT, ↓Pt.gs_srcPut, ↓Pt.ox_add, ↓Pt.ox_addL, ↓Pt.ox_addT, ↓Pt.ox_sub, ↓Pt.ox_mul, ↓Pt.ox_div, ↓Pt.ox_mod, ↓Pt.ox_neg, ↓Pt.ox_lt, ↓Pt.ox_le, ↓Pt.ox_gt, ↓Pt.ox_ge, ↓Pt.ox_eq, ↓Pt.ox_ne, ↓Pt.ox_eqS, ↓Pt.ox_neS, ↓Pt.ox_eqL, ↓Pt.ox_neL, ↓Pt.ox_eqT, ↓Pt.ox_neT, ↓Pt.ox_ix0, ↓Pt.ox_ix1, ↓Pt.ox_ix2, ↓Pt.ox_ix3, ↓Pt.ox_ixT0, ↓Pt.ox_ixT1, ↓Pt.ox_ixT2, ↓Pt.ox_ixT3, ↓Pt.ox_pow20, ↓Pt.ox_lenL, ↓Pt.ox_lenT, ↓Pt.ox_int, ↓Pt.ox_abs, ↓Pt.ox_max, ↓Pt.ox_min, ↓Pt.ox_tup, ↓Pt.ox_tupT, ↓Pt.ox_list, ↓Pt.ox_listT, ↓Pt.ox_repr]
  rw [Pt.sq_nx, Pt.gs_seq, Pt.gs_for]
  simp -implicitDefEqProofs (disch := (first | omega | assumption | exact Pt.mul_r (by omega) (by omega) | exact Pt.mul_l (by omega) (by omega) | exact ml _ _ | decide)) only [↓Pt.gt_ok, ↓Pt.gt_bind, ↓Pt.gt_lift, ↓Pt.at_0, ↓Pt.at_s, ↓Pt.nt_0, ↓Pt.nt_s, ↓Pt.vd_d, ↓Pt.vd_h, ↓Pt.vo_l, ↓Pt.vo_k, ↓Pt.vo_t, ↓Pt.vl_l, ↓Pt.vs_s, ↓Pt.pu_0, ↓Pt.pu_s, ↓Pt.wi_0, ↓Pt.wi_s, ↓Pt.bp_n, ↓Pt.bp_t, ↓Pt.bp_l, ↓Pt.bps_0, ↓Pt.bps_s, ↓Pt.bo_t, ↓Pt.bo_f, ↓Pt.bo_not, ↓Pt.gt_var, ↓Pt.gt_own, ↓Pt.gt_c, ↓Pt.gt_bin, ↓Pt.gt_un, ↓Pt.gt_tst, ↓Pt.gt_andT, ↓Pt.gt_orT, ↓Pt.gt_notT, ↓Pt.gt_and, ↓Pt.gt_or, ↓Pt.gt_not, ↓Pt.gt_if, ↓Pt.gt_chain, ↓Pt.gt_nil, ↓Pt.gt_cons, ↓Pt.gt_consA, ↓Pt.gt_consS, ↓Pt.gt_tup, ↓Pt.gt_lst, ↓Pt.gt_fz, ↓Pt.gt_fzD, ↓Pt.gt_call, ↓Pt.gt_callL, ↓Pt.gt_callK, ↓Pt.gt_app, ↓Pt.gt_sl, ↓Pt.gt_none, ↓Pt.gt_some, ↓Pt.ls_l, ↓Pt.gt_rev, ↓Pt.gt_sq, ↓Pt.ox_some, ↓Pt.seq_l, ↓Pt.seq_t, ↓Pt.tst_b, ↓Pt.intD_i, ↓Pt.z1_i, ↓Pt.z2_i, ↓Pt.gt_rg1, ↓Pt.gt_rg1J, ↓Pt.gt_rg2, ↓Pt.gt_srcI, ↓Pt.gt_srcLen, ↓Pt.gt_lc, ↓Pt.gt_yes, ↓Pt.gl_nil, ↓Pt.gl_cons, ↓Pt.gl_ok, ↓Pt.vh_h, ↓Pt.vt_t, ↓Pt.gt_ht, ↓Pt.gt_tupL, ↓Pt.lst_l, ↓Pt.gt_newD, ↓Pt.tag_t, ↓Pt.gt_get2T, ↓Pt.key_3, ↓Pt.zp_l, ↓Pt.zp_t, ↓Pt.gt_zip, ↓Pt.pair_0, ↓Pt.pair_s, ↓Pt.gs_seq, ↓Pt.sq_nx, ↓Pt.sq_rt, ↓Pt.sq_bk, ↓Pt.sq_ct, ↓Pt.sq_ex, ↓Pt.gs_skip, ↓Pt.gs_brk, ↓Pt.gs_cnt, ↓Pt.gs_nx, ↓Pt.gs_put, ↓Pt.gs_putZ, ↓Pt.gt_map, ↓Pt.gs_ret, ↓Pt.gs_drop, ↓Pt.gs_if, ↓Pt.gs_bind, ↓Pt.gs_par, ↓Pt.gs_par3, ↓Pt.gs_for, ↓Pt.fg_nx, ↓Pt.fg_ct, ↓Pt.fg_bk, ↓Pt.fg_rt, ↓Pt.gs_frz, ↓Pt.fe_s, ↓Pt.fe_l, ↓Pt.fe_k, ↓Pt.fe_t, ↓Pt.fe_d, ↓Pt.gs_apd, ↓Pt.gs_putT, ↓Pt.gs_srcPut, ↓Pt.ox_add, ↓Pt.ox_addL, ↓Pt.ox_addT, ↓Pt.ox_sub, ↓Pt.ox_mul, ↓Pt.ox_div, ↓Pt.ox_mod, ↓Pt.ox_neg, ↓Pt.ox_lt, ↓Pt.ox_le, ↓Pt.ox_gt, ↓Pt.ox_ge, ↓Pt.ox_eq, ↓Pt.ox_ne, ↓Pt.ox_eqS, ↓Pt.ox_neS, ↓Pt.ox_eqL, ↓Pt.ox_neL, ↓Pt.ox_eqT, ↓Pt.ox_neT, ↓Pt.ox_ix0, ↓Pt.ox_ix1, ↓Pt.ox_ix2, ↓Pt.ox_ix3, ↓Pt.ox_ixT0, ↓Pt.ox_ixT1, ↓Pt.ox_ixT2, ↓Pt.ox_ixT3, ↓Pt.ox_pow20, ↓Pt.ox_lenL, ↓Pt.ox_lenT, ↓Pt.ox_int, ↓Pt.ox_abs, ↓Pt.ox_max, ↓Pt.ox_min, ↓Pt.ox_tup, ↓Pt.ox_tupT, ↓Pt.ox_list, ↓Pt.ox_listT, ↓Pt.ox_repr, hseq]
  refine Pt.gs_fold (α := Nat) (fun g d => match d with | .int x => Nat.gcd g x.natAbs | _ => g) (fun g e => ∃ y, e = [.d row, .d (.int g), y, .un]) (a := 0) ⟨_, rfl⟩ (fun x hx g e he => ?_) fun e he => ?_
  · obtain ⟨y, rfl⟩ := he
    obtain ⟨n, hn, rfl⟩ := List.mem_map.mp hx
    simp -implicitDefEqProofs (disch := (first | omega | assumption | exact Pt.mul_r (by omega) (by omega) | exact Pt.mul_l (by omega) (by omega) | exact ml _ _ | decide)) only [↓Pt.gt_ok, ↓Pt.gt_bind, ↓Pt.gt_lift, ↓Pt.at_0, ↓Pt.at_s, ↓Pt.nt_0, ↓Pt.nt_s, ↓Pt.vd_d, ↓Pt.vd_h, ↓Pt.vo_l, ↓Pt.vo_k, ↓Pt.vo_t, ↓Pt.vl_l, ↓Pt.vs_s, ↓Pt.pu_0, ↓Pt.pu_s, ↓Pt.wi_0, ↓Pt.wi_s, ↓Pt.bp_n, ↓Pt.bp_t, ↓Pt.bp_l, ↓Pt.bps_0, ↓Pt.bps_s, ↓Pt.bo_t, ↓Pt.bo_f, ↓Pt.bo_not, ↓Pt.gt_var, ↓Pt.gt_own, ↓Pt.gt_c, ↓Pt.gt_bin, ↓Pt.gt_un, ↓Pt.gt_tst, ↓Pt.gt_andT, ↓Pt.gt_orT, ↓Pt.gt_notT, ↓Pt.gt_and, ↓Pt.gt_or, ↓Pt.gt_not, ↓Pt.gt_if, ↓Pt.gt_chain, ↓Pt.gt_nil, ↓Pt.gt_cons, ↓Pt.gt_consA, ↓Pt.gt_consS, ↓Pt.gt_tup, ↓Pt.gt_lst, ↓Pt.gt_fz, ↓Pt.gt_fzD, ↓Pt.gt_call, ↓Pt.gt_callL, ↓Pt.gt_callK, ↓Pt.gt_app, ↓Pt.gt_sl, ↓Pt.gt_none, ↓Pt.gt_some, ↓Pt.ls_l, ↓Pt.gt_rev, ↓Pt.gt_sq, ↓Pt.ox_some, ↓Pt.seq_l, ↓Pt.seq_t, ↓Pt.tst_b, ↓Pt.intD_i, ↓Pt.z1_i, ↓Pt.z2_i, ↓Pt.gt_rg1, ↓Pt.gt_rg1J, ↓Pt.gt_rg2, ↓Pt.gt_srcI, ↓Pt.gt_srcLen, ↓Pt.gt_lc, ↓Pt.gt_yes, ↓Pt.gl_nil, ↓Pt.gl_cons, ↓Pt.gl_ok, ↓Pt.vh_h, ↓Pt.vt_t, ↓Pt.gt_ht, ↓Pt.gt_tupL, ↓Pt.lst_l, ↓Pt.gt_newD, ↓Pt.tag_t, ↓Pt.gt_get2T, ↓Pt.key_3, ↓Pt.zp_l, ↓Pt.zp_t, ↓Pt.gt_zip, ↓Pt.pair_0, ↓Pt.pair_s, ↓Pt.gs_seq, ↓Pt.sq_nx, ↓Pt.sq_rt, ↓Pt.sq_bk, ↓Pt.sq_ct, ↓Pt.sq_ex, ↓Pt.gs_skip, ↓Pt.gs_brk, ↓Pt.gs_cnt, ↓Pt.gs_nx, ↓Pt.gs_put, ↓Pt.gs_putZ, ↓Pt.gt_map, ↓Pt.gs_ret, ↓Pt.gs_drop, ↓Pt.gs_if, ↓Pt.gs_bind, ↓Pt.gs_par, ↓Pt.gs_par3, ↓Pt.gs_for, ↓Pt.fg_nx, ↓Pt.fg_ct, ↓Pt.fg_bk, ↓Pt.fg_rt, ↓Pt.gs_frz, ↓Pt.fe_s, ↓Pt.fe_l, ↓Pt.fe_k, ↓Pt.fe_t, ↓Pt.fe_d, ↓Pt.gs_apd, ↓Pt.gs_putT, ↓Pt.gs_srcPut, ↓Pt.ox_add, ↓Pt.ox_addL, ↓Pt.ox_addT, ↓Pt.ox_sub, ↓Pt.ox_mul, ↓Pt.ox_div, ↓Pt.ox_mod, ↓Pt.ox_neg, ↓Pt.ox_lt, ↓Pt.ox_le, ↓Pt.ox_gt, ↓Pt.ox_ge, ↓Pt.ox_eq, ↓Pt.ox_ne, ↓Pt.ox_eqS, ↓Pt.ox_neS, ↓Pt.ox_eqL, ↓Pt.ox_neL, ↓Pt.ox_eqT, ↓Pt.ox_neT, ↓Pt.ox_ix0, ↓Pt.ox_ix1, ↓Pt.ox_ix2, ↓Pt.ox_ix3, ↓Pt.ox_ixT0, ↓Pt.ox_ixT1, ↓Pt.ox_ixT2, ↓Pt.ox_ixT3, ↓Pt.ox_pow20, ↓Pt.ox_lenL, ↓Pt.ox_lenT, ↓Pt.ox_int, ↓Pt.ox_abs, ↓Pt.ox_max, ↓Pt.ox_min, ↓Pt.ox_tup, ↓Pt.ox_tupT, ↓Pt.ox_list, ↓Pt.ox_listT, ↓Pt.ox_repr, ↓ox_gcd, absI_nat, Int.natAbs_natCast]
    exact ⟨_, rfl, _, rfl⟩
  · obtain ⟨y, rfl⟩ := he
    have fe : List.foldl (fun (g : Nat) (d : Pt.D) => match d with | .int x => Nat.gcd g x.natAbs | _ => g) 0 (xs.map PyData.int) = gcdL xs := by
      rw [List.foldl_map]
      rfl
    rw [fe]
    have go : lcGo (.n 2) (mTst (mBin dNe (mVar 2) (mC (.int 0)))) (mVar 2) (xs.map PyData.int) [.d row, .d (.int (gcdL xs)), .un, .un] s = .ok (((xs.map PyData.int).filter fun d => match d with | .int x => decide (x ≠ 0) | _ => false).map id) s := by
      refine lc_pure _ _ _ fun x hx => ?_
      obtain ⟨n, hn, rfl⟩ := List.mem_map.mp hx
      simp -implicitDefEqProofs (disch := (first | omega | assumption | exact Pt.mul_r (by omega) (by omega) | exact Pt.mul_l (by omega) (by omega) | exact ml _ _ | decide)) only [↓Pt.gt_ok, ↓Pt.gt_bind, ↓Pt.gt_lift, ↓Pt.at_0, ↓Pt.at_s, ↓Pt.nt_0, ↓Pt.nt_s, ↓Pt.vd_d, ↓Pt.vd_h, ↓Pt.vo_l, ↓Pt.vo_k, ↓Pt.vo_t, ↓Pt.vl_l, ↓Pt.vs_s, ↓Pt.pu_0, ↓Pt.pu_s, ↓Pt.wi_0, ↓Pt.wi_s, ↓Pt.bp_n, ↓Pt.bp_t, ↓Pt.bp_l, ↓Pt.bps_0, ↓Pt.bps_s, ↓Pt.bo_t, ↓Pt.bo_f, ↓Pt.bo_not, ↓Pt.gt_var, ↓Pt.gt_own, ↓Pt.gt_c, ↓Pt.gt_bin, ↓Pt.gt_un, ↓Pt.gt_tst, ↓Pt.gt_andT, ↓Pt.gt_orT, ↓Pt.gt_notT, ↓Pt.gt_and, ↓Pt.gt_or, ↓Pt.gt_not, ↓Pt.gt_if, ↓Pt.gt_chain, ↓Pt.gt_nil, ↓Pt.gt_cons, ↓Pt.gt_consA, ↓Pt.gt_consS, ↓Pt.gt_tup, ↓Pt.gt_lst, ↓Pt.gt_fz, ↓Pt.gt_fzD, ↓Pt.gt_call, ↓Pt.gt_callL, ↓Pt.gt_callK, ↓Pt.gt_app, ↓Pt.gt_sl, ↓Pt.gt_none, ↓Pt.gt_some, ↓Pt.ls_l, ↓Pt.gt_rev, ↓Pt.gt_sq, ↓Pt.ox_some, ↓Pt.seq_l, ↓Pt.seq_t, ↓Pt.tst_b, ↓Pt.intD_i, ↓Pt.z1_i, ↓Pt.z2_i, ↓Pt.gt_rg1, ↓Pt.gt_rg1J, ↓Pt.gt_rg2, ↓Pt.gt_srcI, ↓Pt.gt_srcLen, ↓Pt.gt_lc, ↓Pt.gt_yes, ↓Pt.gl_nil, ↓Pt.gl_cons, ↓Pt.gl_ok, ↓Pt.vh_h, ↓Pt.vt_t, ↓Pt.gt_ht, ↓Pt.gt_tupL, ↓Pt.lst_l, ↓Pt.gt_newD, ↓Pt.tag_t, ↓Pt.gt_get2T, ↓Pt.key_3, ↓Pt.zp_l, ↓Pt.zp_t, ↓Pt.gt_zip, ↓Pt.pair_0, ↓Pt.pair_s, ↓Pt.gs_seq, ↓Pt.sq_nx, ↓Pt.sq_rt, ↓Pt.sq_bk, ↓Pt.sq_ct, ↓Pt.sq_ex, ↓Pt.gs_skip, ↓Pt.gs_brk, ↓Pt.gs_cnt, ↓Pt.gs_nx, ↓Pt.gs_put, ↓Pt.gs_putZ, ↓Pt.gt_map, ↓Pt.gs_ret, ↓Pt.gs_drop, ↓Pt.gs_if, ↓Pt.gs_bind, ↓Pt.gs_par, ↓Pt.gs_par3, ↓Pt.gs_for, ↓Pt.fg_nx, ↓Pt.fg_ct, ↓Pt.fg_bk, ↓Pt.fg_rt, ↓Pt.gs_frz, ↓Pt.fe_s, ↓Pt.fe_l, ↓Pt.fe_k, ↓Pt.fe_t, ↓Pt.fe_d, ↓Pt.gs_apd, ↓Pt.gs_putT, ↓Pt.gs_srcPut, ↓Pt.ox_add, ↓Pt.ox_addL, ↓Pt.ox_addT, ↓Pt.ox_sub, ↓Pt.ox_mul, ↓Pt.ox_div, ↓Pt.ox_mod, ↓Pt.ox_neg, ↓Pt.ox_lt, ↓Pt.ox_le, ↓Pt.ox_gt, ↓Pt.ox_ge, ↓Pt.ox_eq, ↓Pt.ox_ne, ↓Pt.ox_eqS, ↓Pt.ox_neS, ↓Pt.ox_eqL, ↓Pt.ox_neL, ↓Pt.ox_eqT, ↓Pt.ox_neT, ↓Pt.ox_ix0, ↓Pt.ox_ix1, ↓Pt.ox_ix2, ↓Pt.ox_ix3, ↓Pt.ox_ixT0, ↓Pt.ox_ixT1, ↓Pt.ox_ixT2, ↓Pt.ox_ixT3, ↓Pt.ox_pow20, ↓Pt.ox_lenL, ↓Pt.ox_lenT, ↓Pt.ox_int, ↓Pt.ox_abs, ↓Pt.ox_max, ↓Pt.ox_min, ↓Pt.ox_tup, ↓Pt.ox_tupT, ↓Pt.ox_list, ↓Pt.ox_listT, ↓Pt.ox_repr, id, and_self, implies_true, and_true]
      simp
    have fl : ((xs.map PyData.int).filter fun d => match d with | .int x => decide (x ≠ 0) | _ => false).map id = (xs.filter fun x => decide (x ≠ 0)).map PyData.int := by
      rw [List.map_id, List.filter_map]
      rfl
    rw [fl] at go
    rw [Pt.sq_nx, Pt.gs_seq]
    simp -implicitDefEqProofs (disch := (first | omega | assumption | exact Pt.mul_r (by omega) (by omega) | exact Pt.mul_l (by omega) (by omega) | exact ml _ _ | decide)) only [↓Pt.gt_ok, ↓Pt.gt_bind, ↓Pt.gt_lift, ↓Pt.at_0, ↓Pt.at_s, ↓Pt.nt_0, ↓Pt.nt_s, ↓Pt.vd_d, ↓Pt.vd_h, ↓Pt.vo_l, ↓Pt.vo_k, ↓Pt.vo_t, ↓Pt.vl_l, ↓Pt.vs_s, ↓Pt.pu_0, ↓Pt.pu_s, ↓Pt.wi_0, ↓Pt.wi_s, ↓Pt.bp_n, ↓Pt.bp_t, ↓Pt.bp_l, ↓Pt.bps_0, ↓Pt.bps_s, ↓Pt.bo_t, ↓Pt.bo_f, ↓Pt.bo_not, ↓Pt.gt_var, ↓Pt.gt_own, ↓Pt.gt_c, ↓Pt.gt_bin, ↓Pt.gt_un, ↓Pt.gt_tst, ↓Pt.gt_andT, ↓Pt.gt_orT, ↓Pt.gt_notT, ↓Pt.gt_and, ↓Pt.gt_or, ↓Pt.gt_not, ↓Pt.gt_if, ↓Pt.gt_chain, ↓Pt.gt_nil, ↓Pt.gt_cons, ↓Pt.gt_consA, ↓Pt.gt_consS, ↓Pt.gt_tup, ↓Pt.gt_lst, ↓Pt.gt_fz, ↓Pt.gt_fzD, ↓Pt.gt_call, ↓Pt.gt_callL, ↓Pt.gt_callK, ↓Pt.gt_app, ↓Pt.gt_sl, ↓Pt.gt_none, ↓Pt.gt_some, ↓Pt.ls_l, ↓Pt.gt_rev, ↓Pt.gt_sq, ↓Pt.ox_some, ↓Pt.seq_l, ↓Pt.seq_t, ↓Pt.tst_b, ↓Pt.intD_i, ↓Pt.z1_i, ↓Pt.z2_i, ↓Pt.gt_rg1, ↓Pt.gt_rg1J, ↓Pt.gt_rg2, ↓Pt.gt_srcI, ↓Pt.gt_srcLen, ↓Pt.gt_lc, ↓Pt.gt_yes, ↓Pt.gl_nil, ↓Pt.gl_cons, ↓Pt.gl_ok, ↓Pt.vh_h, ↓Pt.vt_t, ↓Pt.gt_ht, ↓Pt.gt_tupL, ↓Pt.lst_l, ↓Pt.gt_newD, ↓Pt.tag_t, ↓Pt.gt_get2T, ↓Pt.key_3, ↓Pt.zp_l, ↓Pt.zp_t, ↓Pt.gt_zip, ↓Pt.pair_0, ↓Pt.pair_s, ↓Pt.gs_seq, ↓Pt.sq_rt, ↓Pt.sq_bk, ↓Pt.sq_ct, ↓Pt.sq_ex, ↓Pt.gs_skip, ↓Pt.gs_brk, ↓Pt.gs_cnt, ↓Pt.gs_nx, ↓Pt.gs_put, ↓Pt.gs_putZ, ↓Pt.gt_map, ↓Pt.gs_ret, ↓Pt.gs_drop, ↓Pt.gs_if, ↓Pt.gs_bind, ↓Pt.gs_par, ↓Pt.gs_par3, ↓Pt.gs_for, ↓Pt.fg_nx, ↓Pt.fg_ct, ↓Pt.fg_bk, ↓Pt.fg_rt, ↓Pt.gs_frz, ↓Pt.fe_s, ↓Pt.fe_l, ↓Pt.fe_k, ↓Pt.fe_t, ↓Pt.fe_d, ↓Pt.gs_apd, ↓Pt.gs_putT, ↓Pt.gs_srcPut, ↓Pt.ox_add, ↓Pt.ox_addL, ↓Pt.ox_addT, ↓Pt.ox_sub, ↓Pt.ox_mul, ↓Pt.ox_div, ↓Pt.ox_mod, ↓Pt.ox_neg, ↓Pt.ox_lt, ↓Pt.ox_le, ↓Pt.ox_gt, ↓Pt.ox_ge, ↓Pt.ox_eq, ↓Pt.ox_ne, ↓Pt.ox_eqS, ↓Pt.ox_neS, ↓Pt.ox_eqL, ↓Pt.ox_neL, ↓Pt.ox_eqT, ↓Pt.ox_neT, ↓Pt.ox_ix0, ↓Pt.ox_ix1, ↓Pt.ox_ix2, ↓Pt.ox_ix3, ↓Pt.ox_ixT0, ↓Pt.ox_ixT1, ↓Pt.ox_ixT2, ↓Pt.ox_ixT3, ↓Pt.ox_pow20, ↓Pt.ox_lenL, ↓Pt.ox_lenT, ↓Pt.ox_int, ↓Pt.ox_abs, ↓Pt.ox_max, ↓Pt.ox_min, ↓Pt.ox_tup, ↓Pt.ox_tupT, ↓Pt.ox_list, ↓Pt.ox_listT, ↓Pt.ox_repr, hseq, go]
    have shs : ∀ ys : List Int, (∀ y ∈ ys, y.natAbs < 1073741824) → shB (.list (ys.map PyData.int)) = true := fun ys h => sh_ints fun y hy => Nat.lt_of_lt_of_le (h y hy) (by decide)
    have sh1 := shs (xs.filter fun x => decide (x ≠ 0)) fun y hy => hb y (List.mem_filter.mp hy).1
    have sh2 : shB (.list []) = true := by decide
    have z0 : szB 0 = true := rfl
    obtain ⟨L, hf⟩ : ∃ L, (xs.filter fun x => decide (x ≠ 0)) = L := ⟨_, rfl⟩
    rw [hf] at go sh1
    rw [hf]
    cases L with
    | nil =>
      rw [List.map_nil] at go sh1
      rw [List.map_nil]
      simp -implicitDefEqProofs (disch := (first | omega | assumption | exact Pt.mul_r (by omega) (by omega) | exact Pt.mul_l (by omega) (by omega) | exact ml _ _ | decide)) only [↓Pt.gt_ok, ↓Pt.gt_bind, ↓Pt.gt_lift, ↓Pt.at_0, ↓Pt.at_s, ↓Pt.nt_0, ↓Pt.nt_s, ↓Pt.vd_d, ↓Pt.vd_h, ↓Pt.vo_l, ↓Pt.vo_k, ↓Pt.vo_t, ↓Pt.vl_l, ↓Pt.vs_s, ↓Pt.pu_0, ↓Pt.pu_s, ↓Pt.wi_0, ↓Pt.wi_s, ↓Pt.bp_n, ↓Pt.bp_t, ↓Pt.bp_l, ↓Pt.bps_0, ↓Pt.bps_s, ↓Pt.bo_t, ↓Pt.bo_f, ↓Pt.bo_not, ↓Pt.gt_var, ↓Pt.gt_own, ↓Pt.gt_c, ↓Pt.gt_bin, ↓Pt.gt_un, ↓Pt.gt_tst, ↓Pt.gt_andT, ↓Pt.gt_orT, ↓Pt.gt_notT, ↓Pt.gt_and, ↓Pt.gt_or, ↓Pt.gt_not, ↓Pt.gt_if, ↓Pt.gt_chain, ↓Pt.gt_nil, ↓Pt.gt_cons, ↓Pt.gt_consA, ↓Pt.gt_consS, ↓Pt.gt_tup, ↓Pt.gt_lst, ↓Pt.gt_fz, ↓Pt.gt_fzD, ↓Pt.gt_call, ↓Pt.gt_callL, ↓Pt.gt_callK, ↓Pt.gt_app, ↓Pt.gt_sl, ↓Pt.gt_none, ↓Pt.gt_some, ↓Pt.ls_l, ↓Pt.gt_rev, ↓Pt.gt_sq, ↓Pt.ox_some, ↓Pt.seq_l, ↓Pt.seq_t, ↓Pt.tst_b, ↓Pt.intD_i, ↓Pt.z1_i, ↓Pt.z2_i, ↓Pt.gt_rg1, ↓Pt.gt_rg1J, ↓Pt.gt_rg2, ↓Pt.gt_srcI, ↓Pt.gt_srcLen, ↓Pt.gt_lc, ↓Pt.gt_yes, ↓Pt.gl_nil, ↓Pt.gl_cons, ↓Pt.gl_ok, ↓Pt.vh_h, ↓Pt.vt_t, ↓Pt.gt_ht, ↓Pt.gt_tupL, ↓Pt.lst_l, ↓Pt.gt_newD, ↓Pt.tag_t, ↓Pt.gt_get2T, ↓Pt.key_3, ↓Pt.zp_l, ↓Pt.zp_t, ↓Pt.gt_zip, ↓Pt.pair_0, ↓Pt.pair_s, ↓Pt.gs_seq, ↓Pt.sq_nx, ↓Pt.sq_rt, ↓Pt.sq_bk, ↓Pt.sq_ct, ↓Pt.sq_ex, ↓Pt.gs_skip, ↓Pt.gs_brk, ↓Pt.gs_cnt, ↓Pt.gs_nx, ↓Pt.gs_put, ↓Pt.gs_putZ, ↓Pt.gt_map, ↓Pt.gs_ret, ↓Pt.gs_drop, ↓Pt.gs_if, ↓Pt.gs_bind, ↓Pt.gs_par, ↓Pt.gs_par3, ↓Pt.gs_for, ↓Pt.fg_nx, ↓Pt.fg_ct, ↓Pt.fg_bk, ↓Pt.fg_rt, ↓Pt.gs_frz, ↓Pt.fe_s, ↓Pt.fe_l, ↓Pt.fe_k, ↓Pt.fe_t, ↓Pt.fe_d, ↓Pt.gs_apd, ↓Pt.gs_putT, ↓Pt.gs_srcPut, ↓Pt.ox_add, ↓Pt.ox_addL, ↓Pt.ox_addT, ↓Pt.ox_sub, ↓Pt.ox_mul, ↓Pt.ox_div, ↓Pt.ox_mod, ↓Pt.ox_neg, ↓Pt.ox_lt, ↓Pt.ox_le, ↓Pt.ox_gt, ↓Pt.ox_ge, ↓Pt.ox_eq, ↓Pt.ox_ne, ↓Pt.ox_eqS, ↓Pt.ox_neS, ↓Pt.ox_eqL, ↓Pt.ox_neL, ↓Pt.ox_eqT, ↓Pt.ox_neT, ↓Pt.ox_ix0, ↓Pt.ox_ix1, ↓Pt.ox_ix2, ↓Pt.ox_ix3, ↓Pt.ox_ixT0, ↓Pt.ox_ixT1, ↓Pt.ox_ixT2, ↓Pt.ox_ixT3, ↓Pt.ox_pow20, ↓Pt.ox_lenL, ↓Pt.ox_lenT, ↓Pt.ox_int, ↓Pt.ox_abs, ↓Pt.ox_max, ↓Pt.ox_min, ↓Pt.ox_tup, ↓Pt.ox_tupT, ↓Pt.ox_list, ↓Pt.ox_listT, ↓Pt.ox_repr, hlst, List.length_nil, z0, sh2, Bool.and_self, true_and, PyData.eqvAll]
      have e1 : partL xs = 1 := by unfold partL; rw [hf]
      rw [e1]
      simp only [Int.ediv_one, List.map_id']
    | cons f r =>
      have fm : f ∈ xs ∧ f ≠ 0 := by
        have : f ∈ xs.filter fun x => decide (x ≠ 0) := by rw [hf]; exact List.mem_cons_self
        have := List.mem_filter.mp this
        exact ⟨this.1, by simpa using this.2⟩
      rw [List.map_cons] at sh1
      rw [List.map_cons]
      simp -implicitDefEqProofs (disch := (first | omega | assumption | exact Pt.mul_r (by omega) (by omega) | exact Pt.mul_l (by omega) (by omega) | exact ml _ _ | decide)) only [↓Pt.gt_ok, ↓Pt.gt_bind, ↓Pt.gt_lift, ↓Pt.at_0, ↓Pt.at_s, ↓Pt.nt_0, ↓Pt.nt_s, ↓Pt.vd_d, ↓Pt.vd_h, ↓Pt.vo_l, ↓Pt.vo_k, ↓Pt.vo_t, ↓Pt.vl_l, ↓Pt.vs_s, ↓Pt.pu_0, ↓Pt.pu_s, ↓Pt.wi_0, ↓Pt.wi_s, ↓Pt.bp_n, ↓Pt.bp_t, ↓Pt.bp_l, ↓Pt.bps_0, ↓Pt.bps_s, ↓Pt.bo_t, ↓Pt.bo_f, ↓Pt.bo_not, ↓Pt.gt_var, ↓Pt.gt_own, ↓Pt.gt_c, ↓Pt.gt_bin, ↓Pt.gt_un, ↓Pt.gt_tst, ↓Pt.gt_andT, ↓Pt.gt_orT, ↓Pt.gt_notT, ↓Pt.gt_and, ↓Pt.gt_or, ↓Pt.gt_not, ↓Pt.gt_if, ↓Pt.gt_chain, ↓Pt.gt_nil, ↓Pt.gt_cons, ↓Pt.gt_consA, ↓Pt.gt_consS, ↓Pt.gt_tup, ↓Pt.gt_lst, ↓Pt.gt_fz, ↓Pt.gt_fzD, ↓Pt.gt_call, ↓Pt.gt_callL, ↓Pt.gt_callK, ↓Pt.gt_app, ↓Pt.gt_sl, ↓Pt.gt_none, ↓Pt.gt_some, ↓Pt.ls_l, ↓Pt.gt_rev, ↓Pt.gt_sq, ↓Pt.ox_some, ↓Pt.seq_l, ↓Pt.seq_t, ↓Pt.tst_b, ↓Pt.intD_i, ↓Pt.z1_i, ↓Pt.z2_i, ↓Pt.gt_rg1, ↓Pt.gt_rg1J, ↓Pt.gt_rg2, ↓Pt.gt_srcI, ↓Pt.gt_srcLen, ↓Pt.gt_lc, ↓Pt.gt_yes, ↓Pt.gl_nil, ↓Pt.gl_cons, ↓Pt.gl_ok, ↓Pt.vh_h, ↓Pt.vt_t, ↓Pt.gt_ht, ↓Pt.gt_tupL, ↓Pt.lst_l, ↓Pt.gt_newD, ↓Pt.tag_t, ↓Pt.gt_get2T, ↓Pt.key_3, ↓Pt.zp_l, ↓Pt.zp_t, ↓Pt.gt_zip, ↓Pt.pair_0, ↓Pt.pair_s, ↓Pt.gs_seq, ↓Pt.sq_nx, ↓Pt.sq_rt, ↓Pt.sq_bk, ↓Pt.sq_ct, ↓Pt.sq_ex, ↓Pt.gs_skip, ↓Pt.gs_brk, ↓Pt.gs_cnt, ↓Pt.gs_nx, ↓Pt.gs_put, ↓Pt.gs_putZ, ↓Pt.gt_map, ↓Pt.gs_ret, ↓Pt.gs_drop, ↓Pt.gs_if, ↓Pt.gs_bind, ↓Pt.gs_par, ↓Pt.gs_par3, ↓Pt.gs_for, ↓Pt.fg_nx, ↓Pt.fg_ct, ↓Pt.fg_bk, ↓Pt.fg_rt, ↓Pt.gs_frz, ↓Pt.fe_s, ↓Pt.fe_l, ↓Pt.fe_k, ↓Pt.fe_t, ↓Pt.fe_d, ↓Pt.gs_apd, ↓Pt.gs_putT, ↓Pt.gs_srcPut, ↓Pt.ox_add, ↓Pt.ox_addL, ↓Pt.ox_addT, ↓Pt.ox_sub, ↓Pt.ox_mul, ↓Pt.ox_div, ↓Pt.ox_mod, ↓Pt.ox_neg, ↓Pt.ox_lt, ↓Pt.ox_le, ↓Pt.ox_gt, ↓Pt.ox_ge, ↓Pt.ox_eq, ↓Pt.ox_ne, ↓Pt.ox_eqS, ↓Pt.ox_neS, ↓Pt.ox_eqL, ↓Pt.ox_neL, ↓Pt.ox_eqT, ↓Pt.ox_neT, ↓Pt.ox_ix0, ↓Pt.ox_ix1, ↓Pt.ox_ix2, ↓Pt.ox_ix3, ↓Pt.ox_ixT0, ↓Pt.ox_ixT1, ↓Pt.ox_ixT2, ↓Pt.ox_ixT3, ↓Pt.ox_pow20, ↓Pt.ox_lenL, ↓Pt.ox_lenT, ↓Pt.ox_int, ↓Pt.ox_abs, ↓Pt.ox_max, ↓Pt.ox_min, ↓Pt.ox_tup, ↓Pt.ox_tupT, ↓Pt.ox_list, ↓Pt.ox_listT, ↓Pt.ox_repr, List.length_nil, z0, sh1, sh2, Bool.and_self, true_and, PyData.eqvAll]
      have gp := gcdL_pos fm.1 fm.2
      have gb : gcdL xs < 1073741824 := Nat.lt_of_le_of_lt (Nat.le_of_dvd (by omega) (gcdL_dvd fm.1)) (hb f fm.1)
      have e1 : partL xs = if 0 < f then (gcdL xs : Int) else -(gcdL xs : Int) := by unfold partL; rw [hf]
      have go2 : ∀ p : Int, partL xs = p → lcGo (.n 2) mYes (mBin dDiv (mVar 2) (mVar 1)) (xs.map PyData.int) [.d row, .d (.int p), .un, .d (.list (PyData.int f :: r.map PyData.int))] s = .ok (((xs.map PyData.int).filter fun _ => true).map fun d => match d with | .int x => .int (x / partL xs) | _ => .none) s := by
        intro p hp
        refine lc_pure _ _ _ fun x hx => ?_
        obtain ⟨n, hn, rfl⟩ := List.mem_map.mp hx
        have pn : p ≠ 0 := by rw [← hp, e1]; split <;> omega
        have pb : p.natAbs < 1073741824 := by rw [← hp, e1]; split <;> omega
        have pd : p ∣ n := by
          rw [← Int.natAbs_dvd_natAbs, ← hp, e1]
          have := gcdL_dvd hn
          split
          · rw [Int.natAbs_natCast]; exact this
          · rw [Int.natAbs_neg, Int.natAbs_natCast]; exact this
        have dv := fun (K : Pt.D → Prop) => ox_divS (K := K) pn pb pd
        simp -implicitDefEqProofs (disch := (first | omega | assumption | exact Pt.mul_r (by omega) (by omega) | exact Pt.mul_l (by omega) (by omega) | exact ml _ _ | decide)) only [↓Pt.gt_ok, ↓Pt.gt_bind, ↓Pt.gt_lift, ↓Pt.at_0, ↓Pt.at_s, ↓Pt.nt_0, ↓Pt.nt_s, ↓Pt.vd_d, ↓Pt.vd_h, ↓Pt.vo_l, ↓Pt.vo_k, ↓Pt.vo_t, ↓Pt.vl_l, ↓Pt.vs_s, ↓Pt.pu_0, ↓Pt.pu_s, ↓Pt.wi_0, ↓Pt.wi_s, ↓Pt.bp_n, ↓Pt.bp_t, ↓Pt.bp_l, ↓Pt.bps_0, ↓Pt.bps_s, ↓Pt.bo_t, ↓Pt.bo_f, ↓Pt.bo_not, ↓Pt.gt_var, ↓Pt.gt_own, ↓Pt.gt_c, ↓Pt.gt_bin, ↓Pt.gt_un, ↓Pt.gt_tst, ↓Pt.gt_andT, ↓Pt.gt_orT, ↓Pt.gt_notT, ↓Pt.gt_and, ↓Pt.gt_or, ↓Pt.gt_not, ↓Pt.gt_if, ↓Pt.gt_chain, ↓Pt.gt_nil, ↓Pt.gt_cons, ↓Pt.gt_consA, ↓Pt.gt_consS, ↓Pt.gt_tup, ↓Pt.gt_lst, ↓Pt.gt_fz, ↓Pt.gt_fzD, ↓Pt.gt_call, ↓Pt.gt_callL, ↓Pt.gt_callK, ↓Pt.gt_app, ↓Pt.gt_sl, ↓Pt.gt_none, ↓Pt.gt_some, ↓Pt.ls_l, ↓Pt.gt_rev, ↓Pt.gt_sq, ↓Pt.ox_some, ↓Pt.seq_l, ↓Pt.seq_t, ↓Pt.tst_b, ↓Pt.intD_i, ↓Pt.z1_i, ↓Pt.z2_i, ↓Pt.gt_rg1, ↓Pt.gt_rg1J, ↓Pt.gt_rg2, ↓Pt.gt_srcI, ↓Pt.gt_srcLen, ↓Pt.gt_lc, ↓Pt.gt_yes, ↓Pt.gl_nil, ↓Pt.gl_cons, ↓Pt.gl_ok, ↓Pt.vh_h, ↓Pt.vt_t, ↓Pt.gt_ht, ↓Pt.gt_tupL, ↓Pt.lst_l, ↓Pt.gt_newD, ↓Pt.tag_t, ↓Pt.gt_get2T, ↓Pt.key_3, ↓Pt.zp_l, ↓Pt.zp_t, ↓Pt.gt_zip, ↓Pt.pair_0, ↓Pt.pair_s, ↓Pt.gs_seq, ↓Pt.sq_nx, ↓Pt.sq_rt, ↓Pt.sq_bk, ↓Pt.sq_ct, ↓Pt.sq_ex, ↓Pt.gs_skip, ↓Pt.gs_brk, ↓Pt.gs_cnt, ↓Pt.gs_nx, ↓Pt.gs_put, ↓Pt.gs_putZ, ↓Pt.gt_map, ↓Pt.gs_ret, ↓Pt.gs_drop, ↓Pt.gs_if, ↓Pt.gs_bind, ↓Pt.gs_par, ↓Pt.gs_par3, ↓Pt.gs_for, ↓Pt.fg_nx, ↓Pt.fg_ct, ↓Pt.fg_bk, ↓Pt.fg_rt, ↓Pt.gs_frz, ↓Pt.fe_s, ↓Pt.fe_l, ↓Pt.fe_k, ↓Pt.fe_t, ↓Pt.fe_d, ↓Pt.gs_apd, ↓Pt.gs_putT, ↓Pt.gs_srcPut, ↓Pt.ox_add, ↓Pt.ox_addL, ↓Pt.ox_addT, ↓Pt.ox_sub, ↓Pt.ox_mul, ↓Pt.ox_div, ↓Pt.ox_mod, ↓Pt.ox_neg, ↓Pt.ox_lt, ↓Pt.ox_le, ↓Pt.ox_gt, ↓Pt.ox_ge, ↓Pt.ox_eq, ↓Pt.ox_ne, ↓Pt.ox_eqS, ↓Pt.ox_neS, ↓Pt.ox_eqL, ↓Pt.ox_neL, ↓Pt.ox_eqT, ↓Pt.ox_neT, ↓Pt.ox_ix0, ↓Pt.ox_ix1, ↓Pt.ox_ix2, ↓Pt.ox_ix3, ↓Pt.ox_ixT0, ↓Pt.ox_ixT1, ↓Pt.ox_ixT2, ↓Pt.ox_ixT3, ↓Pt.ox_pow20, ↓Pt.ox_lenL, ↓Pt.ox_lenT, ↓Pt.ox_int, ↓Pt.ox_abs, ↓Pt.ox_max, ↓Pt.ox_min, ↓Pt.ox_tup, ↓Pt.ox_tupT, ↓Pt.ox_list, ↓Pt.ox_listT, ↓Pt.ox_repr, dv, hp, and_self, implies_true]
      have ft : ((xs.map PyData.int).filter fun _ => true) = xs.map PyData.int := List.filter_eq_self.mpr fun _ _ => rfl
      have ge : ((xs.map PyData.int).map fun d => match d with | .int x => PyData.int (x / partL xs) | _ => .none) = (xs.map fun x => x / partL xs).map PyData.int := by
        rw [List.map_map, List.map_map]
        rfl
      rw [ft, ge] at go2
      constructor
      · intro h0
        have go3 := go2 _ (by rw [e1, if_pos (of_decide_eq_true h0)])
        simp -implicitDefEqProofs (disch := (first | omega | assumption | exact Pt.mul_r (by omega) (by omega) | exact Pt.mul_l (by omega) (by omega) | exact ml _ _ | decide)) only [↓Pt.gt_ok, ↓Pt.gt_bind, ↓Pt.gt_lift, ↓Pt.at_0, ↓Pt.at_s, ↓Pt.nt_0, ↓Pt.nt_s, ↓Pt.vd_d, ↓Pt.vd_h, ↓Pt.vo_l, ↓Pt.vo_k, ↓Pt.vo_t, ↓Pt.vl_l, ↓Pt.vs_s, ↓Pt.pu_0, ↓Pt.pu_s, ↓Pt.wi_0, ↓Pt.wi_s, ↓Pt.bp_n, ↓Pt.bp_t, ↓Pt.bp_l, ↓Pt.bps_0, ↓Pt.bps_s, ↓Pt.bo_t, ↓Pt.bo_f, ↓Pt.bo_not, ↓Pt.gt_var, ↓Pt.gt_own, ↓Pt.gt_c, ↓Pt.gt_bin, ↓Pt.gt_un, ↓Pt.gt_tst, ↓Pt.gt_andT, ↓Pt.gt_orT, ↓Pt.gt_notT, ↓Pt.gt_and, ↓Pt.gt_or, ↓Pt.gt_not, ↓Pt.gt_if, ↓Pt.gt_chain, ↓Pt.gt_nil, ↓Pt.gt_cons, ↓Pt.gt_consA, ↓Pt.gt_consS, ↓Pt.gt_tup, ↓Pt.gt_lst, ↓Pt.gt_fz, ↓Pt.gt_fzD, ↓Pt.gt_call, ↓Pt.gt_callL, ↓Pt.gt_callK, ↓Pt.gt_app, ↓Pt.gt_sl, ↓Pt.gt_none, ↓Pt.gt_some, ↓Pt.ls_l, ↓Pt.gt_rev, ↓Pt.gt_sq, ↓Pt.ox_some, ↓Pt.seq_l, ↓Pt.seq_t, ↓Pt.tst_b, ↓Pt.intD_i, ↓Pt.z1_i, ↓Pt.z2_i, ↓Pt.gt_rg1, ↓Pt.gt_rg1J, ↓Pt.gt_rg2, ↓Pt.gt_srcI, ↓Pt.gt_srcLen, ↓Pt.gt_lc, ↓Pt.gt_yes, ↓Pt.gl_nil, ↓Pt.gl_cons, ↓Pt.gl_ok, ↓Pt.vh_h, ↓Pt.vt_t, ↓Pt.gt_ht, ↓Pt.gt_tupL, ↓Pt.lst_l, ↓Pt.gt_newD, ↓Pt.tag_t, ↓Pt.gt_get2T, ↓Pt.key_3, ↓Pt.zp_l, ↓Pt.zp_t, ↓Pt.gt_zip, ↓Pt.pair_0, ↓Pt.pair_s, ↓Pt.gs_seq, ↓Pt.sq_nx, ↓Pt.sq_rt, ↓Pt.sq_bk, ↓Pt.sq_ct, ↓Pt.sq_ex, ↓Pt.gs_skip, ↓Pt.gs_brk, ↓Pt.gs_cnt, ↓Pt.gs_nx, ↓Pt.gs_put, ↓Pt.gs_putZ, ↓Pt.gt_map, ↓Pt.gs_ret, ↓Pt.gs_drop, ↓Pt.gs_if, ↓Pt.gs_bind, ↓Pt.gs_par, ↓Pt.gs_par3, ↓Pt.gs_for, ↓Pt.fg_nx, ↓Pt.fg_ct, ↓Pt.fg_bk, ↓Pt.fg_rt, ↓Pt.gs_frz, ↓Pt.fe_s, ↓Pt.fe_l, ↓Pt.fe_k, ↓Pt.fe_t, ↓Pt.fe_d, ↓Pt.gs_apd, ↓Pt.gs_putT, ↓Pt.gs_srcPut, ↓Pt.ox_add, ↓Pt.ox_addL, ↓Pt.ox_addT, ↓Pt.ox_sub, ↓Pt.ox_mul, ↓Pt.ox_div, ↓Pt.ox_mod, ↓Pt.ox_neg, ↓Pt.ox_lt, ↓Pt.ox_le, ↓Pt.ox_gt, ↓Pt.ox_ge, ↓Pt.ox_eq, ↓Pt.ox_ne, ↓Pt.ox_eqS, ↓Pt.ox_neS, ↓Pt.ox_eqL, ↓Pt.ox_neL, ↓Pt.ox_eqT, ↓Pt.ox_neT, ↓Pt.ox_ix0, ↓Pt.ox_ix1, ↓Pt.ox_ix2, ↓Pt.ox_ix3, ↓Pt.ox_ixT0, ↓Pt.ox_ixT1, ↓Pt.ox_ixT2, ↓Pt.ox_ixT3, ↓Pt.ox_pow20, ↓Pt.ox_lenL, ↓Pt.ox_lenT, ↓Pt.ox_int, ↓Pt.ox_abs, ↓Pt.ox_max, ↓Pt.ox_min, ↓Pt.ox_tup, ↓Pt.ox_tupT, ↓Pt.ox_list, ↓Pt.ox_listT, ↓Pt.ox_repr, hseq, go3]
      · intro h0
        have go3 := go2 _ (by rw [e1, if_neg (of_decide_eq_false h0)])
        simp -implicitDefEqProofs (disch := (first | omega | assumption | exact Pt.mul_r (by omega) (by omega) | exact Pt.mul_l (by omega) (by omega) | exact ml _ _ | decide)) only [↓Pt.gt_ok, ↓Pt.gt_bind, ↓Pt.gt_lift, ↓Pt.at_0, ↓Pt.at_s, ↓Pt.nt_0, ↓Pt.nt_s, ↓Pt.vd_d, ↓Pt.vd_h, ↓Pt.vo_l, ↓Pt.vo_k, ↓Pt.vo_t, ↓Pt.vl_l, ↓Pt.vs_s, ↓Pt.pu_0, ↓Pt.pu_s, ↓Pt.wi_0, ↓Pt.wi_s, ↓Pt.bp_n, ↓Pt.bp_t, ↓Pt.bp_l, ↓Pt.bps_0, ↓Pt.bps_s, ↓Pt.bo_t, ↓Pt.bo_f, ↓Pt.bo_not, ↓Pt.gt_var, ↓Pt.gt_own, ↓Pt.gt_c, ↓Pt.gt_bin, ↓Pt.gt_un, ↓Pt.gt_tst, ↓Pt.gt_andT, ↓Pt.gt_orT, ↓Pt.gt_notT, ↓Pt.gt_and, ↓Pt.gt_or, ↓Pt.gt_not, ↓Pt.gt_if, ↓Pt.gt_chain, ↓Pt.gt_nil, ↓Pt.gt_cons, ↓Pt.gt_consA, ↓Pt.gt_consS, ↓Pt.gt_tup, ↓Pt.gt_lst, ↓Pt.gt_fz, ↓Pt.gt_fzD, ↓Pt.gt_call, ↓Pt.gt_callL, ↓Pt.gt_callK, ↓Pt.gt_app, ↓Pt.gt_sl, ↓Pt.gt_none, ↓Pt.gt_some, ↓Pt.ls_l, ↓Pt.gt_rev, ↓Pt.gt_sq, ↓Pt.ox_some, ↓Pt.seq_l, ↓Pt.seq_t, ↓Pt.tst_b, ↓Pt.intD_i, ↓Pt.z1_i, ↓Pt.z2_i, ↓Pt.gt_rg1, ↓Pt.gt_rg1J, ↓Pt.gt_rg2, ↓Pt.gt_srcI, ↓Pt.gt_srcLen, ↓Pt.gt_lc, ↓Pt.gt_yes, ↓Pt.gl_nil, ↓Pt.gl_cons, ↓Pt.gl_ok, ↓Pt.vh_h, ↓Pt.vt_t, ↓Pt.gt_ht, ↓Pt.gt_tupL, ↓Pt.lst_l, ↓Pt.gt_newD, ↓Pt.tag_t, ↓Pt.gt_get2T, ↓Pt.key_3, ↓Pt.zp_l, ↓Pt.zp_t, ↓Pt.gt_zip, ↓Pt.pair_0, ↓Pt.pair_s, ↓Pt.gs_seq, ↓Pt.sq_nx, ↓Pt.sq_rt, ↓Pt.sq_bk, ↓Pt.sq_ct, ↓Pt.sq_ex, ↓Pt.gs_skip, ↓Pt.gs_brk, ↓Pt.gs_cnt, ↓Pt.gs_nx, ↓Pt.gs_put, ↓Pt.gs_putZ, ↓Pt.gt_map, ↓Pt.gs_ret, ↓Pt.gs_drop, ↓Pt.gs_if, ↓Pt.gs_bind, ↓Pt.gs_par, ↓Pt.gs_par3, ↓Pt.gs_for, ↓Pt.fg_nx, ↓Pt.fg_ct, ↓Pt.fg_bk, ↓Pt.fg_rt, ↓Pt.gs_frz, ↓Pt.fe_s, ↓Pt.fe_l, ↓Pt.fe_k, ↓Pt.fe_t, ↓Pt.fe_d, ↓Pt.gs_apd, ↓Pt.gs_putT, ↓Pt.gs_srcPut, ↓Pt.ox_add, ↓Pt.ox_addL, ↓Pt.ox_addT, ↓Pt.ox_sub, ↓Pt.ox_mul, ↓Pt.ox_div, ↓Pt.ox_mod, ↓Pt.ox_neg, ↓Pt.ox_lt, ↓Pt.ox_le, ↓Pt.ox_gt, ↓Pt.ox_ge, ↓Pt.ox_eq, ↓Pt.ox_ne, ↓Pt.ox_eqS, ↓Pt.ox_neS, ↓Pt.ox_eqL, ↓Pt.ox_neL, ↓Pt.ox_eqT, ↓Pt.ox_neT, ↓Pt.ox_ix0, ↓Pt.ox_ix1, ↓Pt.ox_ix2, ↓Pt.ox_ix3, ↓Pt.ox_ixT0, ↓Pt.ox_ixT1, ↓Pt.ox_ixT2, ↓Pt.ox_ixT3, ↓Pt.ox_pow20, ↓Pt.ox_lenL, ↓Pt.ox_lenT, ↓Pt.ox_int, ↓Pt.ox_abs, ↓Pt.ox_max, ↓Pt.ox_min, ↓Pt.ox_tup, ↓Pt.ox_tupT, ↓Pt.ox_list, ↓Pt.ox_listT, ↓Pt.ox_repr, hseq, go3]

theorem partL_two {x y : Int} (h : ¬ (x = 0 ∧ y = 0)) : partL [x, y] = partS x y := by
  unfold partL partS gcdL
  by_cases hx : x = 0
  · have hy : y ≠ 0 := fun z => h ⟨hx, z⟩
    simp [hx, hy]
  · simp [hx]
/-! ### the column that a table keeps -/
def lineC (m : M4) (t : Int) : Int × Int := ((m.col t).1 / partS (m.col t).1 (m.col t).2, (m.col t).2 / partS (m.col t).1 (m.col t).2)
theorem F_kept (m : M4) (t : Int) (s : Src) (ht : m.tr = 2 * t) (tt : t = 1 ∨ t = -1) (hu : ¬ m.unit) (hb : m.le 1073000000) : F_kept_column [.d m.D] s = .ok (.tuple [.int (lineC m t).1, .int (lineC m t).2]) s := by
  refine run_ok (e0 := [.d m.D, .un, .un, .un, .un, .un, .un]) ?_
  have hne := M4.col_ne ht tt hu
  have half : (m.a + m.d) / 2 = t := by unfold M4.tr at ht; omega
  obtain ⟨b1, b2, b3, b4⟩ := hb
  have cb : (m.col t).1.natAbs < 1073741824 ∧ (m.col t).2.natAbs < 1073741824 := by
    unfold M4.col
    split <;> constructor <;> simp only [] <;> omega
  have lst := F_least [(m.col t).1, (m.col t).2] (.tuple [.int (m.col t).1, .int (m.col t).2]) s (.inl rfl) (fun x hx => by
    rcases List.mem_cons.mp hx with rfl | hx
    · exact cb.1
    · rcases List.mem_cons.mp hx with rfl | hx
      · exact cb.2
      · cases hx)
  rw [partL_two hne] at lst
  have lst : F_least_row [.d (.tuple [.int (m.col t).1, .int (m.col t).2])] s = .ok (.list [.int (lineC m t).1, .int (lineC m t).2]) s := lst
  unfold m_kept_column M4.D
  simp -implicitDefEqProofs (disch := (first | omega | assumption | exact Pt.mul_r (by omega) (by omega) | exact Pt.mul_l (by omega) (by omega) | exact ml _ _ | decide)) only [↓Pt.gt_ok, ↓Pt.gt_bind, ↓Pt.gt_lift, ↓Pt.at_0, ↓Pt.at_s, ↓Pt.nt_0, ↓Pt.nt_s, ↓Pt.vd_d, ↓Pt.vd_h, ↓Pt.vo_l, ↓Pt.vo_k, ↓Pt.vo_t, ↓Pt.vl_l, ↓Pt.vs_s, ↓Pt.pu_0, ↓Pt.pu_s, ↓Pt.wi_0, ↓Pt.wi_s, ↓Pt.bp_n, ↓Pt.bp_t, ↓Pt.bp_l, ↓Pt.bps_0, ↓Pt.bps_s, ↓Pt.bo_t, ↓Pt.bo_f, ↓Pt.bo_not, ↓Pt.gt_var, ↓Pt.gt_own, ↓Pt.gt_c, ↓Pt.gt_bin, ↓Pt.gt_un, ↓Pt.gt_tst, ↓Pt.gt_andT, ↓Pt.gt_orT, ↓Pt.gt_notT, ↓Pt.gt_and, ↓Pt.gt_or, ↓Pt.gt_not, ↓Pt.gt_if, ↓Pt.gt_chain, ↓Pt.gt_nil, ↓Pt.gt_cons, ↓Pt.gt_consA, ↓Pt.gt_consS, ↓Pt.gt_tup, ↓Pt.gt_lst, ↓Pt.gt_fz, ↓Pt.gt_fzD, ↓Pt.gt_call, ↓Pt.gt_callL, ↓Pt.gt_callK, ↓Pt.gt_app, ↓Pt.gt_sl, ↓Pt.gt_none, ↓Pt.gt_some, ↓Pt.ls_l, ↓Pt.gt_rev, ↓Pt.gt_sq, ↓Pt.ox_some, ↓Pt.seq_l, ↓Pt.seq_t, ↓Pt.tst_b, ↓Pt.intD_i, ↓Pt.z1_i, ↓Pt.z2_i, ↓Pt.gt_rg1, ↓Pt.gt_rg1J, ↓Pt.gt_rg2, ↓Pt.gt_srcI, ↓Pt.gt_srcLen, ↓Pt.gt_lc, ↓Pt.gt_yes, ↓Pt.gl_nil, ↓Pt.gl_cons, ↓Pt.gl_ok, ↓Pt.vh_h, ↓Pt.vt_t, ↓Pt.gt_ht, ↓Pt.gt_tupL, ↓Pt.lst_l, ↓Pt.gt_newD, ↓Pt.tag_t, ↓Pt.gt_get2T, ↓Pt.key_3, ↓Pt.zp_l, ↓Pt.zp_t, ↓Pt.gt_zip, ↓Pt.pair_0, ↓Pt.pair_s, ↓Pt.gs_seq, ↓Pt.sq_nx, ↓Pt.sq_rt, ↓Pt.sq_bk, ↓Pt.sq_ct, ↓Pt.sq_ex, ↓Pt.gs_skip, ↓Pt.gs_brk, ↓Pt.gs_cnt, ↓Pt.gs_nx, ↓Pt.gs_put, ↓Pt.gs_putZ, ↓Pt.gt_map, ↓Pt.gs_ret, ↓Pt.gs_drop, ↓Pt.gs_if, ↓Pt.gs_bind, ↓Pt.gs_par, ↓Pt.gs_par3, ↓Pt.gs_for, ↓Pt.fg_nx, ↓Pt.fg_ct, ↓Pt.fg_bk, ↓Pt.fg_rt, ↓Pt.gs_frz, ↓Pt.fe_s, ↓Pt.fe_l, ↓Pt.fe_k, ↓Pt.fe_t, ↓Pt.fe_d, ↓Pt.gs_apd, ↓Pt.gs_putT, ↓Pt.gs_srcPut, ↓Pt.ox_add, ↓Pt.ox_addL, ↓Pt.ox_addT, ↓Pt.ox_sub, ↓Pt.ox_mul, ↓Pt.ox_div, ↓Pt.ox_mod, ↓Pt.ox_neg, ↓Pt.ox_lt, ↓Pt.ox_le, ↓Pt.ox_gt, ↓Pt.ox_ge, ↓Pt.ox_eq, ↓Pt.ox_ne, ↓Pt.ox_eqS, ↓Pt.ox_neS, ↓Pt.ox_eqL, ↓Pt.ox_neL, ↓Pt.ox_eqT, ↓Pt.ox_neT, ↓Pt.ox_ix0, ↓Pt.ox_ix1, ↓Pt.ox_ix2, ↓Pt.ox_ix3, ↓Pt.ox_ixT0, ↓Pt.ox_ixT1, ↓Pt.ox_ixT2, ↓Pt.ox_ixT3, ↓Pt.ox_pow20, ↓Pt.ox_lenL, ↓Pt.ox_lenT, ↓Pt.ox_int, ↓Pt.ox_abs, ↓Pt.ox_max, ↓Pt.ox_min, ↓Pt.ox_tup, ↓Pt.ox_tupT, ↓Pt.ox_list, ↓Pt.ox_listT, ↓Pt.ox_repr, half, sz2, true_and]
  have e0 : ∀ c : Int × Int, m.col t = c → F_least_row [.d (.tuple [.int c.1, .int c.2])] s = .ok (.list [.int (lineC m t).1, .int (lineC m t).2]) s := fun c h => by rw [← h]; exact lst
  by_cases c1 : m.b = 0
  · by_cases c2 : t = m.a
    · have e1 := e0 (t - m.d, m.c) (by unfold M4.col; rw [if_neg (by omega)])
      simp -implicitDefEqProofs (disch := (first | omega | assumption | exact Pt.mul_r (by omega) (by omega) | exact Pt.mul_l (by omega) (by omega) | exact ml _ _ | decide)) only [c1, c2, decide_true, Pt.bo_t]
      rw [c2] at e1
      simp -implicitDefEqProofs (disch := (first | omega | assumption | exact Pt.mul_r (by omega) (by omega) | exact Pt.mul_l (by omega) (by omega) | exact ml _ _ | decide)) only [↓Pt.gt_ok, ↓Pt.gt_bind, ↓Pt.gt_lift, ↓Pt.at_0, ↓Pt.at_s, ↓Pt.nt_0, ↓Pt.nt_s, ↓Pt.vd_d, ↓Pt.vd_h, ↓Pt.vo_l, ↓Pt.vo_k, ↓Pt.vo_t, ↓Pt.vl_l, ↓Pt.vs_s, ↓Pt.pu_0, ↓Pt.pu_s, ↓Pt.wi_0, ↓Pt.wi_s, ↓Pt.bp_n, ↓Pt.bp_t, ↓Pt.bp_l, ↓Pt.bps_0, ↓Pt.bps_s, ↓Pt.bo_t, ↓Pt.bo_f, ↓Pt.bo_not, ↓Pt.gt_var, ↓Pt.gt_own, ↓Pt.gt_c, ↓Pt.gt_bin, ↓Pt.gt_un, ↓Pt.gt_tst, ↓Pt.gt_andT, ↓Pt.gt_orT, ↓Pt.gt_notT, ↓Pt.gt_and, ↓Pt.gt_or, ↓Pt.gt_not, ↓Pt.gt_if, ↓Pt.gt_chain, ↓Pt.gt_nil, ↓Pt.gt_cons, ↓Pt.gt_consA, ↓Pt.gt_consS, ↓Pt.gt_tup, ↓Pt.gt_lst, ↓Pt.gt_fz, ↓Pt.gt_fzD, ↓Pt.gt_call, ↓Pt.gt_callL, ↓Pt.gt_callK, ↓Pt.gt_app, ↓Pt.gt_sl, ↓Pt.gt_none, ↓Pt.gt_some, ↓Pt.ls_l, ↓Pt.gt_rev, ↓Pt.gt_sq, ↓Pt.ox_some, ↓Pt.seq_l, ↓Pt.seq_t, ↓Pt.tst_b, ↓Pt.intD_i, ↓Pt.z1_i, ↓Pt.z2_i, ↓Pt.gt_rg1, ↓Pt.gt_rg1J, ↓Pt.gt_rg2, ↓Pt.gt_srcI, ↓Pt.gt_srcLen, ↓Pt.gt_lc, ↓Pt.gt_yes, ↓Pt.gl_nil, ↓Pt.gl_cons, ↓Pt.gl_ok, ↓Pt.vh_h, ↓Pt.vt_t, ↓Pt.gt_ht, ↓Pt.gt_tupL, ↓Pt.lst_l, ↓Pt.gt_newD, ↓Pt.tag_t, ↓Pt.gt_get2T, ↓Pt.key_3, ↓Pt.zp_l, ↓Pt.zp_t, ↓Pt.gt_zip, ↓Pt.pair_0, ↓Pt.pair_s, ↓Pt.gs_seq, ↓Pt.sq_nx, ↓Pt.sq_rt, ↓Pt.sq_bk, ↓Pt.sq_ct, ↓Pt.sq_ex, ↓Pt.gs_skip, ↓Pt.gs_brk, ↓Pt.gs_cnt, ↓Pt.gs_nx, ↓Pt.gs_put, ↓Pt.gs_putZ, ↓Pt.gt_map, ↓Pt.gs_ret, ↓Pt.gs_drop, ↓Pt.gs_if, ↓Pt.gs_bind, ↓Pt.gs_par, ↓Pt.gs_par3, ↓Pt.gs_for, ↓Pt.fg_nx, ↓Pt.fg_ct, ↓Pt.fg_bk, ↓Pt.fg_rt, ↓Pt.gs_frz, ↓Pt.fe_s, ↓Pt.fe_l, ↓Pt.fe_k, ↓Pt.fe_t, ↓Pt.fe_d, ↓Pt.gs_apd, ↓Pt.gs_putT, ↓Pt.gs_srcPut, ↓Pt.ox_add, ↓Pt.ox_addL, ↓Pt.ox_addT, ↓Pt.ox_sub, ↓Pt.ox_mul, ↓Pt.ox_div, ↓Pt.ox_mod, ↓Pt.ox_neg, ↓Pt.ox_lt, ↓Pt.ox_le, ↓Pt.ox_gt, ↓Pt.ox_ge, ↓Pt.ox_eq, ↓Pt.ox_ne, ↓Pt.ox_eqS, ↓Pt.ox_neS, ↓Pt.ox_eqL, ↓Pt.ox_neL, ↓Pt.ox_eqT, ↓Pt.ox_neT, ↓Pt.ox_ix0, ↓Pt.ox_ix1, ↓Pt.ox_ix2, ↓Pt.ox_ix3, ↓Pt.ox_ixT0, ↓Pt.ox_ixT1, ↓Pt.ox_ixT2, ↓Pt.ox_ixT3, ↓Pt.ox_pow20, ↓Pt.ox_lenL, ↓Pt.ox_lenT, ↓Pt.ox_int, ↓Pt.ox_abs, ↓Pt.ox_max, ↓Pt.ox_min, ↓Pt.ox_tup, ↓Pt.ox_tupT, ↓Pt.ox_list, ↓Pt.ox_listT, ↓Pt.ox_repr, ↓gt_eq e1, c2]
    · have e1 := e0 (m.b, t - m.a) (by unfold M4.col; rw [if_pos (by omega)])
      rw [decide_eq_true c1, decide_eq_false c2]
      simp -implicitDefEqProofs (disch := (first | omega | assumption | exact Pt.mul_r (by omega) (by omega) | exact Pt.mul_l (by omega) (by omega) | exact ml _ _ | decide)) only [↓Pt.gt_ok, ↓Pt.gt_bind, ↓Pt.gt_lift, ↓Pt.at_0, ↓Pt.at_s, ↓Pt.nt_0, ↓Pt.nt_s, ↓Pt.vd_d, ↓Pt.vd_h, ↓Pt.vo_l, ↓Pt.vo_k, ↓Pt.vo_t, ↓Pt.vl_l, ↓Pt.vs_s, ↓Pt.pu_0, ↓Pt.pu_s, ↓Pt.wi_0, ↓Pt.wi_s, ↓Pt.bp_n, ↓Pt.bp_t, ↓Pt.bp_l, ↓Pt.bps_0, ↓Pt.bps_s, ↓Pt.bo_t, ↓Pt.bo_f, ↓Pt.bo_not, ↓Pt.gt_var, ↓Pt.gt_own, ↓Pt.gt_c, ↓Pt.gt_bin, ↓Pt.gt_un, ↓Pt.gt_tst, ↓Pt.gt_andT, ↓Pt.gt_orT, ↓Pt.gt_notT, ↓Pt.gt_and, ↓Pt.gt_or, ↓Pt.gt_not, ↓Pt.gt_if, ↓Pt.gt_chain, ↓Pt.gt_nil, ↓Pt.gt_cons, ↓Pt.gt_consA, ↓Pt.gt_consS, ↓Pt.gt_tup, ↓Pt.gt_lst, ↓Pt.gt_fz, ↓Pt.gt_fzD, ↓Pt.gt_call, ↓Pt.gt_callL, ↓Pt.gt_callK, ↓Pt.gt_app, ↓Pt.gt_sl, ↓Pt.gt_none, ↓Pt.gt_some, ↓Pt.ls_l, ↓Pt.gt_rev, ↓Pt.gt_sq, ↓Pt.ox_some, ↓Pt.seq_l, ↓Pt.seq_t, ↓Pt.tst_b, ↓Pt.intD_i, ↓Pt.z1_i, ↓Pt.z2_i, ↓Pt.gt_rg1, ↓Pt.gt_rg1J, ↓Pt.gt_rg2, ↓Pt.gt_srcI, ↓Pt.gt_srcLen, ↓Pt.gt_lc, ↓Pt.gt_yes, ↓Pt.gl_nil, ↓Pt.gl_cons, ↓Pt.gl_ok, ↓Pt.vh_h, ↓Pt.vt_t, ↓Pt.gt_ht, ↓Pt.gt_tupL, ↓Pt.lst_l, ↓Pt.gt_newD, ↓Pt.tag_t, ↓Pt.gt_get2T, ↓Pt.key_3, ↓Pt.zp_l, ↓Pt.zp_t, ↓Pt.gt_zip, ↓Pt.pair_0, ↓Pt.pair_s, ↓Pt.gs_seq, ↓Pt.sq_nx, ↓Pt.sq_rt, ↓Pt.sq_bk, ↓Pt.sq_ct, ↓Pt.sq_ex, ↓Pt.gs_skip, ↓Pt.gs_brk, ↓Pt.gs_cnt, ↓Pt.gs_nx, ↓Pt.gs_put, ↓Pt.gs_putZ, ↓Pt.gt_map, ↓Pt.gs_ret, ↓Pt.gs_drop, ↓Pt.gs_if, ↓Pt.gs_bind, ↓Pt.gs_par, ↓Pt.gs_par3, ↓Pt.gs_for, ↓Pt.fg_nx, ↓Pt.fg_ct, ↓Pt.fg_bk, ↓Pt.fg_rt, ↓Pt.gs_frz, ↓Pt.fe_s, ↓Pt.fe_l, ↓Pt.fe_k, ↓Pt.fe_t, ↓Pt.fe_d, ↓Pt.gs_apd, ↓Pt.gs_putT, ↓Pt.gs_srcPut, ↓Pt.ox_add, ↓Pt.ox_addL, ↓Pt.ox_addT, ↓Pt.ox_sub, ↓Pt.ox_mul, ↓Pt.ox_div, ↓Pt.ox_mod, ↓Pt.ox_neg, ↓Pt.ox_lt, ↓Pt.ox_le, ↓Pt.ox_gt, ↓Pt.ox_ge, ↓Pt.ox_eq, ↓Pt.ox_ne, ↓Pt.ox_eqS, ↓Pt.ox_neS, ↓Pt.ox_eqL, ↓Pt.ox_neL, ↓Pt.ox_eqT, ↓Pt.ox_neT, ↓Pt.ox_ix0, ↓Pt.ox_ix1, ↓Pt.ox_ix2, ↓Pt.ox_ix3, ↓Pt.ox_ixT0, ↓Pt.ox_ixT1, ↓Pt.ox_ixT2, ↓Pt.ox_ixT3, ↓Pt.ox_pow20, ↓Pt.ox_lenL, ↓Pt.ox_lenT, ↓Pt.ox_int, ↓Pt.ox_abs, ↓Pt.ox_max, ↓Pt.ox_min, ↓Pt.ox_tup, ↓Pt.ox_tupT, ↓Pt.ox_list, ↓Pt.ox_listT, ↓Pt.ox_repr, ↓gt_eq e1]
  · have e1 := e0 (m.b, t - m.a) (by unfold M4.col; rw [if_pos (by omega)])
    rw [decide_eq_false c1]
    simp -implicitDefEqProofs (disch := (first | omega | assumption | exact Pt.mul_r (by omega) (by omega) | exact Pt.mul_l (by omega) (by omega) | exact ml _ _ | decide)) only [↓Pt.gt_ok, ↓Pt.gt_bind, ↓Pt.gt_lift, ↓Pt.at_0, ↓Pt.at_s, ↓Pt.nt_0, ↓Pt.nt_s, ↓Pt.vd_d, ↓Pt.vd_h, ↓Pt.vo_l, ↓Pt.vo_k, ↓Pt.vo_t, ↓Pt.vl_l, ↓Pt.vs_s, ↓Pt.pu_0, ↓Pt.pu_s, ↓Pt.wi_0, ↓Pt.wi_s, ↓Pt.bp_n, ↓Pt.bp_t, ↓Pt.bp_l, ↓Pt.bps_0, ↓Pt.bps_s, ↓Pt.bo_t, ↓Pt.bo_f, ↓Pt.bo_not, ↓Pt.gt_var, ↓Pt.gt_own, ↓Pt.gt_c, ↓Pt.gt_bin, ↓Pt.gt_un, ↓Pt.gt_tst, ↓Pt.gt_andT, ↓Pt.gt_orT, ↓Pt.gt_notT, ↓Pt.gt_and, ↓Pt.gt_or, ↓Pt.gt_not, ↓Pt.gt_if, ↓Pt.gt_chain, ↓Pt.gt_nil, ↓Pt.gt_cons, ↓Pt.gt_consA, ↓Pt.gt_consS, ↓Pt.gt_tup, ↓Pt.gt_lst, ↓Pt.gt_fz, ↓Pt.gt_fzD, ↓Pt.gt_call, ↓Pt.gt_callL, ↓Pt.gt_callK, ↓Pt.gt_app, ↓Pt.gt_sl, ↓Pt.gt_none, ↓Pt.gt_some, ↓Pt.ls_l, ↓Pt.gt_rev, ↓Pt.gt_sq, ↓Pt.ox_some, ↓Pt.seq_l, ↓Pt.seq_t, ↓Pt.tst_b, ↓Pt.intD_i, ↓Pt.z1_i, ↓Pt.z2_i, ↓Pt.gt_rg1, ↓Pt.gt_rg1J, ↓Pt.gt_rg2, ↓Pt.gt_srcI, ↓Pt.gt_srcLen, ↓Pt.gt_lc, ↓Pt.gt_yes, ↓Pt.gl_nil, ↓Pt.gl_cons, ↓Pt.gl_ok, ↓Pt.vh_h, ↓Pt.vt_t, ↓Pt.gt_ht, ↓Pt.gt_tupL, ↓Pt.lst_l, ↓Pt.gt_newD, ↓Pt.tag_t, ↓Pt.gt_get2T, ↓Pt.key_3, ↓Pt.zp_l, ↓Pt.zp_t, ↓Pt.gt_zip, ↓Pt.pair_0, ↓Pt.pair_s, ↓Pt.gs_seq, ↓Pt.sq_nx, ↓Pt.sq_rt, ↓Pt.sq_bk, ↓Pt.sq_ct, ↓Pt.sq_ex, ↓Pt.gs_skip, ↓Pt.gs_brk, ↓Pt.gs_cnt, ↓Pt.gs_nx, ↓Pt.gs_put, ↓Pt.gs_putZ, ↓Pt.gt_map, ↓Pt.gs_ret, ↓Pt.gs_drop, ↓Pt.gs_if, ↓Pt.gs_bind, ↓Pt.gs_par, ↓Pt.gs_par3, ↓Pt.gs_for, ↓Pt.fg_nx, ↓Pt.fg_ct, ↓Pt.fg_bk, ↓Pt.fg_rt, ↓Pt.gs_frz, ↓Pt.fe_s, ↓Pt.fe_l, ↓Pt.fe_k, ↓Pt.fe_t, ↓Pt.fe_d, ↓Pt.gs_apd, ↓Pt.gs_putT, ↓Pt.gs_srcPut, ↓Pt.ox_add, ↓Pt.ox_addL, ↓Pt.ox_addT, ↓Pt.ox_sub, ↓Pt.ox_mul, ↓Pt.ox_div, ↓Pt.ox_mod, ↓Pt.ox_neg, ↓Pt.ox_lt, ↓Pt.ox_le, ↓Pt.ox_gt, ↓Pt.ox_ge, ↓Pt.ox_eq, ↓Pt.ox_ne, ↓Pt.ox_eqS, ↓Pt.ox_neS, ↓Pt.ox_eqL, ↓Pt.ox_neL, ↓Pt.ox_eqT, ↓Pt.ox_neT, ↓Pt.ox_ix0, ↓Pt.ox_ix1, ↓Pt.ox_ix2, ↓Pt.ox_ix3, ↓Pt.ox_ixT0, ↓Pt.ox_ixT1, ↓Pt.ox_ixT2, ↓Pt.ox_ixT3, ↓Pt.ox_pow20, ↓Pt.ox_lenL, ↓Pt.ox_lenT, ↓Pt.ox_int, ↓Pt.ox_abs, ↓Pt.ox_max, ↓Pt.ox_min, ↓Pt.ox_tup, ↓Pt.ox_tupT, ↓Pt.ox_list, ↓Pt.ox_listT, ↓Pt.ox_repr, ↓gt_eq e1]
/-! ### what is told of lines -/
def unitB (m : M4) : Bool := decide (m = M4.one) || decide (m = M4.one.neg)
theorem unitB_iff (m : M4) : unitB m = true ↔ m.unit := by
  unfold unitB M4.unit
  rw [Bool.or_eq_true, decide_eq_true_eq, decide_eq_true_eq]
def eachOne : List Pt.D := [.tuple [.int 1, .int 0, .int 0, .int 1], .tuple [.int (-1), .int 0, .int 0, .int (-1)]]
theorem each_any (m : M4) : (eachOne.any fun z => PyData.eqv z m.D) = unitB m := by
  unfold eachOne unitB M4.D
  simp only [List.any_cons, List.any_nil, PyData.eqv, PyData.eqvAll, Bool.or_false, Bool.and_true]
  obtain ⟨a, b, c, d⟩ := m
  simp only [M4.one, M4.neg, M4.mk.injEq]
  rw [Bool.eq_iff_iff]
  simp
  omega
theorem plain_M4 {m : M4} (h : m.le (2 ^ 1000)) : Pt.plain m.D = true := by
  obtain ⟨h1, h2, h3, h4⟩ := h
  have w : ∀ i : Int, i.natAbs ≤ 2 ^ 1000 → wideI i = true := fun i h => wide_pow (k := 1001) (by decide) (by
    have : 2 ^ 1001 = 2 * 2 ^ 1000 := rfl
    have : 0 < 2 ^ 1000 := Nat.two_pow_pos _
    omega)
  unfold M4.D
  rw [Pt.plain, plainAll, plainAll, plainAll, plainAll, plainAll, Pt.plain, Pt.plain, Pt.plain, Pt.plain, w _ h1, w _ h2, w _ h3, w _ h4]
  rfl
theorem ox_notInM {m : M4} {K : Pt.D → Prop} (h : m.le (2 ^ 1000)) : Ox (dIn true m.D (.tuple eachOne)) K = K (.bool (!unitB m)) := by
  have s1 : shB m.D = true := sh_ok (plain_M4 h) (by unfold M4.D; simp [PyData.depth, PyData.depthAll])
  have s2 : shB (.tuple eachOne) = true := by decide
  show Ox (if (shB m.D && shB (.tuple eachOne)) = true then some (PyData.bool (if true then !eachOne.any fun z => PyData.eqv z m.D else _)) else none) K = _
  rw [s1, s2, each_any]
  rfl
def firstNU (m n : M4) : Option M4 := if unitB m = false then some m else if unitB n = false then some n else none
def lineOf (z : M4) : Pt.D := if z.tr * z.tr - 4 = 0 then .tuple [.str "one", .tuple [.int (lineC z (z.tr / 2)).1, .int (lineC z (z.tr / 2)).2]] else .tuple [.str "root", .int (z.tr * z.tr - 4)]
def lineM : Option M4 → Pt.D
  | none => .tuple [.str "every"]
  | some z => lineOf z
theorem lineM_some (z : M4) : lineM (some z) = lineOf z := rfl
def lineD (m n : M4) : Pt.D := if m.k n = 2 then lineM (firstNU m n) else .tuple [.str "none"]
theorem tr_cases {x : Int} (h : x * x - 4 = 0) : x = 2 * (x / 2) ∧ (x / 2 = 1 ∨ x / 2 = -1) := by
  have h1 : (x - 2) * (x + 2) = 0 := by grind
  rcases Int.mul_eq_zero.mp h1 with z | z
  · have : x = 2 := by omega
    subst this; decide
  · have : x = -2 := by omega
    subst this; decide
theorem big_M4 {z : M4} (h : z.le 1073000000) : z.le (2 ^ 1000) := M4.le_mono h (by decide)
theorem two_M4 {m n : M4} (hm : m.le 1073000000) (hn : n.le 1073000000) {x : Pt.D} (hx : x ∈ [m.D, n.D]) : ∃ z : M4, z.le (2 ^ 1000) ∧ x = z.D := by
  rcases List.mem_cons.mp hx with rfl | hx
  · exact ⟨m, big_M4 hm, rfl⟩
  · rcases List.mem_cons.mp hx with rfl | hx
    · exact ⟨n, big_M4 hn, rfl⟩
    · cases hx
theorem lines_some (m n : M4) (hm : m.le 1073000000) (hn : n.le 1073000000) : ∃ L, (([m.D, n.D].filter fun d => !(eachOne.any fun z => PyData.eqv z d)).map id) = L ∧ shB (.list L) = true ∧ ((L = [] ∧ firstNU m n = none) ∨ ∃ z r, L = z.D :: r ∧ firstNU m n = some z ∧ ¬ z.unit ∧ z.le 1073000000) := by
  have pm := plain_M4 (big_M4 hm)
  have pn := plain_M4 (big_M4 hn)
  have dm : ∀ z : M4, z.D.depth = 1 := fun z => by unfold M4.D; simp [PyData.depth, PyData.depthAll]
  rw [List.map_id]
  unfold firstNU
  have um := unitB_iff m
  have un := unitB_iff n
  cases h1 : unitB m <;> cases h2 : unitB n <;> rw [h1] at um <;> rw [h2] at un <;> simp only [List.filter_cons, List.filter_nil, each_any, h1, h2, Bool.not_true, Bool.not_false, if_true, if_false, Bool.false_eq_true]
  · refine ⟨_, rfl, sh_ok ?_ ?_, .inr ⟨m, _, rfl, rfl, fun z => by simpa using um.mpr z, hm⟩⟩
    · rw [Pt.plain, plainAll, plainAll, plainAll, pm, pn]; rfl
    · simp only [PyData.depth, PyData.depthAll, dm]; decide
  · refine ⟨_, rfl, sh_ok ?_ ?_, .inr ⟨m, _, rfl, rfl, fun z => by simpa using um.mpr z, hm⟩⟩
    · rw [Pt.plain, plainAll, plainAll, pm]; rfl
    · simp only [PyData.depth, PyData.depthAll, dm]; decide
  · refine ⟨_, rfl, sh_ok ?_ ?_, .inr ⟨n, _, rfl, rfl, fun z => by simpa using un.mpr z, hn⟩⟩
    · rw [Pt.plain, plainAll, plainAll, pn]; rfl
    · simp only [PyData.depth, PyData.depthAll, dm]; decide
  · exact ⟨_, rfl, by decide, .inl ⟨rfl, by simp⟩⟩
theorem F_line (m n : M4) (s : Src) (hm : m.le 1073000000) (hn : n.le 1073000000) : F_line_told [.d (.tuple [m.D, n.D])] s = .ok (lineD m n) s := by
  refine run_ok (e0 := [.d (.tuple [m.D, n.D]), .un, .un, .un]) ?_
  have f1 := F_tracedP m n s (M4.le_mono hn (by decide))
  have t1 := M4.tr_le hm
  have t2 := M4.tr_le hn
  have t3 := M4.tr_le (M4.mul_le hm hn)
  have f2 := F_kof (x := m.tr) (y := n.tr) (z := (m.mul n).tr) s (Nat.le_trans t1 (by decide)) (Nat.le_trans t2 (by decide)) (Nat.le_trans t3 (by decide))
  have big : ∀ {z : M4}, z.le 1073000000 → z.le (2 ^ 1000) := fun h => M4.le_mono h (by decide)
  have hk : kk m.tr n.tr (m.mul n).tr = m.k n := rfl
  rw [hk] at f2
  unfold m_line_told
  rw [Pt.gs_seq]
  simp -implicitDefEqProofs (disch := (first | omega | assumption | exact Pt.mul_r (by omega) (by omega) | exact Pt.mul_l (by omega) (by omega) | exact ml _ _ | decide)) only [↓Pt.gt_ok, ↓Pt.gt_bind, ↓Pt.gt_lift, ↓Pt.at_0, ↓Pt.at_s, ↓Pt.nt_0, ↓Pt.nt_s, ↓Pt.vd_d, ↓Pt.vd_h, ↓Pt.vo_l, ↓Pt.vo_k, ↓Pt.vo_t, ↓Pt.vl_l, ↓Pt.vs_s, ↓Pt.pu_0, ↓Pt.pu_s, ↓Pt.wi_0, ↓Pt.wi_s, ↓Pt.bp_n, ↓Pt.bp_t, ↓Pt.bp_l, ↓Pt.bps_0, ↓Pt.bps_s, ↓Pt.bo_t, ↓Pt.bo_f, ↓Pt.bo_not, ↓Pt.gt_var, ↓Pt.gt_own, ↓Pt.gt_c, ↓Pt.gt_bin, ↓Pt.gt_un, ↓Pt.gt_tst, ↓Pt.gt_andT, ↓Pt.gt_orT, ↓Pt.gt_notT, ↓Pt.gt_and, ↓Pt.gt_or, ↓Pt.gt_not, ↓Pt.gt_if, ↓Pt.gt_chain, ↓Pt.gt_nil, ↓Pt.gt_cons, ↓Pt.gt_consA, ↓Pt.gt_consS, ↓Pt.gt_tup, ↓Pt.gt_lst, ↓Pt.gt_fz, ↓Pt.gt_fzD, ↓Pt.gt_call, ↓Pt.gt_callL, ↓Pt.gt_callK, ↓Pt.gt_app, ↓Pt.gt_sl, ↓Pt.gt_none, ↓Pt.gt_some, ↓Pt.ls_l, ↓Pt.gt_rev, ↓Pt.gt_sq, ↓Pt.ox_some, ↓Pt.seq_l, ↓Pt.seq_t, ↓Pt.tst_b, ↓Pt.intD_i, ↓Pt.z1_i, ↓Pt.z2_i, ↓Pt.gt_rg1, ↓Pt.gt_rg1J, ↓Pt.gt_rg2, ↓Pt.gt_srcI, ↓Pt.gt_srcLen, ↓Pt.gt_lc, ↓Pt.gt_yes, ↓Pt.gl_nil, ↓Pt.gl_cons, ↓Pt.gl_ok, ↓Pt.vh_h, ↓Pt.vt_t, ↓Pt.gt_ht, ↓Pt.gt_tupL, ↓Pt.lst_l, ↓Pt.gt_newD, ↓Pt.tag_t, ↓Pt.gt_get2T, ↓Pt.key_3, ↓Pt.zp_l, ↓Pt.zp_t, ↓Pt.gt_zip, ↓Pt.pair_0, ↓Pt.pair_s, ↓Pt.gs_seq, ↓Pt.sq_rt, ↓Pt.sq_bk, ↓Pt.sq_ct, ↓Pt.sq_ex, ↓Pt.gs_skip, ↓Pt.gs_brk, ↓Pt.gs_cnt, ↓Pt.gs_nx, ↓Pt.gs_put, ↓Pt.gs_putZ, ↓Pt.gt_map, ↓Pt.gs_ret, ↓Pt.gs_drop, ↓Pt.gs_if, ↓Pt.gs_bind, ↓Pt.gs_par, ↓Pt.gs_par3, ↓Pt.gs_for, ↓Pt.fg_nx, ↓Pt.fg_ct, ↓Pt.fg_bk, ↓Pt.fg_rt, ↓Pt.gs_frz, ↓Pt.fe_s, ↓Pt.fe_l, ↓Pt.fe_k, ↓Pt.fe_t, ↓Pt.fe_d, ↓Pt.gs_apd, ↓Pt.gs_putT, ↓Pt.gs_srcPut, ↓Pt.ox_add, ↓Pt.ox_addL, ↓Pt.ox_addT, ↓Pt.ox_sub, ↓Pt.ox_mul, ↓Pt.ox_div, ↓Pt.ox_mod, ↓Pt.ox_neg, ↓Pt.ox_lt, ↓Pt.ox_le, ↓Pt.ox_gt, ↓Pt.ox_ge, ↓Pt.ox_eq, ↓Pt.ox_ne, ↓Pt.ox_eqS, ↓Pt.ox_neS, ↓Pt.ox_eqL, ↓Pt.ox_neL, ↓Pt.ox_eqT, ↓Pt.ox_neT, ↓Pt.ox_ix0, ↓Pt.ox_ix1, ↓Pt.ox_ix2, ↓Pt.ox_ix3, ↓Pt.ox_ixT0, ↓Pt.ox_ixT1, ↓Pt.ox_ixT2, ↓Pt.ox_ixT3, ↓Pt.ox_pow20, ↓Pt.ox_lenL, ↓Pt.ox_lenT, ↓Pt.ox_int, ↓Pt.ox_abs, ↓Pt.ox_max, ↓Pt.ox_min, ↓Pt.ox_tup, ↓Pt.ox_tupT, ↓Pt.ox_list, ↓Pt.ox_listT, ↓Pt.ox_repr, ↓gt_eq f1, ↓gt_eq f2]
  by_cases ck : m.k n = 2
  · rw [ck]
    simp -implicitDefEqProofs (disch := (first | omega | assumption | exact Pt.mul_r (by omega) (by omega) | exact Pt.mul_l (by omega) (by omega) | exact ml _ _ | decide)) only [↓Pt.gt_ok, ↓Pt.gt_bind, ↓Pt.gt_lift, ↓Pt.at_0, ↓Pt.at_s, ↓Pt.nt_0, ↓Pt.nt_s, ↓Pt.vd_d, ↓Pt.vd_h, ↓Pt.vo_l, ↓Pt.vo_k, ↓Pt.vo_t, ↓Pt.vl_l, ↓Pt.vs_s, ↓Pt.pu_0, ↓Pt.pu_s, ↓Pt.wi_0, ↓Pt.wi_s, ↓Pt.bp_n, ↓Pt.bp_t, ↓Pt.bp_l, ↓Pt.bps_0, ↓Pt.bps_s, ↓Pt.bo_t, ↓Pt.bo_f, ↓Pt.bo_not, ↓Pt.gt_var, ↓Pt.gt_own, ↓Pt.gt_c, ↓Pt.gt_bin, ↓Pt.gt_un, ↓Pt.gt_tst, ↓Pt.gt_andT, ↓Pt.gt_orT, ↓Pt.gt_notT, ↓Pt.gt_and, ↓Pt.gt_or, ↓Pt.gt_not, ↓Pt.gt_if, ↓Pt.gt_chain, ↓Pt.gt_nil, ↓Pt.gt_cons, ↓Pt.gt_consA, ↓Pt.gt_consS, ↓Pt.gt_tup, ↓Pt.gt_lst, ↓Pt.gt_fz, ↓Pt.gt_fzD, ↓Pt.gt_call, ↓Pt.gt_callL, ↓Pt.gt_callK, ↓Pt.gt_app, ↓Pt.gt_sl, ↓Pt.gt_none, ↓Pt.gt_some, ↓Pt.ls_l, ↓Pt.gt_rev, ↓Pt.gt_sq, ↓Pt.ox_some, ↓Pt.seq_l, ↓Pt.seq_t, ↓Pt.tst_b, ↓Pt.intD_i, ↓Pt.z1_i, ↓Pt.z2_i, ↓Pt.gt_rg1, ↓Pt.gt_rg1J, ↓Pt.gt_rg2, ↓Pt.gt_srcI, ↓Pt.gt_srcLen, ↓Pt.gt_lc, ↓Pt.gt_yes, ↓Pt.gl_nil, ↓Pt.gl_cons, ↓Pt.gl_ok, ↓Pt.vh_h, ↓Pt.vt_t, ↓Pt.gt_ht, ↓Pt.gt_tupL, ↓Pt.lst_l, ↓Pt.gt_newD, ↓Pt.tag_t, ↓Pt.gt_get2T, ↓Pt.key_3, ↓Pt.zp_l, ↓Pt.zp_t, ↓Pt.gt_zip, ↓Pt.pair_0, ↓Pt.pair_s, ↓Pt.gs_seq, ↓Pt.sq_rt, ↓Pt.sq_bk, ↓Pt.sq_ct, ↓Pt.sq_ex, ↓Pt.gs_skip, ↓Pt.gs_brk, ↓Pt.gs_cnt, ↓Pt.gs_nx, ↓Pt.gs_put, ↓Pt.gs_putZ, ↓Pt.gt_map, ↓Pt.gs_ret, ↓Pt.gs_drop, ↓Pt.gs_if, ↓Pt.gs_bind, ↓Pt.gs_par, ↓Pt.gs_par3, ↓Pt.gs_for, ↓Pt.fg_nx, ↓Pt.fg_ct, ↓Pt.fg_bk, ↓Pt.fg_rt, ↓Pt.gs_frz, ↓Pt.fe_s, ↓Pt.fe_l, ↓Pt.fe_k, ↓Pt.fe_t, ↓Pt.fe_d, ↓Pt.gs_apd, ↓Pt.gs_putT, ↓Pt.gs_srcPut, ↓Pt.ox_add, ↓Pt.ox_addL, ↓Pt.ox_addT, ↓Pt.ox_sub, ↓Pt.ox_mul, ↓Pt.ox_div, ↓Pt.ox_mod, ↓Pt.ox_neg, ↓Pt.ox_lt, ↓Pt.ox_le, ↓Pt.ox_gt, ↓Pt.ox_ge, ↓Pt.ox_eq, ↓Pt.ox_ne, ↓Pt.ox_eqS, ↓Pt.ox_neS, ↓Pt.ox_eqL, ↓Pt.ox_neL, ↓Pt.ox_eqT, ↓Pt.ox_neT, ↓Pt.ox_ix0, ↓Pt.ox_ix1, ↓Pt.ox_ix2, ↓Pt.ox_ix3, ↓Pt.ox_ixT0, ↓Pt.ox_ixT1, ↓Pt.ox_ixT2, ↓Pt.ox_ixT3, ↓Pt.ox_pow20, ↓Pt.ox_lenL, ↓Pt.ox_lenT, ↓Pt.ox_int, ↓Pt.ox_abs, ↓Pt.ox_max, ↓Pt.ox_min, ↓Pt.ox_tup, ↓Pt.ox_tupT, ↓Pt.ox_list, ↓Pt.ox_listT, ↓Pt.ox_repr, decide_true, Bool.not_true]
    have go : lcGo (.n 3) (mTst (mBin (dIn true) (mVar 3) (mC (.tuple eachOne)))) (mVar 3) [m.D, n.D] [.d (.tuple [m.D, n.D]), .un, .un, .un] s = .ok (([m.D, n.D].filter fun d => !(eachOne.any fun z => PyData.eqv z d)).map id) s := by
      refine lc_pure _ _ _ fun x hx => ?_
      have hz : ∃ z : M4, z.le (2 ^ 1000) ∧ x = z.D := by
        rcases List.mem_cons.mp hx with rfl | hx
        · exact ⟨m, big hm, rfl⟩
        · rcases List.mem_cons.mp hx with rfl | hx
          · exact ⟨n, big hn, rfl⟩
          · cases hx
      obtain ⟨z, hz, rfl⟩ := hz
      have q := fun (K : Pt.D → Prop) => ox_notInM (K := K) hz
      simp -implicitDefEqProofs (disch := (first | omega | assumption | exact Pt.mul_r (by omega) (by omega) | exact Pt.mul_l (by omega) (by omega) | exact ml _ _ | decide)) only [↓Pt.gt_ok, ↓Pt.gt_bind, ↓Pt.gt_lift, ↓Pt.at_0, ↓Pt.at_s, ↓Pt.nt_0, ↓Pt.nt_s, ↓Pt.vd_d, ↓Pt.vd_h, ↓Pt.vo_l, ↓Pt.vo_k, ↓Pt.vo_t, ↓Pt.vl_l, ↓Pt.vs_s, ↓Pt.pu_0, ↓Pt.pu_s, ↓Pt.wi_0, ↓Pt.wi_s, ↓Pt.bp_n, ↓Pt.bp_t, ↓Pt.bp_l, ↓Pt.bps_0, ↓Pt.bps_s, ↓Pt.bo_t, ↓Pt.bo_f, ↓Pt.bo_not, ↓Pt.gt_var, ↓Pt.gt_own, ↓Pt.gt_c, ↓Pt.gt_bin, ↓Pt.gt_un, ↓Pt.gt_tst, ↓Pt.gt_andT, ↓Pt.gt_orT, ↓Pt.gt_notT, ↓Pt.gt_and, ↓Pt.gt_or, ↓Pt.gt_not, ↓Pt.gt_if, ↓Pt.gt_chain, ↓Pt.gt_nil, ↓Pt.gt_cons, ↓Pt.gt_consA, ↓Pt.gt_consS, ↓Pt.gt_tup, ↓Pt.gt_lst, ↓Pt.gt_fz, ↓Pt.gt_fzD, ↓Pt.gt_call, ↓Pt.gt_callL, ↓Pt.gt_callK, ↓Pt.gt_app, ↓Pt.gt_sl, ↓Pt.gt_none, ↓Pt.gt_some, ↓Pt.ls_l, ↓Pt.gt_rev, ↓Pt.gt_sq, ↓Pt.ox_some, ↓Pt.seq_l, ↓Pt.seq_t, ↓Pt.tst_b, ↓Pt.intD_i, ↓Pt.z1_i, ↓Pt.z2_i, ↓Pt.gt_rg1, ↓Pt.gt_rg1J, ↓Pt.gt_rg2, ↓Pt.gt_srcI, ↓Pt.gt_srcLen, ↓Pt.gt_lc, ↓Pt.gt_yes, ↓Pt.gl_nil, ↓Pt.gl_cons, ↓Pt.gl_ok, ↓Pt.vh_h, ↓Pt.vt_t, ↓Pt.gt_ht, ↓Pt.gt_tupL, ↓Pt.lst_l, ↓Pt.gt_newD, ↓Pt.tag_t, ↓Pt.gt_get2T, ↓Pt.key_3, ↓Pt.zp_l, ↓Pt.zp_t, ↓Pt.gt_zip, ↓Pt.pair_0, ↓Pt.pair_s, ↓Pt.gs_seq, ↓Pt.sq_nx, ↓Pt.sq_rt, ↓Pt.sq_bk, ↓Pt.sq_ct, ↓Pt.sq_ex, ↓Pt.gs_skip, ↓Pt.gs_brk, ↓Pt.gs_cnt, ↓Pt.gs_nx, ↓Pt.gs_put, ↓Pt.gs_putZ, ↓Pt.gt_map, ↓Pt.gs_ret, ↓Pt.gs_drop, ↓Pt.gs_if, ↓Pt.gs_bind, ↓Pt.gs_par, ↓Pt.gs_par3, ↓Pt.gs_for, ↓Pt.fg_nx, ↓Pt.fg_ct, ↓Pt.fg_bk, ↓Pt.fg_rt, ↓Pt.gs_frz, ↓Pt.fe_s, ↓Pt.fe_l, ↓Pt.fe_k, ↓Pt.fe_t, ↓Pt.fe_d, ↓Pt.gs_apd, ↓Pt.gs_putT, ↓Pt.gs_srcPut, ↓Pt.ox_add, ↓Pt.ox_addL, ↓Pt.ox_addT, ↓Pt.ox_sub, ↓Pt.ox_mul, ↓Pt.ox_div, ↓Pt.ox_mod, ↓Pt.ox_neg, ↓Pt.ox_lt, ↓Pt.ox_le, ↓Pt.ox_gt, ↓Pt.ox_ge, ↓Pt.ox_eq, ↓Pt.ox_ne, ↓Pt.ox_eqS, ↓Pt.ox_neS, ↓Pt.ox_eqL, ↓Pt.ox_neL, ↓Pt.ox_eqT, ↓Pt.ox_neT, ↓Pt.ox_ix0, ↓Pt.ox_ix1, ↓Pt.ox_ix2, ↓Pt.ox_ix3, ↓Pt.ox_ixT0, ↓Pt.ox_ixT1, ↓Pt.ox_ixT2, ↓Pt.ox_ixT3, ↓Pt.ox_pow20, ↓Pt.ox_lenL, ↓Pt.ox_lenT, ↓Pt.ox_int, ↓Pt.ox_abs, ↓Pt.ox_max, ↓Pt.ox_min, ↓Pt.ox_tup, ↓Pt.ox_tupT, ↓Pt.ox_list, ↓Pt.ox_listT, ↓Pt.ox_repr, q, each_any, id, and_self, implies_true]
    have cs := lines_some m n hm hn
    obtain ⟨L, hL, shL, cs⟩ := cs
    rw [hL] at go
    unfold eachOne at go
    have z0 : szB 0 = true := rfl
    have sh2 : shB (.list []) = true := by decide
    have ld : lineD m n = lineM (firstNU m n) := by unfold lineD; rw [if_pos ck]
    rw [ld, Pt.sq_nx, Pt.gs_seq]
    simp -implicitDefEqProofs (disch := (first | omega | assumption | exact Pt.mul_r (by omega) (by omega) | exact Pt.mul_l (by omega) (by omega) | exact ml _ _ | decide)) only [↓Pt.gt_ok, ↓Pt.gt_bind, ↓Pt.gt_lift, ↓Pt.at_0, ↓Pt.at_s, ↓Pt.nt_0, ↓Pt.nt_s, ↓Pt.vd_d, ↓Pt.vd_h, ↓Pt.vo_l, ↓Pt.vo_k, ↓Pt.vo_t, ↓Pt.vl_l, ↓Pt.vs_s, ↓Pt.pu_0, ↓Pt.pu_s, ↓Pt.wi_0, ↓Pt.wi_s, ↓Pt.bp_n, ↓Pt.bp_t, ↓Pt.bp_l, ↓Pt.bps_0, ↓Pt.bps_s, ↓Pt.bo_t, ↓Pt.bo_f, ↓Pt.bo_not, ↓Pt.gt_var, ↓Pt.gt_own, ↓Pt.gt_c, ↓Pt.gt_bin, ↓Pt.gt_un, ↓Pt.gt_tst, ↓Pt.gt_andT, ↓Pt.gt_orT, ↓Pt.gt_notT, ↓Pt.gt_and, ↓Pt.gt_or, ↓Pt.gt_not, ↓Pt.gt_if, ↓Pt.gt_chain, ↓Pt.gt_nil, ↓Pt.gt_cons, ↓Pt.gt_consA, ↓Pt.gt_consS, ↓Pt.gt_tup, ↓Pt.gt_lst, ↓Pt.gt_fz, ↓Pt.gt_fzD, ↓Pt.gt_call, ↓Pt.gt_callL, ↓Pt.gt_callK, ↓Pt.gt_app, ↓Pt.gt_sl, ↓Pt.gt_none, ↓Pt.gt_some, ↓Pt.ls_l, ↓Pt.gt_rev, ↓Pt.gt_sq, ↓Pt.ox_some, ↓Pt.seq_l, ↓Pt.seq_t, ↓Pt.tst_b, ↓Pt.intD_i, ↓Pt.z1_i, ↓Pt.z2_i, ↓Pt.gt_rg1, ↓Pt.gt_rg1J, ↓Pt.gt_rg2, ↓Pt.gt_srcI, ↓Pt.gt_srcLen, ↓Pt.gt_lc, ↓Pt.gt_yes, ↓Pt.gl_ok, ↓Pt.vh_h, ↓Pt.vt_t, ↓Pt.gt_ht, ↓Pt.gt_tupL, ↓Pt.lst_l, ↓Pt.gt_newD, ↓Pt.tag_t, ↓Pt.gt_get2T, ↓Pt.key_3, ↓Pt.zp_l, ↓Pt.zp_t, ↓Pt.gt_zip, ↓Pt.pair_0, ↓Pt.pair_s, ↓Pt.gs_seq, ↓Pt.sq_rt, ↓Pt.sq_bk, ↓Pt.sq_ct, ↓Pt.sq_ex, ↓Pt.gs_skip, ↓Pt.gs_brk, ↓Pt.gs_cnt, ↓Pt.gs_nx, ↓Pt.gs_put, ↓Pt.gs_putZ, ↓Pt.gt_map, ↓Pt.gs_ret, ↓Pt.gs_drop, ↓Pt.gs_if, ↓Pt.gs_bind, ↓Pt.gs_par, ↓Pt.gs_par3, ↓Pt.gs_for, ↓Pt.fg_nx, ↓Pt.fg_ct, ↓Pt.fg_bk, ↓Pt.fg_rt, ↓Pt.gs_frz, ↓Pt.fe_s, ↓Pt.fe_l, ↓Pt.fe_k, ↓Pt.fe_t, ↓Pt.fe_d, ↓Pt.gs_apd, ↓Pt.gs_putT, ↓Pt.gs_srcPut, ↓Pt.ox_add, ↓Pt.ox_addL, ↓Pt.ox_addT, ↓Pt.ox_sub, ↓Pt.ox_mul, ↓Pt.ox_div, ↓Pt.ox_mod, ↓Pt.ox_neg, ↓Pt.ox_lt, ↓Pt.ox_le, ↓Pt.ox_gt, ↓Pt.ox_ge, ↓Pt.ox_eq, ↓Pt.ox_ne, ↓Pt.ox_eqS, ↓Pt.ox_neS, ↓Pt.ox_eqL, ↓Pt.ox_neL, ↓Pt.ox_eqT, ↓Pt.ox_neT, ↓Pt.ox_ix0, ↓Pt.ox_ix1, ↓Pt.ox_ix2, ↓Pt.ox_ix3, ↓Pt.ox_ixT0, ↓Pt.ox_ixT1, ↓Pt.ox_ixT2, ↓Pt.ox_ixT3, ↓Pt.ox_pow20, ↓Pt.ox_lenL, ↓Pt.ox_lenT, ↓Pt.ox_int, ↓Pt.ox_abs, ↓Pt.ox_max, ↓Pt.ox_min, ↓Pt.ox_tup, ↓Pt.ox_tupT, ↓Pt.ox_list, ↓Pt.ox_listT, ↓Pt.ox_repr, go]
    rcases cs with ⟨rfl, hf⟩ | ⟨z, r, rfl, hf, hu, hz⟩
    · rw [hf]
      unfold lineM
      simp -implicitDefEqProofs (disch := (first | omega | assumption | exact Pt.mul_r (by omega) (by omega) | exact Pt.mul_l (by omega) (by omega) | exact ml _ _ | decide)) only [↓Pt.gt_ok, ↓Pt.gt_bind, ↓Pt.gt_lift, ↓Pt.at_0, ↓Pt.at_s, ↓Pt.nt_0, ↓Pt.nt_s, ↓Pt.vd_d, ↓Pt.vd_h, ↓Pt.vo_l, ↓Pt.vo_k, ↓Pt.vo_t, ↓Pt.vl_l, ↓Pt.vs_s, ↓Pt.pu_0, ↓Pt.pu_s, ↓Pt.wi_0, ↓Pt.wi_s, ↓Pt.bp_n, ↓Pt.bp_t, ↓Pt.bp_l, ↓Pt.bps_0, ↓Pt.bps_s, ↓Pt.bo_t, ↓Pt.bo_f, ↓Pt.bo_not, ↓Pt.gt_var, ↓Pt.gt_own, ↓Pt.gt_c, ↓Pt.gt_bin, ↓Pt.gt_un, ↓Pt.gt_tst, ↓Pt.gt_andT, ↓Pt.gt_orT, ↓Pt.gt_notT, ↓Pt.gt_and, ↓Pt.gt_or, ↓Pt.gt_not, ↓Pt.gt_if, ↓Pt.gt_chain, ↓Pt.gt_nil, ↓Pt.gt_cons, ↓Pt.gt_consA, ↓Pt.gt_consS, ↓Pt.gt_tup, ↓Pt.gt_lst, ↓Pt.gt_fz, ↓Pt.gt_fzD, ↓Pt.gt_call, ↓Pt.gt_callL, ↓Pt.gt_callK, ↓Pt.gt_app, ↓Pt.gt_sl, ↓Pt.gt_none, ↓Pt.gt_some, ↓Pt.ls_l, ↓Pt.gt_rev, ↓Pt.gt_sq, ↓Pt.ox_some, ↓Pt.seq_l, ↓Pt.seq_t, ↓Pt.tst_b, ↓Pt.intD_i, ↓Pt.z1_i, ↓Pt.z2_i, ↓Pt.gt_rg1, ↓Pt.gt_rg1J, ↓Pt.gt_rg2, ↓Pt.gt_srcI, ↓Pt.gt_srcLen, ↓Pt.gt_lc, ↓Pt.gt_yes, ↓Pt.gl_nil, ↓Pt.gl_cons, ↓Pt.gl_ok, ↓Pt.vh_h, ↓Pt.vt_t, ↓Pt.gt_ht, ↓Pt.gt_tupL, ↓Pt.lst_l, ↓Pt.gt_newD, ↓Pt.tag_t, ↓Pt.gt_get2T, ↓Pt.key_3, ↓Pt.zp_l, ↓Pt.zp_t, ↓Pt.gt_zip, ↓Pt.pair_0, ↓Pt.pair_s, ↓Pt.gs_seq, ↓Pt.sq_nx, ↓Pt.sq_rt, ↓Pt.sq_bk, ↓Pt.sq_ct, ↓Pt.sq_ex, ↓Pt.gs_skip, ↓Pt.gs_brk, ↓Pt.gs_cnt, ↓Pt.gs_nx, ↓Pt.gs_put, ↓Pt.gs_putZ, ↓Pt.gt_map, ↓Pt.gs_ret, ↓Pt.gs_drop, ↓Pt.gs_if, ↓Pt.gs_bind, ↓Pt.gs_par, ↓Pt.gs_par3, ↓Pt.gs_for, ↓Pt.fg_nx, ↓Pt.fg_ct, ↓Pt.fg_bk, ↓Pt.fg_rt, ↓Pt.gs_frz, ↓Pt.fe_s, ↓Pt.fe_l, ↓Pt.fe_k, ↓Pt.fe_t, ↓Pt.fe_d, ↓Pt.gs_apd, ↓Pt.gs_putT, ↓Pt.gs_srcPut, ↓Pt.ox_add, ↓Pt.ox_addL, ↓Pt.ox_addT, ↓Pt.ox_sub, ↓Pt.ox_mul, ↓Pt.ox_div, ↓Pt.ox_mod, ↓Pt.ox_neg, ↓Pt.ox_lt, ↓Pt.ox_le, ↓Pt.ox_gt, ↓Pt.ox_ge, ↓Pt.ox_eq, ↓Pt.ox_ne, ↓Pt.ox_eqS, ↓Pt.ox_neS, ↓Pt.ox_eqL, ↓Pt.ox_neL, ↓Pt.ox_eqT, ↓Pt.ox_neT, ↓Pt.ox_ix0, ↓Pt.ox_ix1, ↓Pt.ox_ix2, ↓Pt.ox_ix3, ↓Pt.ox_ixT0, ↓Pt.ox_ixT1, ↓Pt.ox_ixT2, ↓Pt.ox_ixT3, ↓Pt.ox_pow20, ↓Pt.ox_lenL, ↓Pt.ox_lenT, ↓Pt.ox_int, ↓Pt.ox_abs, ↓Pt.ox_max, ↓Pt.ox_min, ↓Pt.ox_tup, ↓Pt.ox_tupT, ↓Pt.ox_list, ↓Pt.ox_listT, ↓Pt.ox_repr, List.length_nil, z0, sh2, Bool.and_self, true_and, PyData.eqvAll, show szB [PyData.str "every"].length = true from rfl]
    · rw [hf]
      have ft := F_trace z s
      have tb := M4.tr_le hz
      have mo : mulB z.tr z.tr = true := mul_r (by omega) (by omega)
      have s1 : ∀ x : Pt.D, szB [x].length = true := fun _ => rfl
      simp -implicitDefEqProofs (disch := (first | assumption | decide)) only [↓Pt.gt_ok, ↓Pt.gt_bind, ↓Pt.gt_lift, ↓Pt.at_0, ↓Pt.at_s, ↓Pt.nt_0, ↓Pt.nt_s, ↓Pt.vd_d, ↓Pt.vd_h, ↓Pt.vo_l, ↓Pt.vo_k, ↓Pt.vo_t, ↓Pt.vl_l, ↓Pt.vs_s, ↓Pt.pu_0, ↓Pt.pu_s, ↓Pt.wi_0, ↓Pt.wi_s, ↓Pt.bp_n, ↓Pt.bp_t, ↓Pt.bp_l, ↓Pt.bps_0, ↓Pt.bps_s, ↓Pt.bo_t, ↓Pt.bo_f, ↓Pt.bo_not, ↓Pt.gt_var, ↓Pt.gt_own, ↓Pt.gt_c, ↓Pt.gt_bin, ↓Pt.gt_un, ↓Pt.gt_tst, ↓Pt.gt_andT, ↓Pt.gt_orT, ↓Pt.gt_notT, ↓Pt.gt_and, ↓Pt.gt_or, ↓Pt.gt_not, ↓Pt.gt_if, ↓Pt.gt_chain, ↓Pt.gt_nil, ↓Pt.gt_cons, ↓Pt.gt_consA, ↓Pt.gt_consS, ↓Pt.gt_tup, ↓Pt.gt_lst, ↓Pt.gt_fz, ↓Pt.gt_fzD, ↓Pt.gt_call, ↓Pt.gt_callL, ↓Pt.gt_callK, ↓Pt.gt_app, ↓Pt.gt_sl, ↓Pt.gt_none, ↓Pt.gt_some, ↓Pt.ls_l, ↓Pt.gt_rev, ↓Pt.gt_sq, ↓Pt.ox_some, ↓Pt.seq_l, ↓Pt.seq_t, ↓Pt.tst_b, ↓Pt.intD_i, ↓Pt.z1_i, ↓Pt.z2_i, ↓Pt.gt_rg1, ↓Pt.gt_rg1J, ↓Pt.gt_rg2, ↓Pt.gt_srcI, ↓Pt.gt_srcLen, ↓Pt.gt_lc, ↓Pt.gt_yes, ↓Pt.gl_nil, ↓Pt.gl_cons, ↓Pt.gl_ok, ↓Pt.vh_h, ↓Pt.vt_t, ↓Pt.gt_ht, ↓Pt.gt_tupL, ↓Pt.lst_l, ↓Pt.gt_newD, ↓Pt.tag_t, ↓Pt.gt_get2T, ↓Pt.key_3, ↓Pt.zp_l, ↓Pt.zp_t, ↓Pt.gt_zip, ↓Pt.pair_0, ↓Pt.pair_s, ↓Pt.gs_seq, ↓Pt.sq_nx, ↓Pt.sq_rt, ↓Pt.sq_bk, ↓Pt.sq_ct, ↓Pt.sq_ex, ↓Pt.gs_skip, ↓Pt.gs_brk, ↓Pt.gs_cnt, ↓Pt.gs_nx, ↓Pt.gs_put, ↓Pt.gs_putZ, ↓Pt.gt_map, ↓Pt.gs_ret, ↓Pt.gs_drop, ↓Pt.gs_if, ↓Pt.gs_bind, ↓Pt.gs_par, ↓Pt.gs_par3, ↓Pt.gs_for, ↓Pt.fg_nx, ↓Pt.fg_ct, ↓Pt.fg_bk, ↓Pt.fg_rt, ↓Pt.gs_frz, ↓Pt.fe_s, ↓Pt.fe_l, ↓Pt.fe_k, ↓Pt.fe_t, ↓Pt.fe_d, ↓Pt.gs_apd, ↓Pt.gs_putT, ↓Pt.gs_srcPut, ↓Pt.ox_add, ↓Pt.ox_addL, ↓Pt.ox_addT, ↓Pt.ox_sub, ↓Pt.ox_mul, ↓Pt.ox_div, ↓Pt.ox_mod, ↓Pt.ox_neg, ↓Pt.ox_lt, ↓Pt.ox_le, ↓Pt.ox_gt, ↓Pt.ox_ge, ↓Pt.ox_eq, ↓Pt.ox_ne, ↓Pt.ox_eqS, ↓Pt.ox_neS, ↓Pt.ox_eqL, ↓Pt.ox_neL, ↓Pt.ox_eqT, ↓Pt.ox_neT, ↓Pt.ox_ix0, ↓Pt.ox_ix1, ↓Pt.ox_ix2, ↓Pt.ox_ix3, ↓Pt.ox_ixT0, ↓Pt.ox_ixT1, ↓Pt.ox_ixT2, ↓Pt.ox_ixT3, ↓Pt.ox_pow20, ↓Pt.ox_lenL, ↓Pt.ox_lenT, ↓Pt.ox_int, ↓Pt.ox_abs, ↓Pt.ox_max, ↓Pt.ox_min, ↓Pt.ox_tup, ↓Pt.ox_tupT, ↓Pt.ox_list, ↓Pt.ox_listT, ↓Pt.ox_repr, List.length_nil, z0, shL, sh2, Bool.and_self, true_and, PyData.eqvAll, ↓gt_eq ft]
      show _ ∧ _
      rw [lineM_some]
      unfold lineOf
      constructor
      · intro h0
        have h0 := of_decide_eq_true h0
        obtain ⟨c1, c2⟩ := tr_cases h0
        have fk := F_kept z (z.tr / 2) s c1 c2 hu hz
        rw [if_pos h0]
        simp -implicitDefEqProofs (disch := (first | assumption | decide)) only [↓Pt.gt_ok, ↓Pt.gt_bind, ↓Pt.gt_lift, ↓Pt.at_0, ↓Pt.at_s, ↓Pt.nt_0, ↓Pt.nt_s, ↓Pt.vd_d, ↓Pt.vd_h, ↓Pt.vo_l, ↓Pt.vo_k, ↓Pt.vo_t, ↓Pt.vl_l, ↓Pt.vs_s, ↓Pt.pu_0, ↓Pt.pu_s, ↓Pt.wi_0, ↓Pt.wi_s, ↓Pt.bp_n, ↓Pt.bp_t, ↓Pt.bp_l, ↓Pt.bps_0, ↓Pt.bps_s, ↓Pt.bo_t, ↓Pt.bo_f, ↓Pt.bo_not, ↓Pt.gt_var, ↓Pt.gt_own, ↓Pt.gt_c, ↓Pt.gt_bin, ↓Pt.gt_un, ↓Pt.gt_tst, ↓Pt.gt_andT, ↓Pt.gt_orT, ↓Pt.gt_notT, ↓Pt.gt_and, ↓Pt.gt_or, ↓Pt.gt_not, ↓Pt.gt_if, ↓Pt.gt_chain, ↓Pt.gt_nil, ↓Pt.gt_cons, ↓Pt.gt_consA, ↓Pt.gt_consS, ↓Pt.gt_tup, ↓Pt.gt_lst, ↓Pt.gt_fz, ↓Pt.gt_fzD, ↓Pt.gt_call, ↓Pt.gt_callL, ↓Pt.gt_callK, ↓Pt.gt_app, ↓Pt.gt_sl, ↓Pt.gt_none, ↓Pt.gt_some, ↓Pt.ls_l, ↓Pt.gt_rev, ↓Pt.gt_sq, ↓Pt.ox_some, ↓Pt.seq_l, ↓Pt.seq_t, ↓Pt.tst_b, ↓Pt.intD_i, ↓Pt.z1_i, ↓Pt.z2_i, ↓Pt.gt_rg1, ↓Pt.gt_rg1J, ↓Pt.gt_rg2, ↓Pt.gt_srcI, ↓Pt.gt_srcLen, ↓Pt.gt_lc, ↓Pt.gt_yes, ↓Pt.gl_nil, ↓Pt.gl_cons, ↓Pt.gl_ok, ↓Pt.vh_h, ↓Pt.vt_t, ↓Pt.gt_ht, ↓Pt.gt_tupL, ↓Pt.lst_l, ↓Pt.gt_newD, ↓Pt.tag_t, ↓Pt.gt_get2T, ↓Pt.key_3, ↓Pt.zp_l, ↓Pt.zp_t, ↓Pt.gt_zip, ↓Pt.pair_0, ↓Pt.pair_s, ↓Pt.gs_seq, ↓Pt.sq_nx, ↓Pt.sq_rt, ↓Pt.sq_bk, ↓Pt.sq_ct, ↓Pt.sq_ex, ↓Pt.gs_skip, ↓Pt.gs_brk, ↓Pt.gs_cnt, ↓Pt.gs_nx, ↓Pt.gs_put, ↓Pt.gs_putZ, ↓Pt.gt_map, ↓Pt.gs_ret, ↓Pt.gs_drop, ↓Pt.gs_if, ↓Pt.gs_bind, ↓Pt.gs_par, ↓Pt.gs_par3, ↓Pt.gs_for, ↓Pt.fg_nx, ↓Pt.fg_ct, ↓Pt.fg_bk, ↓Pt.fg_rt, ↓Pt.gs_frz, ↓Pt.fe_s, ↓Pt.fe_l, ↓Pt.fe_k, ↓Pt.fe_t, ↓Pt.fe_d, ↓Pt.gs_apd, ↓Pt.gs_putT, ↓Pt.gs_srcPut, ↓Pt.ox_add, ↓Pt.ox_addL, ↓Pt.ox_addT, ↓Pt.ox_sub, ↓Pt.ox_mul, ↓Pt.ox_div, ↓Pt.ox_mod, ↓Pt.ox_neg, ↓Pt.ox_lt, ↓Pt.ox_le, ↓Pt.ox_gt, ↓Pt.ox_ge, ↓Pt.ox_eq, ↓Pt.ox_ne, ↓Pt.ox_eqS, ↓Pt.ox_neS, ↓Pt.ox_eqL, ↓Pt.ox_neL, ↓Pt.ox_eqT, ↓Pt.ox_neT, ↓Pt.ox_ix0, ↓Pt.ox_ix1, ↓Pt.ox_ix2, ↓Pt.ox_ix3, ↓Pt.ox_ixT0, ↓Pt.ox_ixT1, ↓Pt.ox_ixT2, ↓Pt.ox_ixT3, ↓Pt.ox_pow20, ↓Pt.ox_lenL, ↓Pt.ox_lenT, ↓Pt.ox_int, ↓Pt.ox_abs, ↓Pt.ox_max, ↓Pt.ox_min, ↓Pt.ox_tup, ↓Pt.ox_tupT, ↓Pt.ox_list, ↓Pt.ox_listT, ↓Pt.ox_repr, ↓gt_eq fk, sz2, true_and]
      · intro h0
        have h0 := of_decide_eq_false h0
        rw [if_neg h0]
        simp -implicitDefEqProofs (disch := (first | assumption | decide)) only [↓Pt.gt_ok, ↓Pt.gt_bind, ↓Pt.gt_lift, ↓Pt.at_0, ↓Pt.at_s, ↓Pt.nt_0, ↓Pt.nt_s, ↓Pt.vd_d, ↓Pt.vd_h, ↓Pt.vo_l, ↓Pt.vo_k, ↓Pt.vo_t, ↓Pt.vl_l, ↓Pt.vs_s, ↓Pt.pu_0, ↓Pt.pu_s, ↓Pt.wi_0, ↓Pt.wi_s, ↓Pt.bp_n, ↓Pt.bp_t, ↓Pt.bp_l, ↓Pt.bps_0, ↓Pt.bps_s, ↓Pt.bo_t, ↓Pt.bo_f, ↓Pt.bo_not, ↓Pt.gt_var, ↓Pt.gt_own, ↓Pt.gt_c, ↓Pt.gt_bin, ↓Pt.gt_un, ↓Pt.gt_tst, ↓Pt.gt_andT, ↓Pt.gt_orT, ↓Pt.gt_notT, ↓Pt.gt_and, ↓Pt.gt_or, ↓Pt.gt_not, ↓Pt.gt_if, ↓Pt.gt_chain, ↓Pt.gt_nil, ↓Pt.gt_cons, ↓Pt.gt_consA, ↓Pt.gt_consS, ↓Pt.gt_tup, ↓Pt.gt_lst, ↓Pt.gt_fz, ↓Pt.gt_fzD, ↓Pt.gt_call, ↓Pt.gt_callL, ↓Pt.gt_callK, ↓Pt.gt_app, ↓Pt.gt_sl, ↓Pt.gt_none, ↓Pt.gt_some, ↓Pt.ls_l, ↓Pt.gt_rev, ↓Pt.gt_sq, ↓Pt.ox_some, ↓Pt.seq_l, ↓Pt.seq_t, ↓Pt.tst_b, ↓Pt.intD_i, ↓Pt.z1_i, ↓Pt.z2_i, ↓Pt.gt_rg1, ↓Pt.gt_rg1J, ↓Pt.gt_rg2, ↓Pt.gt_srcI, ↓Pt.gt_srcLen, ↓Pt.gt_lc, ↓Pt.gt_yes, ↓Pt.gl_nil, ↓Pt.gl_cons, ↓Pt.gl_ok, ↓Pt.vh_h, ↓Pt.vt_t, ↓Pt.gt_ht, ↓Pt.gt_tupL, ↓Pt.lst_l, ↓Pt.gt_newD, ↓Pt.tag_t, ↓Pt.gt_get2T, ↓Pt.key_3, ↓Pt.zp_l, ↓Pt.zp_t, ↓Pt.gt_zip, ↓Pt.pair_0, ↓Pt.pair_s, ↓Pt.gs_seq, ↓Pt.sq_nx, ↓Pt.sq_rt, ↓Pt.sq_bk, ↓Pt.sq_ct, ↓Pt.sq_ex, ↓Pt.gs_skip, ↓Pt.gs_brk, ↓Pt.gs_cnt, ↓Pt.gs_nx, ↓Pt.gs_put, ↓Pt.gs_putZ, ↓Pt.gt_map, ↓Pt.gs_ret, ↓Pt.gs_drop, ↓Pt.gs_if, ↓Pt.gs_bind, ↓Pt.gs_par, ↓Pt.gs_par3, ↓Pt.gs_for, ↓Pt.fg_nx, ↓Pt.fg_ct, ↓Pt.fg_bk, ↓Pt.fg_rt, ↓Pt.gs_frz, ↓Pt.fe_s, ↓Pt.fe_l, ↓Pt.fe_k, ↓Pt.fe_t, ↓Pt.fe_d, ↓Pt.gs_apd, ↓Pt.gs_putT, ↓Pt.gs_srcPut, ↓Pt.ox_add, ↓Pt.ox_addL, ↓Pt.ox_addT, ↓Pt.ox_sub, ↓Pt.ox_mul, ↓Pt.ox_div, ↓Pt.ox_mod, ↓Pt.ox_neg, ↓Pt.ox_lt, ↓Pt.ox_le, ↓Pt.ox_gt, ↓Pt.ox_ge, ↓Pt.ox_eq, ↓Pt.ox_ne, ↓Pt.ox_eqS, ↓Pt.ox_neS, ↓Pt.ox_eqL, ↓Pt.ox_neL, ↓Pt.ox_eqT, ↓Pt.ox_neT, ↓Pt.ox_ix0, ↓Pt.ox_ix1, ↓Pt.ox_ix2, ↓Pt.ox_ix3, ↓Pt.ox_ixT0, ↓Pt.ox_ixT1, ↓Pt.ox_ixT2, ↓Pt.ox_ixT3, ↓Pt.ox_pow20, ↓Pt.ox_lenL, ↓Pt.ox_lenT, ↓Pt.ox_int, ↓Pt.ox_abs, ↓Pt.ox_max, ↓Pt.ox_min, ↓Pt.ox_tup, ↓Pt.ox_tupT, ↓Pt.ox_list, ↓Pt.ox_listT, ↓Pt.ox_repr, sz2, true_and]
  · rw [decide_eq_false ck]
    have ld : lineD m n = .tuple [.str "none"] := by unfold lineD; rw [if_neg ck]
    rw [ld]
    simp -implicitDefEqProofs (disch := (first | omega | assumption | exact Pt.mul_r (by omega) (by omega) | exact Pt.mul_l (by omega) (by omega) | exact ml _ _ | decide)) only [↓Pt.gt_ok, ↓Pt.gt_bind, ↓Pt.gt_lift, ↓Pt.at_0, ↓Pt.at_s, ↓Pt.nt_0, ↓Pt.nt_s, ↓Pt.vd_d, ↓Pt.vd_h, ↓Pt.vo_l, ↓Pt.vo_k, ↓Pt.vo_t, ↓Pt.vl_l, ↓Pt.vs_s, ↓Pt.pu_0, ↓Pt.pu_s, ↓Pt.wi_0, ↓Pt.wi_s, ↓Pt.bp_n, ↓Pt.bp_t, ↓Pt.bp_l, ↓Pt.bps_0, ↓Pt.bps_s, ↓Pt.bo_t, ↓Pt.bo_f, ↓Pt.bo_not, ↓Pt.gt_var, ↓Pt.gt_own, ↓Pt.gt_c, ↓Pt.gt_bin, ↓Pt.gt_un, ↓Pt.gt_tst, ↓Pt.gt_andT, ↓Pt.gt_orT, ↓Pt.gt_notT, ↓Pt.gt_and, ↓Pt.gt_or, ↓Pt.gt_not, ↓Pt.gt_if, ↓Pt.gt_chain, ↓Pt.gt_nil, ↓Pt.gt_cons, ↓Pt.gt_consA, ↓Pt.gt_consS, ↓Pt.gt_tup, ↓Pt.gt_lst, ↓Pt.gt_fz, ↓Pt.gt_fzD, ↓Pt.gt_call, ↓Pt.gt_callL, ↓Pt.gt_callK, ↓Pt.gt_app, ↓Pt.gt_sl, ↓Pt.gt_none, ↓Pt.gt_some, ↓Pt.ls_l, ↓Pt.gt_rev, ↓Pt.gt_sq, ↓Pt.ox_some, ↓Pt.seq_l, ↓Pt.seq_t, ↓Pt.tst_b, ↓Pt.intD_i, ↓Pt.z1_i, ↓Pt.z2_i, ↓Pt.gt_rg1, ↓Pt.gt_rg1J, ↓Pt.gt_rg2, ↓Pt.gt_srcI, ↓Pt.gt_srcLen, ↓Pt.gt_lc, ↓Pt.gt_yes, ↓Pt.gl_nil, ↓Pt.gl_cons, ↓Pt.gl_ok, ↓Pt.vh_h, ↓Pt.vt_t, ↓Pt.gt_ht, ↓Pt.gt_tupL, ↓Pt.lst_l, ↓Pt.gt_newD, ↓Pt.tag_t, ↓Pt.gt_get2T, ↓Pt.key_3, ↓Pt.zp_l, ↓Pt.zp_t, ↓Pt.gt_zip, ↓Pt.pair_0, ↓Pt.pair_s, ↓Pt.gs_seq, ↓Pt.sq_nx, ↓Pt.sq_rt, ↓Pt.sq_bk, ↓Pt.sq_ct, ↓Pt.sq_ex, ↓Pt.gs_skip, ↓Pt.gs_brk, ↓Pt.gs_cnt, ↓Pt.gs_nx, ↓Pt.gs_put, ↓Pt.gs_putZ, ↓Pt.gt_map, ↓Pt.gs_ret, ↓Pt.gs_drop, ↓Pt.gs_if, ↓Pt.gs_bind, ↓Pt.gs_par, ↓Pt.gs_par3, ↓Pt.gs_for, ↓Pt.fg_nx, ↓Pt.fg_ct, ↓Pt.fg_bk, ↓Pt.fg_rt, ↓Pt.gs_frz, ↓Pt.fe_s, ↓Pt.fe_l, ↓Pt.fe_k, ↓Pt.fe_t, ↓Pt.fe_d, ↓Pt.gs_apd, ↓Pt.gs_putT, ↓Pt.gs_srcPut, ↓Pt.ox_add, ↓Pt.ox_addL, ↓Pt.ox_addT, ↓Pt.ox_sub, ↓Pt.ox_mul, ↓Pt.ox_div, ↓Pt.ox_mod, ↓Pt.ox_neg, ↓Pt.ox_lt, ↓Pt.ox_le, ↓Pt.ox_gt, ↓Pt.ox_ge, ↓Pt.ox_eq, ↓Pt.ox_ne, ↓Pt.ox_eqS, ↓Pt.ox_neS, ↓Pt.ox_eqL, ↓Pt.ox_neL, ↓Pt.ox_eqT, ↓Pt.ox_neT, ↓Pt.ox_ix0, ↓Pt.ox_ix1, ↓Pt.ox_ix2, ↓Pt.ox_ix3, ↓Pt.ox_ixT0, ↓Pt.ox_ixT1, ↓Pt.ox_ixT2, ↓Pt.ox_ixT3, ↓Pt.ox_pow20, ↓Pt.ox_lenL, ↓Pt.ox_lenT, ↓Pt.ox_int, ↓Pt.ox_abs, ↓Pt.ox_max, ↓Pt.ox_min, ↓Pt.ox_tup, ↓Pt.ox_tupT, ↓Pt.ox_list, ↓Pt.ox_listT, ↓Pt.ox_repr, show szB [PyData.str "none"].length = true from rfl, true_and]

/-! ### what is told of lines, plainly -/
theorem unit_kf {m : M4} (h : m.unit) (u v : Int) : m.kf u v = 0 := by
  rcases h with rfl | rfl
  · simp only [M4.kf, M4.one]; grind
  · simp only [M4.kf, M4.one, M4.neg]; grind
theorem unit_led {l m : M4} (hl : l.det = 1) : (l.led m).unit ↔ m.unit := by
  have e1 : l.led M4.one = M4.one := by unfold M4.led; rw [M4.mul_one, M4.mul_inv hl]
  have e2 : l.led M4.one.neg = M4.one.neg := by
    unfold M4.led
    have := M4.mul_inv hl
    apply M4.ext' <;> simp only [M4.mul, M4.one, M4.neg, M4.inv, M4.det] at * <;> grind
  constructor
  · intro h
    rcases h with h | h
    · exact .inl (M4.led_inj hl (h.trans e1.symm))
    · exact .inr (M4.led_inj hl (h.trans e2.symm))
  · intro h
    rcases h with rfl | rfl
    · exact .inl e1
    · exact .inr e2
theorem unitB_led {l m : M4} (hl : l.det = 1) : unitB (l.led m) = unitB m := by
  rw [Bool.eq_iff_iff, unitB_iff, unitB_iff]
  exact unit_led hl
theorem first_led {l m n : M4} (hl : l.det = 1) : firstNU (l.led m) (l.led n) = (firstNU m n).map l.led := by
  unfold firstNU
  rw [unitB_led hl, unitB_led hl]
  cases unitB m <;> cases unitB n <;> rfl
structure Told (m n : M4) (kd : Str) (rest : List Pt.D) : Prop where
  one : kd = "one" → ∃ u v : Int, rest = [.tuple [.int u, .int v]] ∧ u.natAbs ≤ 1073741824 ∧ v.natAbs ≤ 1073741824 ∧ Norm u v ∧ m.kf u v = 0 ∧ n.kf u v = 0 ∧ ∀ x y : Int, m.kf x y = 0 → n.kf x y = 0 → u * y = v * x
  root : kd = "root" → m.mul n = n.mul m ∧ ∃ z : M4, (z = m ∨ z = n) ∧ ¬ z.unit ∧ rest = [.int (z.tr * z.tr - 4)] ∧ z.tr * z.tr - 4 ≠ 0
  none : kd = "none" → m.k n ≠ 2 ∧ rest = []
  every : kd = "every" → rest = []
  kinds : kd = "one" ∨ kd = "root" ∨ kd = "none" ∨ kd = "every"
theorem first_cases (m n : M4) : (firstNU m n = none ∧ m.unit ∧ n.unit) ∨ (firstNU m n = some m ∧ ¬ m.unit) ∨ (firstNU m n = some n ∧ m.unit ∧ ¬ n.unit) := by
  have um := unitB_iff m
  have un := unitB_iff n
  unfold firstNU
  cases h1 : unitB m <;> cases h2 : unitB n <;> rw [h1] at um <;> rw [h2] at un
  · exact .inr (.inl ⟨rfl, fun z => by simpa using um.mpr z⟩)
  · exact .inr (.inl ⟨rfl, fun z => by simpa using um.mpr z⟩)
  · exact .inr (.inr ⟨rfl, um.mp rfl, fun z => by simpa using un.mpr z⟩)
  · exact .inl ⟨rfl, um.mp rfl, un.mp rfl⟩
theorem div_le' {x p : Int} {N : Nat} (hp : p ≠ 0) (h : x.natAbs ≤ N) (e : x = p * (x / p)) : (x / p).natAbs ≤ N := by
  have : x.natAbs = p.natAbs * (x / p).natAbs := by rw [← Int.natAbs_mul, ← e]
  have h1 : 1 ≤ p.natAbs := by omega
  have := Nat.mul_le_mul_right (x / p).natAbs h1
  omega
theorem line_told_facts (m n : M4) (hm : m.det = 1) (hn : n.det = 1) (bm : m.le 1073000000) (bn : n.le 1073000000) : ∃ kd rest, lineD m n = .tuple (.str kd :: rest) ∧ Told m n kd rest := by
  have nm : ∀ z : M4, z.le 1073000000 → ∀ t, (t = 1 ∨ t = -1) → (z.col t).1.natAbs ≤ 1073741824 ∧ (z.col t).2.natAbs ≤ 1073741824 := fun z hz t ht => by
    obtain ⟨b1, b2, b3, b4⟩ := hz
    unfold M4.col
    split <;> constructor <;> simp only [] <;> omega
  unfold lineD
  by_cases ck : m.k n = 2
  · rw [if_pos ck]
    have one : ∀ z w : M4, ¬ z.unit → z.det = 1 → z.le 1073000000 → (z.tr * z.tr - 4 = 0 → w.kf (z.col (z.tr / 2)).1 (z.col (z.tr / 2)).2 = 0) → (z.tr * z.tr ≠ 4 → m.mul n = n.mul m) → ((z = m ∧ w = n) ∨ (z = n ∧ w = m)) → ∃ kd rest, lineOf z = .tuple (.str kd :: rest) ∧ Told m n kd rest := by
      intro z w hu hd hb hw hr hzw
      unfold lineOf
      by_cases h0 : z.tr * z.tr - 4 = 0
      · obtain ⟨c1, c2⟩ := tr_cases h0
        have tt : z.tr / 2 * (z.tr / 2) = 1 := by rcases c2 with e | e <;> rw [e] <;> rfl
        rw [if_pos h0]
        refine ⟨_, _, rfl, ⟨fun _ => ?_, fun h => ?_, fun h => ?_, fun h => ?_, .inl rfl⟩⟩
        · have hne := M4.col_ne c1 c2 hu
          obtain ⟨nn, e1, e2, e3⟩ := norm_of hne
          have bb := nm z hb _ c2
          have k1 := M4.col_kept c1 tt hd
          have k2 := hw h0
          have sc : ∀ y : M4, y.kf (z.col (z.tr / 2)).1 (z.col (z.tr / 2)).2 = 0 → y.kf (lineC z (z.tr / 2)).1 (lineC z (z.tr / 2)).2 = 0 := fun y h => by
            refine M4.kf_of_scale e3 ?_
            show y.kf (_ * (_ / _)) (_ * (_ / _)) = 0
            rw [← e1, ← e2]
            exact h
          have only : ∀ x y : Int, z.kf x y = 0 → (lineC z (z.tr / 2)).1 * y = (lineC z (z.tr / 2)).2 * x := fun x y h => by
            have q := M4.col_only c1 tt hd hu c2 h
            refine Int.eq_of_mul_eq_mul_left e3 ?_
            show _ * ((_ / _) * _) = _ * ((_ / _) * _)
            rw [← Int.mul_assoc, ← Int.mul_assoc, ← e1, ← e2, Int.mul_comm, ← q, Int.mul_comm]
          refine ⟨_, _, rfl, div_le' e3 bb.1 e1, div_le' e3 bb.2 e2, nn, ?_⟩
          rcases hzw with ⟨rfl, rfl⟩ | ⟨rfl, rfl⟩
          · exact ⟨sc _ k1, sc _ k2, fun x y h _ => only x y h⟩
          · exact ⟨sc _ k2, sc _ k1, fun x y _ h => only x y h⟩
        · exact absurd h (by decide)
        · exact absurd h (by decide)
        · exact absurd h (by decide)
      · rw [if_neg h0]
        refine ⟨_, _, rfl, ⟨fun h => ?_, fun _ => ⟨hr (by omega), z, ?_, hu, rfl, h0⟩, fun h => ?_, fun h => ?_, .inr (.inl rfl)⟩⟩
        · exact absurd h (by decide)
        · rcases hzw with ⟨h, _⟩ | ⟨h, _⟩
          · exact .inl h
          · exact .inr h
        · exact absurd h (by decide)
        · exact absurd h (by decide)
    rcases first_cases m n with ⟨e, h1, h2⟩ | ⟨e, h1⟩ | ⟨e, h1, h2⟩
    · rw [e]
      refine ⟨_, _, rfl, ⟨fun h => ?_, fun h => ?_, fun h => ?_, fun _ => rfl, .inr (.inr (.inr rfl))⟩⟩ <;> exact absurd h (by decide)
    · rw [e, lineM_some]
      refine one m n h1 hm bm (fun h0 => ?_) (fun h0 => M4.root_both hm hn ck h0) (.inl ⟨rfl, rfl⟩)
      obtain ⟨c1, c2⟩ := tr_cases h0
      exact M4.col_both c1 (by rcases c2 with e | e <;> rw [e] <;> rfl) hm hn ck
    · rw [e, lineM_some]
      refine one n m h2 hn bn (fun h0 => unit_kf h1 _ _) (fun h0 => ?_) (.inr ⟨rfl, rfl⟩)
      rcases h1 with rfl | rfl
      · rw [M4.one_mul, M4.mul_one]
      · apply M4.ext' <;> simp only [M4.mul, M4.one, M4.neg] <;> grind
  · rw [if_neg ck]
    refine ⟨_, _, rfl, ⟨fun h => ?_, fun h => ?_, fun _ => ⟨ck, rfl⟩, fun h => ?_, .inr (.inr (.inl rfl))⟩⟩ <;> exact absurd h (by decide)
theorem line_led {l m n : M4} (hl : l.det = 1) {kd kd2 : Str} {rest rest2 : List Pt.D} (h1 : lineD m n = .tuple (.str kd :: rest)) (h2 : lineD (l.led m) (l.led n) = .tuple (.str kd2 :: rest2)) : kd2 = kd ∧ (kd = "root" → rest2 = rest) := by
  unfold lineD at h1 h2
  rw [M4.k_led hl, first_led hl] at h2
  by_cases ck : m.k n = 2
  · rw [if_pos ck] at h1 h2
    cases hf : firstNU m n with
    | none =>
      rw [hf] at h1 h2
      cases h1
      cases h2
      exact ⟨rfl, fun h => rfl⟩
    | some z =>
      rw [hf] at h1 h2
      rw [Option.map_some, lineM_some] at h2
      rw [lineM_some] at h1
      unfold lineOf at h1 h2
      rw [M4.tr_led hl] at h2
      by_cases h0 : z.tr * z.tr - 4 = 0
      · rw [if_pos h0] at h1 h2
        cases h1
        cases h2
        exact ⟨rfl, fun h => absurd h (by decide)⟩
      · rw [if_neg h0] at h1 h2
        cases h1
        cases h2
        exact ⟨rfl, fun h => rfl⟩
  · rw [if_neg ck] at h1 h2
    cases h1
    cases h2
    exact ⟨rfl, fun h => rfl⟩
end Pg

namespace K52
open PySem PySem.Spec PyProof.Rows L2 Pt Pg
def topS (i : Nat) : Stmt := PySem.Challenge.pw_tracetriples_k52_lines_in_common.main.body.getD i (.Pass ⟨0, 0, 0, 0⟩)
section
variable {P : Program} {w : World} {K : PySem.W.Frag} {mg : Str → Option Value} {base : Heap}
abbrev s_is_whole : Stmt := topS 2
abbrev N_is_whole : List Str := ["value"]
abbrev P_is_whole : List Str := ["value"]
theorem sc_is_whole : FnScope N_is_whole P_is_whole (defScope s_is_whole) := ⟨rfl, rfl, rfl, by decide +kernel, rfl, by decide +kernel, by decide +kernel⟩
theorem ok_is_whole {fa : Addr} {fd : FuncData} (F : Fun K "is_whole" "is_whole" s_is_whole fa fd) (b_bool : mg "bool" = none)
    (b_int : mg "int" = none)
    (b_isinstance : mg "isinstance" = none) : FnG P w K mg base 1 fa fd P_is_whole (spD mg K 1 F_is_whole) :=
  fn_den F sc_is_whole fun cdv A outer s H E hr hgd => by
    unfold m_is_whole
    exact (dss_one (ds_ret (de_and (de_isi kn_int (dv_of (de_var 0)) b_isinstance b_int (by decide +kernel)) (de_one (de_not (de_isi kn_bool (dv_of (de_var 0)) b_isinstance b_bool (by decide +kernel)))))))

abbrev s_is_table : Stmt := topS 3
abbrev N_is_table : List Str := ["value", "one"]
abbrev P_is_table : List Str := ["value"]
theorem sc_is_table : FnScope N_is_table P_is_table (defScope s_is_table) := ⟨rfl, rfl, rfl, by decide +kernel, rfl, by decide +kernel, by decide +kernel⟩
theorem ok_is_table {fa : Addr} {fd : FuncData} (F : Fun K "is_table" "is_table" s_is_table fa fd) (b_all : mg "all" = none)
    (b_isinstance : mg "isinstance" = none)
    (b_len : mg "len" = none)
    (b_tuple : mg "tuple" = none)
    {fa_is_whole : Addr} {fd_is_whole : FuncData} (G_is_whole : FnG P w K mg base 1 fa_is_whole fd_is_whole P_is_whole (spD mg K 1 F_is_whole)) (g_is_whole : mg "is_whole" = some (.ref fa_is_whole)) (k_is_whole : PySem.W.keepIn K (.ref fa_is_whole) = true) (b_is_whole : Binds K fd_is_whole P_is_whole []) : FnG P w K mg base 2 fa fd P_is_table (spD mg K 1 F_is_table) :=
  fn_den F sc_is_table fun cdv A outer s H E hr hgd => by
    unfold m_is_table
    exact (dss_cons (ds_if (dt_w (dw_or (dt_not (dt_val (de_isi kn_tuple (dv_of (de_var 0)) b_isinstance b_tuple (by decide +kernel)))) (dw_or (dt_cmp (or_ne (hu64 hr)) (dv_of (de_callB cr_len b_len PySem.boot_len (dvs_cons (dv_of (de_var 0)) dvs_nil))) (dv_of de_int)) (dw_or1 (dt_not (dt_val (de_callB (cr_allD rfl) b_all (by decide +kernel) (dvs_cons (dv_of (de_fz (dl_lc [("one", 1)] (dj_seq (dv_of (de_var 0))) rfl sc_is_table.nd (by rfl) (fun _ _ _ _ _ => (dg_name 1 sc_is_table.nd)) (fun _ _ _ _ _ => dts_nil) (fun _ _ _ _ _ => (de_call G_is_whole (hr.mono (by decide)) hgd takes0 g_is_whole k_is_whole b_is_whole (da_cons (de_var 1) da_nil) (al_cons al_nil)))))) dvs_nil)))))))) (dss_one (ds_ret de_bl)) dss_nil)
    (dss_one (ds_ret (de_cmp (or_eq (hu64 hr)) (dv_of (de_bin or_sub (dv_of (de_bin or_mul (dv_of (de_ix (dv_of (de_var 0)) (dv_of de_int))) (dv_of (de_ix (dv_of (de_var 0)) (dv_of de_int))))) (dv_of (de_bin or_mul (dv_of (de_ix (dv_of (de_var 0)) (dv_of de_int))) (dv_of (de_ix (dv_of (de_var 0)) (dv_of de_int))))))) (dv_of de_int)))))

abbrev s_is_pair : Stmt := topS 4
abbrev N_is_pair : List Str := ["value", "one"]
abbrev P_is_pair : List Str := ["value"]
theorem sc_is_pair : FnScope N_is_pair P_is_pair (defScope s_is_pair) := ⟨rfl, rfl, rfl, by decide +kernel, rfl, by decide +kernel, by decide +kernel⟩
theorem ok_is_pair {fa : Addr} {fd : FuncData} (F : Fun K "is_pair" "is_pair" s_is_pair fa fd) (b_all : mg "all" = none)
    (b_isinstance : mg "isinstance" = none)
    (b_len : mg "len" = none)
    (b_tuple : mg "tuple" = none)
    {fa_is_table : Addr} {fd_is_table : FuncData} (G_is_table : FnG P w K mg base 2 fa_is_table fd_is_table P_is_table (spD mg K 1 F_is_table)) (g_is_table : mg "is_table" = some (.ref fa_is_table)) (k_is_table : PySem.W.keepIn K (.ref fa_is_table) = true) (b_is_table : Binds K fd_is_table P_is_table []) : FnG P w K mg base 3 fa fd P_is_pair (spD mg K 1 F_is_pair) :=
  fn_den F sc_is_pair fun cdv A outer s H E hr hgd => by
    unfold m_is_pair
    exact (dss_one (ds_ret (de_and (de_isi kn_tuple (dv_of (de_var 0)) b_isinstance b_tuple (by decide +kernel)) (de_and (de_cmp (or_eq (hu64 hr)) (dv_of (de_callB cr_len b_len PySem.boot_len (dvs_cons (dv_of (de_var 0)) dvs_nil))) (dv_of de_int)) (de_one (de_callB (cr_allD rfl) b_all (by decide +kernel) (dvs_cons (dv_of (de_fz (dl_lc [("one", 1)] (dj_seq (dv_of (de_var 0))) rfl sc_is_pair.nd (by rfl) (fun _ _ _ _ _ => (dg_name 1 sc_is_pair.nd)) (fun _ _ _ _ _ => dts_nil) (fun _ _ _ _ _ => (de_call G_is_table (hr.mono (by decide)) hgd takes0 g_is_table k_is_table b_is_table (da_cons (de_var 1) da_nil) (al_cons al_nil)))))) dvs_nil)))))))

abbrev s_table_times : Stmt := topS 5
abbrev N_table_times : List Str := ["one", "other", "a", "b", "c", "d", "e", "f", "g", "h"]
abbrev P_table_times : List Str := ["one", "other"]
theorem sc_table_times : FnScope N_table_times P_table_times (defScope s_table_times) := ⟨rfl, rfl, rfl, by decide +kernel, rfl, by decide +kernel, by decide +kernel⟩
theorem ok_table_times {fa : Addr} {fd : FuncData} (F : Fun K "table_times" "table_times" s_table_times fa fd)  : FnG P w K mg base 1 fa fd P_table_times (spD mg K 2 F_table_times) :=
  fn_den F sc_table_times fun cdv A outer s H E hr hgd => by
    unfold m_table_times
    exact (dss_cons (ds_bind (de_var 0) (dg_tup (dgs_cons (dg_name 2 sc_table_times.nd) (dgs_cons (dg_name 3 sc_table_times.nd) (dgs_cons (dg_name 4 sc_table_times.nd) (dgs_cons (dg_name 5 sc_table_times.nd) dgs_nil)))) rfl))
    (dss_cons (ds_bind (de_var 1) (dg_tup (dgs_cons (dg_name 6 sc_table_times.nd) (dgs_cons (dg_name 7 sc_table_times.nd) (dgs_cons (dg_name 8 sc_table_times.nd) (dgs_cons (dg_name 9 sc_table_times.nd) dgs_nil)))) rfl))
    (dss_one (ds_ret (de_tup (dds_cons (de_bin or_add (dv_of (de_bin or_mul (dv_of (de_var 2)) (dv_of (de_var 6)))) (dv_of (de_bin or_mul (dv_of (de_var 3)) (dv_of (de_var 8))))) (dds_cons (de_bin or_add (dv_of (de_bin or_mul (dv_of (de_var 2)) (dv_of (de_var 7)))) (dv_of (de_bin or_mul (dv_of (de_var 3)) (dv_of (de_var 9))))) (dds_cons (de_bin or_add (dv_of (de_bin or_mul (dv_of (de_var 4)) (dv_of (de_var 6)))) (dv_of (de_bin or_mul (dv_of (de_var 5)) (dv_of (de_var 8))))) (dds_cons (de_bin or_add (dv_of (de_bin or_mul (dv_of (de_var 4)) (dv_of (de_var 7)))) (dv_of (de_bin or_mul (dv_of (de_var 5)) (dv_of (de_var 9))))) dds_nil)))))))))

abbrev s_trace_of : Stmt := topS 6
abbrev N_trace_of : List Str := ["one"]
abbrev P_trace_of : List Str := ["one"]
theorem sc_trace_of : FnScope N_trace_of P_trace_of (defScope s_trace_of) := ⟨rfl, rfl, rfl, by decide +kernel, rfl, by decide +kernel, by decide +kernel⟩
theorem ok_trace_of {fa : Addr} {fd : FuncData} (F : Fun K "trace_of" "trace_of" s_trace_of fa fd)  : FnG P w K mg base 1 fa fd P_trace_of (spD mg K 1 F_trace_of) :=
  fn_den F sc_trace_of fun cdv A outer s H E hr hgd => by
    unfold m_trace_of
    exact (dss_one (ds_ret (de_bin or_add (dv_of (de_ix (dv_of (de_var 0)) (dv_of de_int))) (dv_of (de_ix (dv_of (de_var 0)) (dv_of de_int))))))

abbrev s_traced : Stmt := topS 7
abbrev N_traced : List Str := ["pair"]
abbrev P_traced : List Str := ["pair"]
theorem sc_traced : FnScope N_traced P_traced (defScope s_traced) := ⟨rfl, rfl, rfl, by decide +kernel, rfl, by decide +kernel, by decide +kernel⟩
theorem ok_traced {fa : Addr} {fd : FuncData} (F : Fun K "traced" "traced" s_traced fa fd) {fa_table_times : Addr} {fd_table_times : FuncData} (G_table_times : FnG P w K mg base 1 fa_table_times fd_table_times P_table_times (spD mg K 2 F_table_times)) (g_table_times : mg "table_times" = some (.ref fa_table_times)) (k_table_times : PySem.W.keepIn K (.ref fa_table_times) = true) (b_table_times : Binds K fd_table_times P_table_times [])
    {fa_trace_of : Addr} {fd_trace_of : FuncData} (G_trace_of : FnG P w K mg base 1 fa_trace_of fd_trace_of P_trace_of (spD mg K 1 F_trace_of)) (g_trace_of : mg "trace_of" = some (.ref fa_trace_of)) (k_trace_of : PySem.W.keepIn K (.ref fa_trace_of) = true) (b_trace_of : Binds K fd_trace_of P_trace_of []) : FnG P w K mg base 2 fa fd P_traced (spD mg K 1 F_traced) :=
  fn_den F sc_traced fun cdv A outer s H E hr hgd => by
    unfold m_traced
    exact (dss_one (ds_ret (de_tup (dds_cons (de_call G_trace_of (hr.mono (by decide)) hgd (takes_of rfl rfl rfl rfl) g_trace_of k_trace_of b_trace_of (da_cons (de_ix (dv_of (de_var 0)) (dv_of de_int)) da_nil) (al_cons al_nil)) (dds_cons (de_call G_trace_of (hr.mono (by decide)) hgd (takes_of rfl rfl rfl rfl) g_trace_of k_trace_of b_trace_of (da_cons (de_ix (dv_of (de_var 0)) (dv_of de_int)) da_nil) (al_cons al_nil)) (dds_cons (de_call G_trace_of (hr.mono (by decide)) hgd (takes_of rfl rfl rfl rfl) g_trace_of k_trace_of b_trace_of (da_cons (de_call G_table_times (hr.mono (by decide)) hgd (takes_of rfl rfl rfl rfl) g_table_times k_table_times b_table_times (da_cons (de_ix (dv_of (de_var 0)) (dv_of de_int)) (da_cons (de_ix (dv_of (de_var 0)) (dv_of de_int)) da_nil)) (al_cons (al_cons al_nil))) da_nil) (al_cons al_nil)) dds_nil))))))

abbrev s_k_of : Stmt := topS 8
abbrev N_k_of : List Str := ["triple", "x", "y", "z"]
abbrev P_k_of : List Str := ["triple"]
theorem sc_k_of : FnScope N_k_of P_k_of (defScope s_k_of) := ⟨rfl, rfl, rfl, by decide +kernel, rfl, by decide +kernel, by decide +kernel⟩
theorem ok_k_of {fa : Addr} {fd : FuncData} (F : Fun K "k_of" "k_of" s_k_of fa fd)  : FnG P w K mg base 1 fa fd P_k_of (spD mg K 1 F_k_of) :=
  fn_den F sc_k_of fun cdv A outer s H E hr hgd => by
    unfold m_k_of
    exact (dss_cons (ds_bind (de_var 0) (dg_tup (dgs_cons (dg_name 1 sc_k_of.nd) (dgs_cons (dg_name 2 sc_k_of.nd) (dgs_cons (dg_name 3 sc_k_of.nd) dgs_nil))) rfl))
    (dss_one (ds_ret (de_bin or_sub (dv_of (de_bin or_sub (dv_of (de_bin or_add (dv_of (de_bin or_add (dv_of (de_bin or_mul (dv_of (de_var 1)) (dv_of (de_var 1)))) (dv_of (de_bin or_mul (dv_of (de_var 2)) (dv_of (de_var 2)))))) (dv_of (de_bin or_mul (dv_of (de_var 3)) (dv_of (de_var 3)))))) (dv_of (de_bin or_mul (dv_of (de_bin or_mul (dv_of (de_var 1)) (dv_of (de_var 2)))) (dv_of (de_var 3)))))) (dv_of de_int)))))

abbrev s_least_row : Stmt := topS 11
abbrev N_least_row : List Str := ["row", "part", "number", "first"]
abbrev P_least_row : List Str := ["row"]
theorem sc_least_row : FnScope N_least_row P_least_row (defScope s_least_row) := ⟨rfl, rfl, rfl, by decide +kernel, rfl, by decide +kernel, by decide +kernel⟩
theorem ok_least_row {fa : Addr} {fd : FuncData} (F : Fun K "least_row" "least_row" s_least_row fa fd) (b_abs : mg "abs" = none)
    (b_list : mg "list" = none)
    (g_gcd : mg "gcd" = some (.builtin "math.gcd")) : FnG P w K mg base 1 fa fd P_least_row (spD mg K 1 F_least_row) :=
  fn_den F sc_least_row fun cdv A outer s H E hr hgd => by
    unfold m_least_row
    exact (dss_cons (ds_put 1 (dsl_d de_int) sc_least_row.nd)
    (dss_cons (ds_for (passes_of rfl) rfl (di_seq (de_var 0)) (dg_name 2 sc_least_row.nd) (dss_one (ds_put 1 (dsl_d (de_callF cr_gcdD g_gcd (dvs_cons (dv_of (de_var 1)) (dvs_cons (dv_of (de_callB cr_abs b_abs (by decide +kernel) (dvs_cons (dv_of (de_var 2)) dvs_nil))) dvs_nil)))) sc_least_row.nd)))
    (dss_cons (ds_lcZ 3 [("number", 2)] (dj_seq (dv_of (de_var 0))) rfl sc_least_row.nd (by rfl) (fun _ _ _ _ _ => (dg_name 2 sc_least_row.nd)) (fun _ _ _ _ _ => (dts_one (dt_cmp (or_ne (hu64 hr)) (dv_of (de_var 2)) (dv_of de_int)))) (fun _ _ _ _ _ => (de_var 2)) (sw_true rfl rfl rfl (by decide +kernel)))
    (dss_cons (ds_if (dt_cmp (or_eq (hu64 hr)) (dv_of (de_var 3)) (dv_of (de_fz (dl_lst dds_nil)))) (dss_one (ds_ret (de_fz (dl_callTy cl_list b_list (by decide +kernel) (dvs_cons (dv_of (de_var 0)) dvs_nil))))) dss_nil)
    (dss_cons (ds_put 1 (dsl_d (de_if (dt_cmp or_gt (dv_of (de_ix (dv_of (de_var 3)) (dv_of de_int))) (dv_of de_int)) (de_var 1) (de_un ur_neg (dv_of (de_var 1))))) sc_least_row.nd)
    (dss_one (ds_ret (de_fz (dl_lc [("number", 2)] (dj_seq (dv_of (de_var 0))) rfl sc_least_row.nd (by rfl) (fun _ _ _ _ _ => (dg_name 2 sc_least_row.nd)) (fun _ _ _ _ _ => dts_nil) (fun _ _ _ _ _ => (de_bin or_div (dv_of (de_var 2)) (dv_of (de_var 1)))))))))))))

abbrev s_kept_column : Stmt := topS 14
abbrev N_kept_column : List Str := ["table", "p", "q", "r", "s", "half", "column"]
abbrev P_kept_column : List Str := ["table"]
theorem sc_kept_column : FnScope N_kept_column P_kept_column (defScope s_kept_column) := ⟨rfl, rfl, rfl, by decide +kernel, rfl, by decide +kernel, by decide +kernel⟩
theorem ok_kept_column {fa : Addr} {fd : FuncData} (F : Fun K "kept_column" "kept_column" s_kept_column fa fd) (b_tuple : mg "tuple" = none)
    {fa_least_row : Addr} {fd_least_row : FuncData} (G_least_row : FnG P w K mg base 1 fa_least_row fd_least_row P_least_row (spD mg K 1 F_least_row)) (g_least_row : mg "least_row" = some (.ref fa_least_row)) (k_least_row : PySem.W.keepIn K (.ref fa_least_row) = true) (b_least_row : Binds K fd_least_row P_least_row []) : FnG P w K mg base 2 fa fd P_kept_column (spD mg K 1 F_kept_column) :=
  fn_den F sc_kept_column fun cdv A outer s H E hr hgd => by
    unfold m_kept_column
    exact (dss_cons (ds_bind (de_var 0) (dg_tup (dgs_cons (dg_name 1 sc_kept_column.nd) (dgs_cons (dg_name 2 sc_kept_column.nd) (dgs_cons (dg_name 3 sc_kept_column.nd) (dgs_cons (dg_name 4 sc_kept_column.nd) dgs_nil)))) rfl))
    (dss_cons (ds_put 5 (dsl_d (de_bin or_div (dv_of (de_bin or_add (dv_of (de_var 1)) (dv_of (de_var 4)))) (dv_of de_int))) sc_kept_column.nd)
    (dss_cons (ds_put 6 (dsl_d (de_if (dt_w (dw_or (dt_cmp (or_ne (hu64 hr)) (dv_of (de_var 2)) (dv_of de_int)) (dw_or1 (dt_cmp (or_ne (hu64 hr)) (dv_of (de_var 5)) (dv_of (de_var 1)))))) (de_tup (dds_cons (de_var 2) (dds_cons (de_bin or_sub (dv_of (de_var 5)) (dv_of (de_var 1))) dds_nil))) (de_tup (dds_cons (de_bin or_sub (dv_of (de_var 5)) (dv_of (de_var 4))) (dds_cons (de_var 3) dds_nil))))) sc_kept_column.nd)
    (dss_one (ds_ret (de_callTy cr_tuple b_tuple (by decide +kernel) (dvs_cons (dv_of (de_call G_least_row (hr.mono (by decide)) hgd (takes_of rfl rfl rfl rfl) g_least_row k_least_row b_least_row (da_cons (de_var 6) da_nil) (al_cons al_nil))) dvs_nil)))))))

abbrev s_line_told : Stmt := topS 15
abbrev N_line_told : List Str := ["pair", "some", "square", "table"]
abbrev P_line_told : List Str := ["pair"]
theorem sc_line_told : FnScope N_line_told P_line_told (defScope s_line_told) := ⟨rfl, rfl, rfl, by decide +kernel, rfl, by decide +kernel, by decide +kernel⟩
theorem ok_line_told {fa : Addr} {fd : FuncData} (F : Fun K "line_told" "line_told" s_line_told fa fd) {fa_k_of : Addr} {fd_k_of : FuncData} (G_k_of : FnG P w K mg base 1 fa_k_of fd_k_of P_k_of (spD mg K 1 F_k_of)) (g_k_of : mg "k_of" = some (.ref fa_k_of)) (k_k_of : PySem.W.keepIn K (.ref fa_k_of) = true) (b_k_of : Binds K fd_k_of P_k_of [])
    {fa_kept_column : Addr} {fd_kept_column : FuncData} (G_kept_column : FnG P w K mg base 2 fa_kept_column fd_kept_column P_kept_column (spD mg K 1 F_kept_column)) (g_kept_column : mg "kept_column" = some (.ref fa_kept_column)) (k_kept_column : PySem.W.keepIn K (.ref fa_kept_column) = true) (b_kept_column : Binds K fd_kept_column P_kept_column [])
    {fa_trace_of : Addr} {fd_trace_of : FuncData} (G_trace_of : FnG P w K mg base 1 fa_trace_of fd_trace_of P_trace_of (spD mg K 1 F_trace_of)) (g_trace_of : mg "trace_of" = some (.ref fa_trace_of)) (k_trace_of : PySem.W.keepIn K (.ref fa_trace_of) = true) (b_trace_of : Binds K fd_trace_of P_trace_of [])
    {fa_traced : Addr} {fd_traced : FuncData} (G_traced : FnG P w K mg base 2 fa_traced fd_traced P_traced (spD mg K 1 F_traced)) (g_traced : mg "traced" = some (.ref fa_traced)) (k_traced : PySem.W.keepIn K (.ref fa_traced) = true) (b_traced : Binds K fd_traced P_traced [])
    {c_EACH_ONE : Addr} (g_EACH_ONE : mg "EACH_ONE" = some (.ref c_EACH_ONE)) (i_EACH_ONE : ∀ F, Is K F (.ref c_EACH_ONE) (.tuple [(.tuple [(.int 1), (.int 0), (.int 0), (.int 1)]), (.tuple [(.int (-1)), (.int 0), (.int 0), (.int (-1))])]))
    {t_HAS_LINE : Tok} (g_HAS_LINE : mg "HAS_LINE" = some (.int (2) t_HAS_LINE)) : FnG P w K mg base 3 fa fd P_line_told (spD mg K 1 F_line_told) :=
  fn_den F sc_line_told fun cdv A outer s H E hr hgd => by
    unfold m_line_told
    exact (dss_cons (ds_if (dt_cmp (or_ne (hu64 hr)) (dv_of (de_call G_k_of (hr.mono (by decide)) hgd (takes_of rfl rfl rfl rfl) g_k_of k_k_of b_k_of (da_cons (de_call G_traced (hr.mono (by decide)) hgd (takes_of rfl rfl rfl rfl) g_traced k_traced b_traced (da_cons (de_var 0) da_nil) (al_cons al_nil)) da_nil) (al_cons al_nil))) (dv_of (de_glob (v := .int (2)) g_HAS_LINE ⟨_, rfl⟩ (fun _ => .int _)))) (dss_one (ds_ret (de_tup (dds_cons de_str dds_nil)))) dss_nil)
    (dss_cons (ds_lcZ 1 [("table", 3)] (dj_seq (dv_of (de_var 0))) rfl sc_line_told.nd (by rfl) (fun _ _ _ _ _ => (dg_name 3 sc_line_told.nd)) (fun _ _ _ _ _ => (dts_one (dt_cmp (or_notIn (hu65 hr)) (dv_of (de_var 3)) (dv_of (de_glob (v := .ref c_EACH_ONE) g_EACH_ONE rfl i_EACH_ONE))))) (fun _ _ _ _ _ => (de_var 3)) (sw_true rfl rfl rfl (by decide +kernel)))
    (dss_cons (ds_if (dt_cmp (or_eq (hu64 hr)) (dv_of (de_var 1)) (dv_of (de_fz (dl_lst dds_nil)))) (dss_one (ds_ret (de_tup (dds_cons de_str dds_nil)))) dss_nil)
    (dss_cons (ds_put 2 (dsl_d (de_bin or_sub (dv_of (de_bin or_mul (dv_of (de_call G_trace_of (hr.mono (by decide)) hgd (takes_of rfl rfl rfl rfl) g_trace_of k_trace_of b_trace_of (da_cons (de_ix (dv_of (de_var 1)) (dv_of de_int)) da_nil) (al_cons al_nil))) (dv_of (de_call G_trace_of (hr.mono (by decide)) hgd (takes_of rfl rfl rfl rfl) g_trace_of k_trace_of b_trace_of (da_cons (de_ix (dv_of (de_var 1)) (dv_of de_int)) da_nil) (al_cons al_nil))))) (dv_of de_int))) sc_line_told.nd)
    (dss_one (ds_ret (de_if (dt_cmp (or_eq (hu64 hr)) (dv_of (de_var 2)) (dv_of de_int)) (de_tup (dds_cons de_str (dds_cons (de_call G_kept_column (hr.mono (by decide)) hgd (takes_of rfl rfl rfl rfl) g_kept_column k_kept_column b_kept_column (da_cons (de_ix (dv_of (de_var 1)) (dv_of de_int)) da_nil) (al_cons al_nil)) dds_nil))) (de_tup (dds_cons de_str (dds_cons (de_var 2) dds_nil))))))))))

abbrev s_law_source : Stmt := topS 17
abbrev N_law_source : List Str := ["script", "mixed", "cell"]
abbrev P_law_source : List Str := ["script"]
theorem sc_law_source : FnScope N_law_source P_law_source (defScope s_law_source) := ⟨rfl, rfl, rfl, by decide +kernel, rfl, by decide +kernel, by decide +kernel⟩
theorem ok_law_source {fa : Addr} {fd : FuncData} (F : Fun K "_law_source" "_law_source" s_law_source fa fd) (b_abs : mg "abs" = none) (b_int : mg "int" = none) : FnG P w K mg base 1 fa fd P_law_source (spSrc K) :=
  src_den F sc_law_source rfl
    (fun cdv A outer s H E hr hgd => (ds_put 1 (dsl_d de_int) sc_law_source.nd))
    (fun cdv A outer s H E hr hgd => (ds_for (passes_of rfl) rfl (di_scr 0) (dg_name 2 sc_law_source.nd) (dss_one (ds_put 1 (dsl_d (de_bin or_mod (dv_of (de_callTy cr_int b_int (by decide +kernel) (dvs_cons (dv_of (de_bin or_add (dv_of (de_bin or_add (dv_of (de_bin or_mul (dv_of (de_var 1)) (dv_of de_int))) (dv_of (de_bin or_mul (dv_of (de_var 2)) (dv_of de_int))))) (dv_of de_int))) dvs_nil))) (dv_of de_int))) sc_law_source.nd))))
    (fun cdv A outer s H E hr hgd => ret_src (W := W0) (dl_rev (dv_of (de_fz (dl_lc [("cell", 2)] (dj_scr 0) rfl sc_law_source.nd (by rfl) (fun _ _ _ _ _ => (dg_name 2 sc_law_source.nd)) (fun _ _ _ _ _ => dts_nil) (fun _ _ _ _ _ => (de_callB cr_abs b_abs (by decide +kernel) (dvs_cons (dv_of (de_var 2)) dvs_nil))))))) (de_var 1))

abbrev s_law_pick : Stmt := topS 18
abbrev N_law_pick : List Str := ["source", "many", "left", "mixed"]
abbrev P_law_pick : List Str := ["source", "many"]
theorem sc_law_pick : FnScope N_law_pick P_law_pick (defScope s_law_pick) := ⟨rfl, rfl, rfl, by decide +kernel, rfl, by decide +kernel, by decide +kernel⟩
noncomputable def m_law_pick : Ms :=
    (mSeq (mWhile (mAndT (mTst (mBin dGt (mVar 1) (mC (.int 1)))) (mAndT (mTst (mBin dLt (mSrcI 0 Src.left) (mC (.int 2)))) (mTst (mBin dGt (mSrcLen 0) (mC (.int 0)))))) (mSrcPop 0))
    (mSeq (mPut 2 (mMap Sl.d (mSrcI 0 Src.left)))
    (mSeq (mIfS (mOrT (mTst (mBin dLt (mVar 1) (mC (.int 2)))) (mTst (mBin dGt (mVar 2) (mC (.int 1))))) (mSeq (mSrcPut 0 (fun s k => { s with left := k }) (mBin dDiv (mVar 2) (mCall dMax (mCons (mC (.int 1)) (mCons (mVar 1) mNil)))))
    (mRet (mBin dMod (mCall dInt (mCons (mVar 2) mNil)) (mCall dMax (mCons (mC (.int 1)) (mCons (mVar 1) mNil)))))) mSkip)
    (mSeq (mSrcPut 0 (fun s k => { s with turn := k }) (mBin dAdd (mSrcI 0 Src.turn) (mC (.int 1))))
    (mSeq (mPut 3 (mMap Sl.d (mBin dMod (mCall dInt (mCons (mBin dAdd (mSrcI 0 Src.mixed) (mBin dMul (mSrcI 0 Src.turn) (mC (.int 104729)))) mNil)) (mC (.int 998244353)))))
    (mSeq (mPut 3 (mMap Sl.d (mBin dMod (mCall dInt (mCons (mBin dAdd (mBin dMul (mVar 3) (mVar 3)) (mBin dMul (mSrcI 0 Src.turn) (mC (.int 17)))) mNil)) (mC (.int 2147483647)))))
    (mSeq (mSrcPut 0 (fun s k => { s with mixed := k }) (mVar 3))
    (mRet (mBin dMod (mCall dInt (mCons (mBin dDiv (mVar 3) (mC (.int 16))) mNil)) (mVar 1))))))))))
noncomputable def F_law_pick : Fs := runF 4 m_law_pick
theorem ok_law_pick {fa : Addr} {fd : FuncData} (F : Fun K "_law_pick" "_law_pick" s_law_pick fa fd) (b_int : mg "int" = none)
    (b_len : mg "len" = none)
    (b_max : mg "max" = none) : FnG P w K mg base 1 fa fd P_law_pick (spD mg K 2 F_law_pick) :=
  fn_den F sc_law_pick fun cdv A outer s H E hr hgd => by
    unfold m_law_pick
    exact (dss_cons (ds_while (passes_of rfl) (dt_w (dw_and (dt_cmp or_gt (dv_of (de_var 1)) (dv_of de_int)) (dw_and (dt_cmp or_lt (dv_of (de_srcI 0 Src.left (hu1 hr) (fun _ _ => rfl))) (dv_of de_int)) (dw_and1 (dt_cmp or_gt (dv_of (de_srcLen 0 (hu1 hr) b_len)) (dv_of de_int)))))) (dss_one (ds_srcPop 0 (hu1 hr))))
    (dss_cons (ds_put 2 (dsl_d (de_srcI 0 Src.left (hu1 hr) (fun _ _ => rfl))) sc_law_pick.nd)
    (dss_cons (ds_if (dt_w (dw_or (dt_cmp or_lt (dv_of (de_var 1)) (dv_of de_int)) (dw_or1 (dt_cmp or_gt (dv_of (de_var 2)) (dv_of de_int))))) (dss_cons (ds_srcPut 0 (fun s k => { s with left := k }) (de_bin or_div (dv_of (de_var 2)) (dv_of (de_callB (cr_maxD rfl) b_max (by decide +kernel) (dvs_cons (dv_of de_int) (dvs_cons (dv_of (de_var 1)) dvs_nil))))) (hu1 hr) (fun _ _ _ => rfl) (fun _ _ => rfl))
    (dss_one (ds_ret (de_bin or_mod (dv_of (de_callTy cr_int b_int (by decide +kernel) (dvs_cons (dv_of (de_var 2)) dvs_nil))) (dv_of (de_callB (cr_maxD rfl) b_max (by decide +kernel) (dvs_cons (dv_of de_int) (dvs_cons (dv_of (de_var 1)) dvs_nil)))))))) dss_nil)
    (dss_cons (ds_srcPut 0 (fun s k => { s with turn := k }) (de_bin or_add (dv_of (de_srcI 0 Src.turn (hu1 hr) (fun _ _ => rfl))) (dv_of de_int)) (hu1 hr) (fun _ _ _ => rfl) (fun _ _ => rfl))
    (dss_cons (ds_put 3 (dsl_d (de_bin or_mod (dv_of (de_callTy cr_int b_int (by decide +kernel) (dvs_cons (dv_of (de_bin or_add (dv_of (de_srcI 0 Src.mixed (hu1 hr) (fun _ _ => rfl))) (dv_of (de_bin or_mul (dv_of (de_srcI 0 Src.turn (hu1 hr) (fun _ _ => rfl))) (dv_of de_int))))) dvs_nil))) (dv_of de_int))) sc_law_pick.nd)
    (dss_cons (ds_put 3 (dsl_d (de_bin or_mod (dv_of (de_callTy cr_int b_int (by decide +kernel) (dvs_cons (dv_of (de_bin or_add (dv_of (de_bin or_mul (dv_of (de_var 3)) (dv_of (de_var 3)))) (dv_of (de_bin or_mul (dv_of (de_srcI 0 Src.turn (hu1 hr) (fun _ _ => rfl))) (dv_of de_int))))) dvs_nil))) (dv_of de_int))) sc_law_pick.nd)
    (dss_cons (ds_srcPut 0 (fun s k => { s with mixed := k }) (de_var 3) (hu1 hr) (fun _ _ _ => rfl) (fun _ _ => rfl))
    (dss_one (ds_ret (de_bin or_mod (dv_of (de_callTy cr_int b_int (by decide +kernel) (dvs_cons (dv_of (de_bin or_div (dv_of (de_var 3)) (dv_of de_int))) dvs_nil))) (dv_of (de_var 1))))))))))))

abbrev s_law_of : Stmt := topS 19
abbrev N_law_of : List Str := ["source", "some"]
abbrev P_law_of : List Str := ["source", "some"]
theorem sc_law_of : FnScope N_law_of P_law_of (defScope s_law_of) := ⟨rfl, rfl, rfl, by decide +kernel, rfl, by decide +kernel, by decide +kernel⟩
noncomputable def m_law_of : Ms :=
    (mRet (mBin dIx (mVar 1) (mApp F_law_pick (mConsS 0 (mConsA (mCall dLen (mCons (mVar 1) mNil)) mNil)))))
noncomputable def F_law_of : Fs := runF 2 m_law_of
theorem ok_law_of {fa : Addr} {fd : FuncData} (F : Fun K "_law_of" "_law_of" s_law_of fa fd) (b_len : mg "len" = none)
    {fa_law_pick : Addr} {fd_law_pick : FuncData} (G_law_pick : FnG P w K mg base 1 fa_law_pick fd_law_pick P_law_pick (spD mg K 2 F_law_pick)) (g_law_pick : mg "_law_pick" = some (.ref fa_law_pick)) (k_law_pick : PySem.W.keepIn K (.ref fa_law_pick) = true) (b_law_pick : Binds K fd_law_pick P_law_pick []) : FnG P w K mg base 2 fa fd P_law_of (spD mg K 2 F_law_of) :=
  fn_den F sc_law_of fun cdv A outer s H E hr hgd => by
    unfold m_law_of
    exact (dss_one (ds_ret (de_ix (dv_of (de_var 1)) (dv_of (de_call G_law_pick (hr.mono (by decide)) hgd (takes_of rfl rfl rfl rfl) g_law_pick k_law_pick b_law_pick (da_src (i := 0) (da_cons (de_callB cr_len b_len PySem.boot_len (dvs_cons (dv_of (de_var 1)) dvs_nil)) da_nil)) (al_src (al_cons al_nil)))))))

abbrev s_law_table_times : Stmt := topS 20
abbrev N_law_table_times : List Str := ["one", "other", "a", "b", "c", "d", "e", "f", "g", "h"]
abbrev P_law_table_times : List Str := ["one", "other"]
theorem sc_law_table_times : FnScope N_law_table_times P_law_table_times (defScope s_law_table_times) := ⟨rfl, rfl, rfl, by decide +kernel, rfl, by decide +kernel, by decide +kernel⟩
noncomputable def m_law_table_times : Ms :=
    (mSeq (mBind (.t [(.n 2), (.n 3), (.n 4), (.n 5)]) (mVar 0))
    (mSeq (mBind (.t [(.n 6), (.n 7), (.n 8), (.n 9)]) (mVar 1))
    (mRet (mTup (mCons (mBin dAdd (mBin dMul (mVar 2) (mVar 6)) (mBin dMul (mVar 3) (mVar 8))) (mCons (mBin dAdd (mBin dMul (mVar 2) (mVar 7)) (mBin dMul (mVar 3) (mVar 9))) (mCons (mBin dAdd (mBin dMul (mVar 4) (mVar 6)) (mBin dMul (mVar 5) (mVar 8))) (mCons (mBin dAdd (mBin dMul (mVar 4) (mVar 7)) (mBin dMul (mVar 5) (mVar 9))) mNil))))))))
noncomputable def F_law_table_times : Fs := runF 10 m_law_table_times
theorem ok_law_table_times {fa : Addr} {fd : FuncData} (F : Fun K "_law_table_times" "_law_table_times" s_law_table_times fa fd)  : FnG P w K mg base 1 fa fd P_law_table_times (spD mg K 2 F_law_table_times) :=
  fn_den F sc_law_table_times fun cdv A outer s H E hr hgd => by
    unfold m_law_table_times
    exact (dss_cons (ds_bind (de_var 0) (dg_tup (dgs_cons (dg_name 2 sc_law_table_times.nd) (dgs_cons (dg_name 3 sc_law_table_times.nd) (dgs_cons (dg_name 4 sc_law_table_times.nd) (dgs_cons (dg_name 5 sc_law_table_times.nd) dgs_nil)))) rfl))
    (dss_cons (ds_bind (de_var 1) (dg_tup (dgs_cons (dg_name 6 sc_law_table_times.nd) (dgs_cons (dg_name 7 sc_law_table_times.nd) (dgs_cons (dg_name 8 sc_law_table_times.nd) (dgs_cons (dg_name 9 sc_law_table_times.nd) dgs_nil)))) rfl))
    (dss_one (ds_ret (de_tup (dds_cons (de_bin or_add (dv_of (de_bin or_mul (dv_of (de_var 2)) (dv_of (de_var 6)))) (dv_of (de_bin or_mul (dv_of (de_var 3)) (dv_of (de_var 8))))) (dds_cons (de_bin or_add (dv_of (de_bin or_mul (dv_of (de_var 2)) (dv_of (de_var 7)))) (dv_of (de_bin or_mul (dv_of (de_var 3)) (dv_of (de_var 9))))) (dds_cons (de_bin or_add (dv_of (de_bin or_mul (dv_of (de_var 4)) (dv_of (de_var 6)))) (dv_of (de_bin or_mul (dv_of (de_var 5)) (dv_of (de_var 8))))) (dds_cons (de_bin or_add (dv_of (de_bin or_mul (dv_of (de_var 4)) (dv_of (de_var 7)))) (dv_of (de_bin or_mul (dv_of (de_var 5)) (dv_of (de_var 9))))) dds_nil)))))))))

abbrev s_law_table_undone : Stmt := topS 21
abbrev N_law_table_undone : List Str := ["one"]
abbrev P_law_table_undone : List Str := ["one"]
theorem sc_law_table_undone : FnScope N_law_table_undone P_law_table_undone (defScope s_law_table_undone) := ⟨rfl, rfl, rfl, by decide +kernel, rfl, by decide +kernel, by decide +kernel⟩
noncomputable def m_law_table_undone : Ms :=
    (mRet (mTup (mCons (mBin dIx (mVar 0) (mC (.int 3))) (mCons (mBin dSub (mC (.int 0)) (mBin dIx (mVar 0) (mC (.int 1)))) (mCons (mBin dSub (mC (.int 0)) (mBin dIx (mVar 0) (mC (.int 2)))) (mCons (mBin dIx (mVar 0) (mC (.int 0))) mNil))))))
noncomputable def F_law_table_undone : Fs := runF 1 m_law_table_undone
theorem ok_law_table_undone {fa : Addr} {fd : FuncData} (F : Fun K "_law_table_undone" "_law_table_undone" s_law_table_undone fa fd)  : FnG P w K mg base 1 fa fd P_law_table_undone (spD mg K 1 F_law_table_undone) :=
  fn_den F sc_law_table_undone fun cdv A outer s H E hr hgd => by
    unfold m_law_table_undone
    exact (dss_one (ds_ret (de_tup (dds_cons (de_ix (dv_of (de_var 0)) (dv_of de_int)) (dds_cons (de_bin or_sub (dv_of de_int) (dv_of (de_ix (dv_of (de_var 0)) (dv_of de_int)))) (dds_cons (de_bin or_sub (dv_of de_int) (dv_of (de_ix (dv_of (de_var 0)) (dv_of de_int)))) (dds_cons (de_ix (dv_of (de_var 0)) (dv_of de_int)) dds_nil)))))))

abbrev s_law_drawn_table : Stmt := topS 22
abbrev N_law_drawn_table : List Str := ["source", "many", "found", "turn", "by"]
abbrev P_law_drawn_table : List Str := ["source", "many"]
theorem sc_law_drawn_table : FnScope N_law_drawn_table P_law_drawn_table (defScope s_law_drawn_table) := ⟨rfl, rfl, rfl, by decide +kernel, rfl, by decide +kernel, by decide +kernel⟩
noncomputable def m_law_drawn_table : Ms :=
    (mSeq (mPut 2 (mMap Sl.d (mTup (mCons (mC (.int 1)) (mCons (mC (.int 0)) (mCons (mC (.int 0)) (mCons (mC (.int 1)) mNil)))))))
    (mSeq (mFor (mRg1 (mCons (mVar 1) mNil)) (.n 3)
    (mSeq (mPut 4 (mMap Sl.d (mApp F_law_of (mConsS 0 (mConsA (mFz (mLst (mCons (mC (.int 1)) (mCons (mUn dNeg (mC (.int 1))) (mCons (mC (.int 2)) mNil))))) mNil)))))
    (mPut 2 (mMap Sl.d (mApp F_law_table_times (mConsA (mVar 2) (mConsA (mIf (mTst (mBin dEq (mApp F_law_pick (mConsS 0 (mConsA (mC (.int 2)) mNil))) (mC (.int 0)))) (mTup (mCons (mC (.int 1)) (mCons (mVar 4) (mCons (mC (.int 0)) (mCons (mC (.int 1)) mNil))))) (mTup (mCons (mC (.int 1)) (mCons (mC (.int 0)) (mCons (mVar 4) (mCons (mC (.int 1)) mNil)))))) mNil)))))))
    (mRet (mVar 2))))
noncomputable def F_law_drawn_table : Fs := runF 5 m_law_drawn_table
theorem ok_law_drawn_table {fa : Addr} {fd : FuncData} (F : Fun K "_law_drawn_table" "_law_drawn_table" s_law_drawn_table fa fd) (b_range : mg "range" = none)
    {fa_law_of : Addr} {fd_law_of : FuncData} (G_law_of : FnG P w K mg base 2 fa_law_of fd_law_of P_law_of (spD mg K 2 F_law_of)) (g_law_of : mg "_law_of" = some (.ref fa_law_of)) (k_law_of : PySem.W.keepIn K (.ref fa_law_of) = true) (b_law_of : Binds K fd_law_of P_law_of [])
    {fa_law_pick : Addr} {fd_law_pick : FuncData} (G_law_pick : FnG P w K mg base 1 fa_law_pick fd_law_pick P_law_pick (spD mg K 2 F_law_pick)) (g_law_pick : mg "_law_pick" = some (.ref fa_law_pick)) (k_law_pick : PySem.W.keepIn K (.ref fa_law_pick) = true) (b_law_pick : Binds K fd_law_pick P_law_pick [])
    {fa_law_table_times : Addr} {fd_law_table_times : FuncData} (G_law_table_times : FnG P w K mg base 1 fa_law_table_times fd_law_table_times P_law_table_times (spD mg K 2 F_law_table_times)) (g_law_table_times : mg "_law_table_times" = some (.ref fa_law_table_times)) (k_law_table_times : PySem.W.keepIn K (.ref fa_law_table_times) = true) (b_law_table_times : Binds K fd_law_table_times P_law_table_times []) : FnG P w K mg base 3 fa fd P_law_drawn_table (spD mg K 2 F_law_drawn_table) :=
  fn_den F sc_law_drawn_table fun cdv A outer s H E hr hgd => by
    unfold m_law_drawn_table
    exact (dss_cons (ds_put 2 (dsl_d (de_tup (dds_cons de_int (dds_cons de_int (dds_cons de_int (dds_cons de_int dds_nil)))))) sc_law_drawn_table.nd)
    (dss_cons (ds_for (passes_of rfl) rfl (di_range1 (dds_cons (de_var 1) dds_nil) b_range) (dg_name 3 sc_law_drawn_table.nd) (dss_cons (ds_put 4 (dsl_d (de_call G_law_of (hr.mono (by decide)) hgd (takes_of rfl rfl rfl rfl) g_law_of k_law_of b_law_of (da_src (i := 0) (da_cons (de_fz (dl_lst (dds_cons de_int (dds_cons (de_un ur_neg (dv_of de_int)) (dds_cons de_int dds_nil))))) da_nil)) (al_src (al_cons al_nil)))) sc_law_drawn_table.nd)
    (dss_one (ds_put 2 (dsl_d (de_call G_law_table_times (hr.mono (by decide)) hgd (takes_of rfl rfl rfl rfl) g_law_table_times k_law_table_times b_law_table_times (da_cons (de_var 2) (da_cons (de_if (dt_cmp (or_eq (hu64 hr)) (dv_of (de_call G_law_pick (hr.mono (by decide)) hgd (takes_of rfl rfl rfl rfl) g_law_pick k_law_pick b_law_pick (da_src (i := 0) (da_cons de_int da_nil)) (al_src (al_cons al_nil)))) (dv_of de_int)) (de_tup (dds_cons de_int (dds_cons (de_var 4) (dds_cons de_int (dds_cons de_int dds_nil))))) (de_tup (dds_cons de_int (dds_cons de_int (dds_cons (de_var 4) (dds_cons de_int dds_nil)))))) da_nil)) (al_cons (al_cons al_nil)))) sc_law_drawn_table.nd))))
    (dss_one (ds_ret (de_var 2)))))

abbrev s_law_triple : Stmt := topS 23
abbrev N_law_triple : List Str := ["one", "other", "both"]
abbrev P_law_triple : List Str := ["one", "other"]
theorem sc_law_triple : FnScope N_law_triple P_law_triple (defScope s_law_triple) := ⟨rfl, rfl, rfl, by decide +kernel, rfl, by decide +kernel, by decide +kernel⟩
noncomputable def m_law_triple : Ms :=
    (mSeq (mPut 2 (mMap Sl.d (mApp F_law_table_times (mConsA (mVar 0) (mConsA (mVar 1) mNil)))))
    (mRet (mTup (mCons (mBin dAdd (mBin dIx (mVar 0) (mC (.int 0))) (mBin dIx (mVar 0) (mC (.int 3)))) (mCons (mBin dAdd (mBin dIx (mVar 1) (mC (.int 0))) (mBin dIx (mVar 1) (mC (.int 3)))) (mCons (mBin dAdd (mBin dIx (mVar 2) (mC (.int 0))) (mBin dIx (mVar 2) (mC (.int 3)))) mNil))))))
noncomputable def F_law_triple : Fs := runF 3 m_law_triple
theorem ok_law_triple {fa : Addr} {fd : FuncData} (F : Fun K "_law_triple" "_law_triple" s_law_triple fa fd) {fa_law_table_times : Addr} {fd_law_table_times : FuncData} (G_law_table_times : FnG P w K mg base 1 fa_law_table_times fd_law_table_times P_law_table_times (spD mg K 2 F_law_table_times)) (g_law_table_times : mg "_law_table_times" = some (.ref fa_law_table_times)) (k_law_table_times : PySem.W.keepIn K (.ref fa_law_table_times) = true) (b_law_table_times : Binds K fd_law_table_times P_law_table_times []) : FnG P w K mg base 2 fa fd P_law_triple (spD mg K 2 F_law_triple) :=
  fn_den F sc_law_triple fun cdv A outer s H E hr hgd => by
    unfold m_law_triple
    exact (dss_cons (ds_put 2 (dsl_d (de_call G_law_table_times (hr.mono (by decide)) hgd (takes_of rfl rfl rfl rfl) g_law_table_times k_law_table_times b_law_table_times (da_cons (de_var 0) (da_cons (de_var 1) da_nil)) (al_cons (al_cons al_nil)))) sc_law_triple.nd)
    (dss_one (ds_ret (de_tup (dds_cons (de_bin or_add (dv_of (de_ix (dv_of (de_var 0)) (dv_of de_int))) (dv_of (de_ix (dv_of (de_var 0)) (dv_of de_int)))) (dds_cons (de_bin or_add (dv_of (de_ix (dv_of (de_var 1)) (dv_of de_int))) (dv_of (de_ix (dv_of (de_var 1)) (dv_of de_int)))) (dds_cons (de_bin or_add (dv_of (de_ix (dv_of (de_var 2)) (dv_of de_int))) (dv_of (de_ix (dv_of (de_var 2)) (dv_of de_int)))) dds_nil)))))))

abbrev s_law_k : Stmt := topS 24
abbrev N_law_k : List Str := ["triple", "x", "y", "z"]
abbrev P_law_k : List Str := ["triple"]
theorem sc_law_k : FnScope N_law_k P_law_k (defScope s_law_k) := ⟨rfl, rfl, rfl, by decide +kernel, rfl, by decide +kernel, by decide +kernel⟩
noncomputable def m_law_k : Ms :=
    (mSeq (mBind (.t [(.n 1), (.n 2), (.n 3)]) (mVar 0))
    (mRet (mBin dSub (mBin dSub (mBin dAdd (mBin dAdd (mBin dMul (mVar 1) (mVar 1)) (mBin dMul (mVar 2) (mVar 2))) (mBin dMul (mVar 3) (mVar 3))) (mBin dMul (mBin dMul (mVar 1) (mVar 2)) (mVar 3))) (mC (.int 2)))))
noncomputable def F_law_k : Fs := runF 4 m_law_k
theorem ok_law_k {fa : Addr} {fd : FuncData} (F : Fun K "_law_k" "_law_k" s_law_k fa fd)  : FnG P w K mg base 1 fa fd P_law_k (spD mg K 1 F_law_k) :=
  fn_den F sc_law_k fun cdv A outer s H E hr hgd => by
    unfold m_law_k
    exact (dss_cons (ds_bind (de_var 0) (dg_tup (dgs_cons (dg_name 1 sc_law_k.nd) (dgs_cons (dg_name 2 sc_law_k.nd) (dgs_cons (dg_name 3 sc_law_k.nd) dgs_nil))) rfl))
    (dss_one (ds_ret (de_bin or_sub (dv_of (de_bin or_sub (dv_of (de_bin or_add (dv_of (de_bin or_add (dv_of (de_bin or_mul (dv_of (de_var 1)) (dv_of (de_var 1)))) (dv_of (de_bin or_mul (dv_of (de_var 2)) (dv_of (de_var 2)))))) (dv_of (de_bin or_mul (dv_of (de_var 3)) (dv_of (de_var 3)))))) (dv_of (de_bin or_mul (dv_of (de_bin or_mul (dv_of (de_var 1)) (dv_of (de_var 2)))) (dv_of (de_var 3)))))) (dv_of de_int)))))

abbrev s_law_led : Stmt := topS 25
abbrev N_law_led : List Str := ["lead", "one"]
abbrev P_law_led : List Str := ["lead", "one"]
theorem sc_law_led : FnScope N_law_led P_law_led (defScope s_law_led) := ⟨rfl, rfl, rfl, by decide +kernel, rfl, by decide +kernel, by decide +kernel⟩
noncomputable def m_law_led : Ms :=
    (mRet (mApp F_law_table_times (mConsA (mApp F_law_table_times (mConsA (mVar 0) (mConsA (mVar 1) mNil))) (mConsA (mApp F_law_table_undone (mConsA (mVar 0) mNil)) mNil))))
noncomputable def F_law_led : Fs := runF 2 m_law_led
theorem ok_law_led {fa : Addr} {fd : FuncData} (F : Fun K "_law_led" "_law_led" s_law_led fa fd) {fa_law_table_times : Addr} {fd_law_table_times : FuncData} (G_law_table_times : FnG P w K mg base 1 fa_law_table_times fd_law_table_times P_law_table_times (spD mg K 2 F_law_table_times)) (g_law_table_times : mg "_law_table_times" = some (.ref fa_law_table_times)) (k_law_table_times : PySem.W.keepIn K (.ref fa_law_table_times) = true) (b_law_table_times : Binds K fd_law_table_times P_law_table_times [])
    {fa_law_table_undone : Addr} {fd_law_table_undone : FuncData} (G_law_table_undone : FnG P w K mg base 1 fa_law_table_undone fd_law_table_undone P_law_table_undone (spD mg K 1 F_law_table_undone)) (g_law_table_undone : mg "_law_table_undone" = some (.ref fa_law_table_undone)) (k_law_table_undone : PySem.W.keepIn K (.ref fa_law_table_undone) = true) (b_law_table_undone : Binds K fd_law_table_undone P_law_table_undone []) : FnG P w K mg base 2 fa fd P_law_led (spD mg K 2 F_law_led) :=
  fn_den F sc_law_led fun cdv A outer s H E hr hgd => by
    unfold m_law_led
    exact (dss_one (ds_ret (de_call G_law_table_times (hr.mono (by decide)) hgd (takes_of rfl rfl rfl rfl) g_law_table_times k_law_table_times b_law_table_times (da_cons (de_call G_law_table_times (hr.mono (by decide)) hgd (takes_of rfl rfl rfl rfl) g_law_table_times k_law_table_times b_law_table_times (da_cons (de_var 0) (da_cons (de_var 1) da_nil)) (al_cons (al_cons al_nil))) (da_cons (de_call G_law_table_undone (hr.mono (by decide)) hgd (takes_of rfl rfl rfl rfl) g_law_table_undone k_law_table_undone b_law_table_undone (da_cons (de_var 0) da_nil) (al_cons al_nil)) da_nil)) (al_cons (al_cons al_nil)))))

abbrev s_law_column : Stmt := topS 26
abbrev N_law_column : List Str := ["one", "sign", "p", "q", "r", "s", "u", "v", "a", "b"]
abbrev P_law_column : List Str := ["one"]
theorem sc_law_column : FnScope N_law_column P_law_column (defScope s_law_column) := ⟨rfl, rfl, rfl, by decide +kernel, rfl, by decide +kernel, by decide +kernel⟩
noncomputable def m_law_column : Ms :=
    (mSeq (mPut 1 (mMap Sl.d (mIf (mTst (mBin dGt (mBin dAdd (mBin dIx (mVar 0) (mC (.int 0))) (mBin dIx (mVar 0) (mC (.int 3)))) (mC (.int 0)))) (mC (.int 1)) (mUn dNeg (mC (.int 1))))))
    (mSeq (mBind (.t [(.n 2), (.n 3), (.n 4), (.n 5)]) (mTup (mCons (mBin dSub (mBin dIx (mVar 0) (mC (.int 0))) (mVar 1)) (mCons (mBin dIx (mVar 0) (mC (.int 1))) (mCons (mBin dIx (mVar 0) (mC (.int 2))) (mCons (mBin dSub (mBin dIx (mVar 0) (mC (.int 3))) (mVar 1)) mNil))))))
    (mSeq (mBind (.t [(.n 6), (.n 7)]) (mIf (mTst (mBin dNe (mTup (mCons (mVar 2) (mCons (mVar 3) mNil))) (mTup (mCons (mC (.int 0)) (mCons (mC (.int 0)) mNil))))) (mTup (mCons (mBin dSub (mC (.int 0)) (mVar 3)) (mCons (mVar 2) mNil))) (mTup (mCons (mBin dSub (mC (.int 0)) (mVar 5)) (mCons (mVar 4) mNil)))))
    (mSeq (mPar 8 9 (mMap Sl.d (mCall dAbs (mCons (mVar 6) mNil))) (mMap Sl.d (mCall dAbs (mCons (mVar 7) mNil))))
    (mSeq (mWhile (mTst (mBin dGt (mVar 9) (mC (.int 0)))) (mPar 8 9 (mMap Sl.d (mVar 9)) (mMap Sl.d (mBin dMod (mCall dInt (mCons (mVar 8) mNil)) (mVar 9)))))
    (mSeq (mPut 8 (mMap Sl.d (mIf (mOrT (mTst (mBin dGt (mVar 6) (mC (.int 0)))) (mAndT (mTst (mBin dEq (mVar 6) (mC (.int 0)))) (mTst (mBin dGt (mVar 7) (mC (.int 0)))))) (mVar 8) (mBin dSub (mC (.int 0)) (mVar 8)))))
    (mRet (mTup (mCons (mBin dDiv (mVar 6) (mVar 8)) (mCons (mBin dDiv (mVar 7) (mVar 8)) mNil))))))))))
noncomputable def F_law_column : Fs := runF 10 m_law_column
theorem ok_law_column {fa : Addr} {fd : FuncData} (F : Fun K "_law_column" "_law_column" s_law_column fa fd) (b_abs : mg "abs" = none)
    (b_int : mg "int" = none) : FnG P w K mg base 1 fa fd P_law_column (spD mg K 1 F_law_column) :=
  fn_den F sc_law_column fun cdv A outer s H E hr hgd => by
    unfold m_law_column
    exact (dss_cons (ds_put 1 (dsl_d (de_if (dt_cmp or_gt (dv_of (de_bin or_add (dv_of (de_ix (dv_of (de_var 0)) (dv_of de_int))) (dv_of (de_ix (dv_of (de_var 0)) (dv_of de_int))))) (dv_of de_int)) de_int (de_un ur_neg (dv_of de_int)))) sc_law_column.nd)
    (dss_cons (ds_bind (de_tup (dds_cons (de_bin or_sub (dv_of (de_ix (dv_of (de_var 0)) (dv_of de_int))) (dv_of (de_var 1))) (dds_cons (de_ix (dv_of (de_var 0)) (dv_of de_int)) (dds_cons (de_ix (dv_of (de_var 0)) (dv_of de_int)) (dds_cons (de_bin or_sub (dv_of (de_ix (dv_of (de_var 0)) (dv_of de_int))) (dv_of (de_var 1))) dds_nil))))) (dg_tup (dgs_cons (dg_name 2 sc_law_column.nd) (dgs_cons (dg_name 3 sc_law_column.nd) (dgs_cons (dg_name 4 sc_law_column.nd) (dgs_cons (dg_name 5 sc_law_column.nd) dgs_nil)))) rfl))
    (dss_cons (ds_bind (de_if (dt_cmp (or_ne (hu64 hr)) (dv_of (de_tup (dds_cons (de_var 2) (dds_cons (de_var 3) dds_nil)))) (dv_of (de_tup (dds_cons de_int (dds_cons de_int dds_nil))))) (de_tup (dds_cons (de_bin or_sub (dv_of de_int) (dv_of (de_var 3))) (dds_cons (de_var 2) dds_nil))) (de_tup (dds_cons (de_bin or_sub (dv_of de_int) (dv_of (de_var 5))) (dds_cons (de_var 4) dds_nil)))) (dg_tup (dgs_cons (dg_name 6 sc_law_column.nd) (dgs_cons (dg_name 7 sc_law_column.nd) dgs_nil)) rfl))
    (dss_cons (ds_par 8 9 (dsl_d (de_callB cr_abs b_abs (by decide +kernel) (dvs_cons (dv_of (de_var 6)) dvs_nil))) (dsl_d (de_callB cr_abs b_abs (by decide +kernel) (dvs_cons (dv_of (de_var 7)) dvs_nil))) rfl sc_law_column.nd)
    (dss_cons (ds_while (passes_of rfl) (dt_cmp or_gt (dv_of (de_var 9)) (dv_of de_int)) (dss_one (ds_par 8 9 (dsl_d (de_var 9)) (dsl_d (de_bin or_mod (dv_of (de_callTy cr_int b_int (by decide +kernel) (dvs_cons (dv_of (de_var 8)) dvs_nil))) (dv_of (de_var 9)))) rfl sc_law_column.nd)))
    (dss_cons (ds_put 8 (dsl_d (de_if (dt_w (dw_or (dt_cmp or_gt (dv_of (de_var 6)) (dv_of de_int)) (dw_or1 (dt_w (dw_and (dt_cmp (or_eq (hu64 hr)) (dv_of (de_var 6)) (dv_of de_int)) (dw_and1 (dt_cmp or_gt (dv_of (de_var 7)) (dv_of de_int)))))))) (de_var 8) (de_bin or_sub (dv_of de_int) (dv_of (de_var 8))))) sc_law_column.nd)
    (dss_one (ds_ret (de_tup (dds_cons (de_bin or_div (dv_of (de_var 6)) (dv_of (de_var 8))) (dds_cons (de_bin or_div (dv_of (de_var 7)) (dv_of (de_var 8))) dds_nil)))))))))))

abbrev s_law_is_kept : Stmt := topS 27
abbrev N_law_is_kept : List Str := ["one", "column", "u", "v"]
abbrev P_law_is_kept : List Str := ["one", "column"]
theorem sc_law_is_kept : FnScope N_law_is_kept P_law_is_kept (defScope s_law_is_kept) := ⟨rfl, rfl, rfl, by decide +kernel, rfl, by decide +kernel, by decide +kernel⟩
noncomputable def m_law_is_kept : Ms :=
    (mSeq (mBind (.t [(.n 2), (.n 3)]) (mVar 1))
    (mRet (mBin dEq (mBin dMul (mBin dAdd (mBin dMul (mBin dIx (mVar 0) (mC (.int 0))) (mVar 2)) (mBin dMul (mBin dIx (mVar 0) (mC (.int 1))) (mVar 3))) (mVar 3)) (mBin dMul (mBin dAdd (mBin dMul (mBin dIx (mVar 0) (mC (.int 2))) (mVar 2)) (mBin dMul (mBin dIx (mVar 0) (mC (.int 3))) (mVar 3))) (mVar 2)))))
noncomputable def F_law_is_kept : Fs := runF 4 m_law_is_kept
theorem ok_law_is_kept {fa : Addr} {fd : FuncData} (F : Fun K "_law_is_kept" "_law_is_kept" s_law_is_kept fa fd)  : FnG P w K mg base 1 fa fd P_law_is_kept (spD mg K 2 F_law_is_kept) :=
  fn_den F sc_law_is_kept fun cdv A outer s H E hr hgd => by
    unfold m_law_is_kept
    exact (dss_cons (ds_bind (de_var 1) (dg_tup (dgs_cons (dg_name 2 sc_law_is_kept.nd) (dgs_cons (dg_name 3 sc_law_is_kept.nd) dgs_nil)) rfl))
    (dss_one (ds_ret (de_cmp (or_eq (hu64 hr)) (dv_of (de_bin or_mul (dv_of (de_bin or_add (dv_of (de_bin or_mul (dv_of (de_ix (dv_of (de_var 0)) (dv_of de_int))) (dv_of (de_var 2)))) (dv_of (de_bin or_mul (dv_of (de_ix (dv_of (de_var 0)) (dv_of de_int))) (dv_of (de_var 3)))))) (dv_of (de_var 3)))) (dv_of (de_bin or_mul (dv_of (de_bin or_add (dv_of (de_bin or_mul (dv_of (de_ix (dv_of (de_var 0)) (dv_of de_int))) (dv_of (de_var 2)))) (dv_of (de_bin or_mul (dv_of (de_ix (dv_of (de_var 0)) (dv_of de_int))) (dv_of (de_var 3)))))) (dv_of (de_var 2))))))))

abbrev s_law_pair : Stmt := topS 28
abbrev N_law_pair : List Str := ["source", "way", "lead", "signs", "both", "sign", "by", "one", "found", "lap", "turn"]
abbrev P_law_pair : List Str := ["source"]
theorem sc_law_pair : FnScope N_law_pair P_law_pair (defScope s_law_pair) := ⟨rfl, rfl, rfl, by decide +kernel, rfl, by decide +kernel, by decide +kernel⟩
noncomputable def m_law_pair : Ms :=
    (mSeq (mPar 1 2 (mMap Sl.d (mApp F_law_pick (mConsS 0 (mConsA (mC (.int 5)) mNil)))) (mMap Sl.d (mApp F_law_drawn_table (mConsS 0 (mConsA (mC (.int 3)) mNil)))))
    (mSeq (mPutZ 3 (mLc (mRg1J (mCons (mC (.int 2)) mNil)) (.n 10) mYes (mApp F_law_of (mConsS 0 (mConsA (mFz (mLst (mCons (mC (.int 1)) (mCons (mC (.int 1)) (mCons (mUn dNeg (mC (.int 1))) mNil))))) mNil))) [10]))
    (mSeq (mIfS (mTst (mBin dLt (mVar 1) (mC (.int 2)))) (mSeq (mPut 4 (mMap Sl.l (mLst mNil)))
    (mSeq (mFor (mSq (mVar 3)) (.n 5)
    (mSeq (mPut 6 (mMap Sl.d (mBin dSub (mApp F_law_pick (mConsS 0 (mConsA (mC (.int 7)) mNil))) (mC (.int 3)))))
    (mApd 4 (mApp F_law_led (mConsA (mVar 2) (mConsA (mTup (mCons (mVar 5) (mCons (mBin dMul (mVar 5) (mVar 6)) (mCons (mC (.int 0)) (mCons (mVar 5) mNil))))) mNil))))))
    (mFrz 4 (mRet (mVar 4))))) mSkip)
    (mSeq (mIfS (mTst (mBin dEq (mVar 1) (mC (.int 2)))) (mSeq (mPar 7 4 (mMap Sl.d (mApp F_law_drawn_table (mConsS 0 (mConsA (mC (.int 4)) mNil)))) (mMap Sl.l (mLst mNil)))
    (mSeq (mFor (mSq (mVar 3)) (.n 5)
    (mSeq (mPut 8 (mMap Sl.d (mTup (mCons (mVar 5) (mCons (mC (.int 0)) (mCons (mC (.int 0)) (mCons (mVar 5) mNil)))))))
    (mSeq (mFor (mRg1 (mCons (mApp F_law_pick (mConsS 0 (mConsA (mC (.int 4)) mNil))) mNil)) (.n 9)
    (mPut 8 (mMap Sl.d (mApp F_law_table_times (mConsA (mVar 8) (mConsA (mVar 7) mNil))))))
    (mApd 4 (mIf (mTst (mBin dEq (mApp F_law_pick (mConsS 0 (mConsA (mC (.int 2)) mNil))) (mC (.int 0)))) (mVar 8) (mApp F_law_table_undone (mConsA (mVar 8) mNil)))))))
    (mFrz 4 (mRet (mVar 4))))) mSkip)
    (mRet (mFz (mLst (mCons (mApp F_law_drawn_table (mConsS 0 (mConsA (mC (.int 4)) mNil))) (mCons (mApp F_law_drawn_table (mConsS 0 (mConsA (mC (.int 4)) mNil))) mNil)))))))))
noncomputable def F_law_pair : Fs := runF 11 m_law_pair
theorem ok_law_pair {fa : Addr} {fd : FuncData} (F : Fun K "_law_pair" "_law_pair" s_law_pair fa fd) (b_range : mg "range" = none)
    {fa_law_drawn_table : Addr} {fd_law_drawn_table : FuncData} (G_law_drawn_table : FnG P w K mg base 3 fa_law_drawn_table fd_law_drawn_table P_law_drawn_table (spD mg K 2 F_law_drawn_table)) (g_law_drawn_table : mg "_law_drawn_table" = some (.ref fa_law_drawn_table)) (k_law_drawn_table : PySem.W.keepIn K (.ref fa_law_drawn_table) = true) (b_law_drawn_table : Binds K fd_law_drawn_table P_law_drawn_table [])
    {fa_law_led : Addr} {fd_law_led : FuncData} (G_law_led : FnG P w K mg base 2 fa_law_led fd_law_led P_law_led (spD mg K 2 F_law_led)) (g_law_led : mg "_law_led" = some (.ref fa_law_led)) (k_law_led : PySem.W.keepIn K (.ref fa_law_led) = true) (b_law_led : Binds K fd_law_led P_law_led [])
    {fa_law_of : Addr} {fd_law_of : FuncData} (G_law_of : FnG P w K mg base 2 fa_law_of fd_law_of P_law_of (spD mg K 2 F_law_of)) (g_law_of : mg "_law_of" = some (.ref fa_law_of)) (k_law_of : PySem.W.keepIn K (.ref fa_law_of) = true) (b_law_of : Binds K fd_law_of P_law_of [])
    {fa_law_pick : Addr} {fd_law_pick : FuncData} (G_law_pick : FnG P w K mg base 1 fa_law_pick fd_law_pick P_law_pick (spD mg K 2 F_law_pick)) (g_law_pick : mg "_law_pick" = some (.ref fa_law_pick)) (k_law_pick : PySem.W.keepIn K (.ref fa_law_pick) = true) (b_law_pick : Binds K fd_law_pick P_law_pick [])
    {fa_law_table_times : Addr} {fd_law_table_times : FuncData} (G_law_table_times : FnG P w K mg base 1 fa_law_table_times fd_law_table_times P_law_table_times (spD mg K 2 F_law_table_times)) (g_law_table_times : mg "_law_table_times" = some (.ref fa_law_table_times)) (k_law_table_times : PySem.W.keepIn K (.ref fa_law_table_times) = true) (b_law_table_times : Binds K fd_law_table_times P_law_table_times [])
    {fa_law_table_undone : Addr} {fd_law_table_undone : FuncData} (G_law_table_undone : FnG P w K mg base 1 fa_law_table_undone fd_law_table_undone P_law_table_undone (spD mg K 1 F_law_table_undone)) (g_law_table_undone : mg "_law_table_undone" = some (.ref fa_law_table_undone)) (k_law_table_undone : PySem.W.keepIn K (.ref fa_law_table_undone) = true) (b_law_table_undone : Binds K fd_law_table_undone P_law_table_undone []) : FnG P w K mg base 4 fa fd P_law_pair (spD mg K 1 F_law_pair) :=
  fn_den F sc_law_pair fun cdv A outer s H E hr hgd => by
    unfold m_law_pair
    exact (dss_cons (ds_par 1 2 (dsl_d (de_call G_law_pick (hr.mono (by decide)) hgd (takes_of rfl rfl rfl rfl) g_law_pick k_law_pick b_law_pick (da_src (i := 0) (da_cons de_int da_nil)) (al_src (al_cons al_nil)))) (dsl_d (de_call G_law_drawn_table (hr.mono (by decide)) hgd (takes_of rfl rfl rfl rfl) g_law_drawn_table k_law_drawn_table b_law_drawn_table (da_src (i := 0) (da_cons de_int da_nil)) (al_src (al_cons al_nil)))) rfl sc_law_pair.nd)
    (dss_cons (ds_lcZ 3 [("turn", 10)] (dj_range1 (dds_cons de_int dds_nil) b_range) rfl sc_law_pair.nd (by rfl) (fun _ _ _ _ _ => (dg_name 10 sc_law_pair.nd)) (fun _ _ _ _ _ => dts_nil) (fun _ _ _ _ _ => (de_call G_law_of (hr.mono (by decide)) hgd takes0 g_law_of k_law_of b_law_of (da_src (i := 0) (da_cons (de_fz (dl_lst (dds_cons de_int (dds_cons de_int (dds_cons (de_un ur_neg (dv_of de_int)) dds_nil))))) da_nil)) (al_src (al_cons al_nil)))) (sw_true rfl rfl rfl (by decide +kernel)))
    (dss_cons (ds_if (dt_cmp or_lt (dv_of (de_var 1)) (dv_of de_int)) (dss_cons (ds_put 4 (dsl_l (dl_lst dds_nil)) sc_law_pair.nd)
    (dss_cons (ds_for (passes_of rfl) rfl (di_seq (de_var 3)) (dg_name 5 sc_law_pair.nd) (dss_cons (ds_put 6 (dsl_d (de_bin or_sub (dv_of (de_call G_law_pick (hr.mono (by decide)) hgd (takes_of rfl rfl rfl rfl) g_law_pick k_law_pick b_law_pick (da_src (i := 0) (da_cons de_int da_nil)) (al_src (al_cons al_nil)))) (dv_of de_int))) sc_law_pair.nd)
    (dss_one (ds_append 4 (de_call G_law_led (hr.mono (by decide)) hgd (takes_of rfl rfl rfl rfl) g_law_led k_law_led b_law_led (da_cons (de_var 2) (da_cons (de_tup (dds_cons (de_var 5) (dds_cons (de_bin or_mul (dv_of (de_var 5)) (dv_of (de_var 6))) (dds_cons de_int (dds_cons (de_var 5) dds_nil))))) da_nil)) (al_cons (al_cons al_nil)))))))
    (dss_one (ds_frz 4 (ds_ret (de_var 4)))))) dss_nil)
    (dss_cons (ds_if (dt_cmp (or_eq (hu64 hr)) (dv_of (de_var 1)) (dv_of de_int)) (dss_cons (ds_par 7 4 (dsl_d (de_call G_law_drawn_table (hr.mono (by decide)) hgd (takes_of rfl rfl rfl rfl) g_law_drawn_table k_law_drawn_table b_law_drawn_table (da_src (i := 0) (da_cons de_int da_nil)) (al_src (al_cons al_nil)))) (dsl_l (dl_lst dds_nil)) rfl sc_law_pair.nd)
    (dss_cons (ds_for (passes_of rfl) rfl (di_seq (de_var 3)) (dg_name 5 sc_law_pair.nd) (dss_cons (ds_put 8 (dsl_d (de_tup (dds_cons (de_var 5) (dds_cons de_int (dds_cons de_int (dds_cons (de_var 5) dds_nil)))))) sc_law_pair.nd)
    (dss_cons (ds_for (passes_of rfl) rfl (di_range1 (dds_cons (de_call G_law_pick (hr.mono (by decide)) hgd (takes_of rfl rfl rfl rfl) g_law_pick k_law_pick b_law_pick (da_src (i := 0) (da_cons de_int da_nil)) (al_src (al_cons al_nil))) dds_nil) b_range) (dg_name 9 sc_law_pair.nd) (dss_one (ds_put 8 (dsl_d (de_call G_law_table_times (hr.mono (by decide)) hgd (takes_of rfl rfl rfl rfl) g_law_table_times k_law_table_times b_law_table_times (da_cons (de_var 8) (da_cons (de_var 7) da_nil)) (al_cons (al_cons al_nil)))) sc_law_pair.nd)))
    (dss_one (ds_append 4 (de_if (dt_cmp (or_eq (hu64 hr)) (dv_of (de_call G_law_pick (hr.mono (by decide)) hgd (takes_of rfl rfl rfl rfl) g_law_pick k_law_pick b_law_pick (da_src (i := 0) (da_cons de_int da_nil)) (al_src (al_cons al_nil)))) (dv_of de_int)) (de_var 8) (de_call G_law_table_undone (hr.mono (by decide)) hgd (takes_of rfl rfl rfl rfl) g_law_table_undone k_law_table_undone b_law_table_undone (da_cons (de_var 8) da_nil) (al_cons al_nil))))))))
    (dss_one (ds_frz 4 (ds_ret (de_var 4)))))) dss_nil)
    (dss_one (ds_ret (de_fz (dl_lst (dds_cons (de_call G_law_drawn_table (hr.mono (by decide)) hgd (takes_of rfl rfl rfl rfl) g_law_drawn_table k_law_drawn_table b_law_drawn_table (da_src (i := 0) (da_cons de_int da_nil)) (al_src (al_cons al_nil))) (dds_cons (de_call G_law_drawn_table (hr.mono (by decide)) hgd (takes_of rfl rfl rfl rfl) g_law_drawn_table k_law_drawn_table b_law_drawn_table (da_src (i := 0) (da_cons de_int da_nil)) (al_src (al_cons al_nil))) dds_nil))))))))))

abbrev s_law_due : Stmt := topS 29
abbrev N_law_due : List Str := ["one", "other", "some", "trace", "table"]
abbrev P_law_due : List Str := ["one", "other"]
theorem sc_law_due : FnScope N_law_due P_law_due (defScope s_law_due) := ⟨rfl, rfl, rfl, by decide +kernel, rfl, by decide +kernel, by decide +kernel⟩
noncomputable def m_law_due : Ms :=
    (mSeq (mIfS (mTst (mBin dNe (mApp F_law_k (mConsA (mApp F_law_triple (mConsA (mVar 0) (mConsA (mVar 1) mNil))) mNil)) (mC (.int 2)))) (mRet (mTup (mCons (mC (.str "none")) mNil))) mSkip)
    (mSeq (mPutZ 2 (mLc (mSq (mTup (mCons (mVar 0) (mCons (mVar 1) mNil)))) (.n 4) (mTst (mBin (dIn true) (mVar 4) (mTup (mCons (mTup (mCons (mC (.int 1)) (mCons (mC (.int 0)) (mCons (mC (.int 0)) (mCons (mC (.int 1)) mNil))))) (mCons (mTup (mCons (mUn dNeg (mC (.int 1))) (mCons (mC (.int 0)) (mCons (mC (.int 0)) (mCons (mUn dNeg (mC (.int 1))) mNil))))) mNil))))) (mVar 4) [4]))
    (mSeq (mIfS (mTst (mBin dEq (mVar 2) (mFz (mLst mNil)))) (mRet (mTup (mCons (mC (.str "every")) mNil))) mSkip)
    (mSeq (mPut 3 (mMap Sl.d (mBin dAdd (mBin dIx (mBin dIx (mVar 2) (mC (.int 0))) (mC (.int 0))) (mBin dIx (mBin dIx (mVar 2) (mC (.int 0))) (mC (.int 3))))))
    (mRet (mIf (mTst (mBin dEq (mCall dAbs (mCons (mVar 3) mNil)) (mC (.int 2)))) (mTup (mCons (mC (.str "one")) (mCons (mApp F_law_column (mConsA (mBin dIx (mVar 2) (mC (.int 0))) mNil)) mNil))) (mTup (mCons (mC (.str "root")) (mCons (mBin dSub (mBin dMul (mVar 3) (mVar 3)) (mC (.int 4))) mNil)))))))))
noncomputable def F_law_due : Fs := runF 5 m_law_due
theorem ok_law_due {fa : Addr} {fd : FuncData} (F : Fun K "_law_due" "_law_due" s_law_due fa fd) (b_abs : mg "abs" = none)
    {fa_law_column : Addr} {fd_law_column : FuncData} (G_law_column : FnG P w K mg base 1 fa_law_column fd_law_column P_law_column (spD mg K 1 F_law_column)) (g_law_column : mg "_law_column" = some (.ref fa_law_column)) (k_law_column : PySem.W.keepIn K (.ref fa_law_column) = true) (b_law_column : Binds K fd_law_column P_law_column [])
    {fa_law_k : Addr} {fd_law_k : FuncData} (G_law_k : FnG P w K mg base 1 fa_law_k fd_law_k P_law_k (spD mg K 1 F_law_k)) (g_law_k : mg "_law_k" = some (.ref fa_law_k)) (k_law_k : PySem.W.keepIn K (.ref fa_law_k) = true) (b_law_k : Binds K fd_law_k P_law_k [])
    {fa_law_triple : Addr} {fd_law_triple : FuncData} (G_law_triple : FnG P w K mg base 2 fa_law_triple fd_law_triple P_law_triple (spD mg K 2 F_law_triple)) (g_law_triple : mg "_law_triple" = some (.ref fa_law_triple)) (k_law_triple : PySem.W.keepIn K (.ref fa_law_triple) = true) (b_law_triple : Binds K fd_law_triple P_law_triple []) : FnG P w K mg base 3 fa fd P_law_due (spD mg K 2 F_law_due) :=
  fn_den F sc_law_due fun cdv A outer s H E hr hgd => by
    unfold m_law_due
    exact (dss_cons (ds_if (dt_cmp (or_ne (hu64 hr)) (dv_of (de_call G_law_k (hr.mono (by decide)) hgd (takes_of rfl rfl rfl rfl) g_law_k k_law_k b_law_k (da_cons (de_call G_law_triple (hr.mono (by decide)) hgd (takes_of rfl rfl rfl rfl) g_law_triple k_law_triple b_law_triple (da_cons (de_var 0) (da_cons (de_var 1) da_nil)) (al_cons (al_cons al_nil))) da_nil) (al_cons al_nil))) (dv_of de_int)) (dss_one (ds_ret (de_tup (dds_cons de_str dds_nil)))) dss_nil)
    (dss_cons (ds_lcZ 2 [("table", 4)] (dj_seq (dv_of (de_tup (dds_cons (de_var 0) (dds_cons (de_var 1) dds_nil))))) rfl sc_law_due.nd (by rfl) (fun _ _ _ _ _ => (dg_name 4 sc_law_due.nd)) (fun _ _ _ _ _ => (dts_one (dt_cmp (or_notIn (hu65 hr)) (dv_of (de_var 4)) (dv_of (de_tup (dds_cons (de_tup (dds_cons de_int (dds_cons de_int (dds_cons de_int (dds_cons de_int dds_nil))))) (dds_cons (de_tup (dds_cons (de_un ur_neg (dv_of de_int)) (dds_cons de_int (dds_cons de_int (dds_cons (de_un ur_neg (dv_of de_int)) dds_nil))))) dds_nil))))))) (fun _ _ _ _ _ => (de_var 4)) (sw_true rfl rfl rfl (by decide +kernel)))
    (dss_cons (ds_if (dt_cmp (or_eq (hu64 hr)) (dv_of (de_var 2)) (dv_of (de_fz (dl_lst dds_nil)))) (dss_one (ds_ret (de_tup (dds_cons de_str dds_nil)))) dss_nil)
    (dss_cons (ds_put 3 (dsl_d (de_bin or_add (dv_of (de_ix (dv_of (de_ix (dv_of (de_var 2)) (dv_of de_int))) (dv_of de_int))) (dv_of (de_ix (dv_of (de_ix (dv_of (de_var 2)) (dv_of de_int))) (dv_of de_int))))) sc_law_due.nd)
    (dss_one (ds_ret (de_if (dt_cmp (or_eq (hu64 hr)) (dv_of (de_callB cr_abs b_abs (by decide +kernel) (dvs_cons (dv_of (de_var 3)) dvs_nil))) (dv_of de_int)) (de_tup (dds_cons de_str (dds_cons (de_call G_law_column (hr.mono (by decide)) hgd (takes_of rfl rfl rfl rfl) g_law_column k_law_column b_law_column (da_cons (de_ix (dv_of (de_var 2)) (dv_of de_int)) da_nil) (al_cons al_nil)) dds_nil))) (de_tup (dds_cons de_str (dds_cons (de_bin or_sub (dv_of (de_bin or_mul (dv_of (de_var 3)) (dv_of (de_var 3)))) (dv_of de_int)) dds_nil))))))))))

abbrev s_law_is_table : Stmt := topS 30
abbrev N_law_is_table : List Str := ["value", "one"]
abbrev P_law_is_table : List Str := ["value"]
theorem sc_law_is_table : FnScope N_law_is_table P_law_is_table (defScope s_law_is_table) := ⟨rfl, rfl, rfl, by decide +kernel, rfl, by decide +kernel, by decide +kernel⟩
noncomputable def m_law_is_table : Ms :=
    (mSeq (mIfS (mOrT (mNotT (mTst (mIsi "tuple" (mVar 0)))) (mTst (mBin dNe (mCall dLen (mCons (mVar 0) mNil)) (mC (.int 4))))) (mRet (mC (.bool false))) mSkip)
    (mSeq (mIfS (mTst (mBin dNe (mFz (mLc (mSq (mVar 0)) (.n 1) (mOrT (mNotT (mTst (mIsi "int" (mVar 1)))) (mTst (mIsi "bool" (mVar 1)))) (mVar 1) [1])) (mFz (mLst mNil)))) (mRet (mC (.bool false))) mSkip)
    (mRet (mBin dEq (mBin dSub (mBin dMul (mBin dIx (mVar 0) (mC (.int 0))) (mBin dIx (mVar 0) (mC (.int 3)))) (mBin dMul (mBin dIx (mVar 0) (mC (.int 1))) (mBin dIx (mVar 0) (mC (.int 2))))) (mC (.int 1))))))
noncomputable def F_law_is_table : Fs := runF 2 m_law_is_table
theorem ok_law_is_table {fa : Addr} {fd : FuncData} (F : Fun K "_law_is_table" "_law_is_table" s_law_is_table fa fd) (b_bool : mg "bool" = none)
    (b_int : mg "int" = none)
    (b_isinstance : mg "isinstance" = none)
    (b_len : mg "len" = none)
    (b_tuple : mg "tuple" = none) : FnG P w K mg base 1 fa fd P_law_is_table (spD mg K 1 F_law_is_table) :=
  fn_den F sc_law_is_table fun cdv A outer s H E hr hgd => by
    unfold m_law_is_table
    exact (dss_cons (ds_if (dt_w (dw_or (dt_not (dt_val (de_isi kn_tuple (dv_of (de_var 0)) b_isinstance b_tuple (by decide +kernel)))) (dw_or1 (dt_cmp (or_ne (hu64 hr)) (dv_of (de_callB cr_len b_len PySem.boot_len (dvs_cons (dv_of (de_var 0)) dvs_nil))) (dv_of de_int))))) (dss_one (ds_ret de_bl)) dss_nil)
    (dss_cons (ds_if (dt_cmp (or_ne (hu64 hr)) (dv_of (de_fz (dl_lc [("one", 1)] (dj_seq (dv_of (de_var 0))) rfl sc_law_is_table.nd (by rfl) (fun _ _ _ _ _ => (dg_name 1 sc_law_is_table.nd)) (fun _ _ _ _ _ => (dts_one (dt_w (dw_or (dt_not (dt_val (de_isi kn_int (dv_of (de_var 1)) b_isinstance b_int (by decide +kernel)))) (dw_or1 (dt_val (de_isi kn_bool (dv_of (de_var 1)) b_isinstance b_bool (by decide +kernel)))))))) (fun _ _ _ _ _ => (de_var 1))))) (dv_of (de_fz (dl_lst dds_nil)))) (dss_one (ds_ret de_bl)) dss_nil)
    (dss_one (ds_ret (de_cmp (or_eq (hu64 hr)) (dv_of (de_bin or_sub (dv_of (de_bin or_mul (dv_of (de_ix (dv_of (de_var 0)) (dv_of de_int))) (dv_of (de_ix (dv_of (de_var 0)) (dv_of de_int))))) (dv_of (de_bin or_mul (dv_of (de_ix (dv_of (de_var 0)) (dv_of de_int))) (dv_of (de_ix (dv_of (de_var 0)) (dv_of de_int))))))) (dv_of de_int))))))

abbrev s_law : Stmt := topS 31
abbrev N_law : List Str := ["script", "source", "turn", "one", "other", "told", "triple", "k", "turned", "some", "column", "both", "lead", "late", "odd", "value", "u"]
abbrev P_law : List Str := ["script"]
theorem sc_law : FnScope N_law P_law (defScope s_law) := ⟨rfl, rfl, rfl, by decide +kernel, rfl, by decide +kernel, by decide +kernel⟩
noncomputable def L_1_1 : Ms :=
    (mBind (.t [(.n 3), (.n 4)]) (mApp F_law_pair (mConsS 1 mNil)))
noncomputable def L_1_2 : Ms :=
    (mPar 5 6 (mMap Sl.d (mApp F_line_told (mConsA (mTup (mCons (mVar 3) (mCons (mVar 4) mNil))) mNil))) (mMap Sl.d (mApp F_law_triple (mConsA (mVar 3) (mConsA (mVar 4) mNil)))))
noncomputable def L_1_3 : Ms :=
    (mIfS (mOrT (mTst (mBin dNe (mCall dRepr (mCons (mVar 5) mNil)) (mCall dRepr (mCons (mApp F_law_due (mConsA (mVar 3) (mConsA (mVar 4) mNil))) mNil)))) (mTst (mBin dNe (mCall dRepr (mCons (mApp F_traced (mConsA (mTup (mCons (mVar 3) (mCons (mVar 4) mNil))) mNil)) mNil)) (mCall dRepr (mCons (mVar 6) mNil))))) (mRet (mC (.bool false))) mSkip)
noncomputable def L_1_4 : Ms :=
    (mPut 7 (mMap Sl.d (mApp F_law_k (mConsA (mVar 6) mNil))))
noncomputable def L_1_5 : Ms :=
    (mPut 8 (mMap Sl.d (mApp F_law_table_times (mConsA (mApp F_law_table_times (mConsA (mVar 3) (mConsA (mVar 4) mNil))) (mConsA (mApp F_law_table_undone (mConsA (mApp F_law_table_times (mConsA (mVar 4) (mConsA (mVar 3) mNil))) mNil)) mNil)))))
noncomputable def L_1_6 : Ms :=
    (mIfS (mOrT (mTst (mBin dNe (mApp F_k_of (mConsA (mVar 6) mNil)) (mVar 7))) (mTst (mBin dNe (mBin dAdd (mBin dIx (mVar 8) (mC (.int 0))) (mBin dIx (mVar 8) (mC (.int 3)))) (mVar 7)))) (mRet (mC (.bool false))) mSkip)
noncomputable def L_1_7 : Ms :=
    (mIfS (mAndT (mTst (mBin dEq (mBin dIx (mVar 5) (mC (.int 0))) (mC (.str "one")))) (mNotT (mAndT (mTst (mApp F_law_is_kept (mConsA (mVar 3) (mConsA (mBin dIx (mVar 5) (mC (.int 1))) mNil)))) (mTst (mApp F_law_is_kept (mConsA (mVar 4) (mConsA (mBin dIx (mVar 5) (mC (.int 1))) mNil))))))) (mRet (mC (.bool false))) mSkip)
noncomputable def L_1_8 : Ms :=
    (mIfS (mAndT (mTst (mBin dEq (mBin dIx (mVar 5) (mC (.int 0))) (mC (.str "root")))) (mTst (mBin dNe (mApp F_law_table_times (mConsA (mVar 3) (mConsA (mVar 4) mNil))) (mApp F_law_table_times (mConsA (mVar 4) (mConsA (mVar 3) mNil)))))) (mRet (mC (.bool false))) mSkip)
noncomputable def L_1_9_1 : Ms :=
    (mPut 9 (mMap Sl.d (mBin dAdd (mFz (mLst (mCons (mTup (mCons (mC (.int 1)) (mCons (mC (.int 0)) mNil))) mNil))) (mFz (mLc (mRg2J (mCons (mUn dNeg (mC (.int 3))) (mCons (mC (.int 4)) mNil))) (.n 16) mYes (mTup (mCons (mVar 16) (mCons (mC (.int 1)) mNil))) [16])))))
noncomputable def L_1_9_2_1 : Ms :=
    (mPut 11 (mMap Sl.d (mAnd (mApp F_law_is_kept (mConsA (mVar 3) (mConsA (mVar 10) mNil))) (mApp F_law_is_kept (mConsA (mVar 4) (mConsA (mVar 10) mNil))))))
noncomputable def L_1_9_2_2 : Ms :=
    (mIfS (mAndT (mTst (mVar 11)) (mOrT (mTst (mBin dEq (mBin dIx (mVar 5) (mC (.int 0))) (mC (.str "none")))) (mTst (mBin dNe (mBin dMul (mBin dIx (mBin dIx (mVar 5) (mC (.int 1))) (mC (.int 0))) (mBin dIx (mVar 10) (mC (.int 1)))) (mBin dMul (mBin dIx (mBin dIx (mVar 5) (mC (.int 1))) (mC (.int 1))) (mBin dIx (mVar 10) (mC (.int 0)))))))) (mRet (mC (.bool false))) mSkip)
noncomputable def L_1_9_2b : Ms :=
    (mSeq L_1_9_2_1
    L_1_9_2_2)
noncomputable def L_1_9_2 : Ms :=
    (mFor (mSq (mVar 9)) (.n 10)
    L_1_9_2b)
noncomputable def L_1_9b : Ms :=
    (mSeq L_1_9_1
    L_1_9_2)
noncomputable def L_1_9 : Ms :=
    (mIfS (mTst (mBin (dIn false) (mBin dIx (mVar 5) (mC (.int 0))) (mTup (mCons (mC (.str "none")) (mCons (mC (.str "one")) mNil))))) L_1_9b mSkip)
noncomputable def L_1_10 : Ms :=
    (mPut 12 (mMap Sl.d (mApp F_law_drawn_table (mConsS 1 (mConsA (mC (.int 2)) mNil)))))
noncomputable def L_1_11 : Ms :=
    (mPut 13 (mMap Sl.d (mApp F_line_told (mConsA (mTup (mCons (mApp F_law_led (mConsA (mVar 12) (mConsA (mVar 3) mNil))) (mCons (mApp F_law_led (mConsA (mVar 12) (mConsA (mVar 4) mNil))) mNil))) mNil))))
noncomputable def L_1_12 : Ms :=
    (mIfS (mOrT (mTst (mBin dNe (mBin dIx (mVar 13) (mC (.int 0))) (mBin dIx (mVar 5) (mC (.int 0))))) (mAndT (mTst (mBin dEq (mBin dIx (mVar 5) (mC (.int 0))) (mC (.str "root")))) (mTst (mBin dNe (mVar 13) (mVar 5))))) (mRet (mC (.bool false))) mSkip)
noncomputable def L_1_13 : Ms :=
    (mPut 14 (mMap Sl.d (mFz (mLst (mCons (mVar 3) (mCons (mFz (mCallL dListL (mCons (mVar 3) mNil))) (mCons (mSl (mVar 3) mNone (mSome (mC (.int 3)))) (mCons (mBin dAdd (mSl (mVar 3) mNone (mSome (mC (.int 3)))) (mTup (mCons (mBin dAdd (mBin dIx (mVar 3) (mC (.int 3))) (mC (.int 1))) mNil))) (mCons (mTup (mCons (mC (.int 1)) (mCons (mC (.int 0)) (mCons (mC (.int 0)) (mCons (mC (.bool true)) mNil))))) (mCons (mC .none) (mCons (mTup (mCons (mVar 3) (mCons (mVar 4) mNil))) mNil)))))))))))
noncomputable def L_1_14_1 : Ms :=
    (mIfS (mTst (mBin dNe (mCall dRepr (mCons (mApp F_is_table (mConsA (mVar 15) mNil)) mNil)) (mCall dRepr (mCons (mApp F_law_is_table (mConsA (mVar 15) mNil)) mNil)))) (mRet (mC (.bool false))) mSkip)
noncomputable def L_1_14 : Ms :=
    (mFor (mSq (mVar 14)) (.n 15)
    L_1_14_1)
noncomputable def L_1_15 : Ms :=
    (mPut 14 (mMap Sl.d (mFz (mLst (mCons (mTup (mCons (mVar 3) (mCons (mVar 4) mNil))) (mCons (mFz (mLst (mCons (mVar 3) (mCons (mVar 4) mNil)))) (mCons (mTup (mCons (mVar 3) mNil)) (mCons (mTup (mCons (mVar 3) (mCons (mSl (mVar 3) mNone (mSome (mC (.int 3)))) mNil))) (mCons (mC .none) mNil)))))))))
noncomputable def L_1_16 : Ms :=
    (mIfS (mTst (mBin dNe (mFz (mLc (mSq (mVar 14)) (.n 15) mYes (mApp F_is_pair (mConsA (mVar 15) mNil)) [15])) (mBin dAdd (mFz (mLst (mCons (mC (.bool true)) mNil))) (mBin dMul (mFz (mLst (mCons (mC (.bool false)) mNil))) (mC (.int 4)))))) (mRet (mC (.bool false))) mSkip)
noncomputable def L_1b : Ms :=
    (mSeq L_1_1
    (mSeq L_1_2
    (mSeq L_1_3
    (mSeq L_1_4
    (mSeq L_1_5
    (mSeq L_1_6
    (mSeq L_1_7
    (mSeq L_1_8
    (mSeq L_1_9
    (mSeq L_1_10
    (mSeq L_1_11
    (mSeq L_1_12
    (mSeq L_1_13
    (mSeq L_1_14
    (mSeq L_1_15
    L_1_16)))))))))))))))
noncomputable def L_1 : Ms :=
    (mFor (mRg1 (mCons (mC (.int 5)) mNil)) (.n 2)
    L_1b)
noncomputable def L_2 : Ms :=
    (mPut 5 (mMap Sl.d (mFz (mLst (mCons (mApp F_line_told (mConsA (mTup (mCons (mTup (mCons (mC (.int 1)) (mCons (mC (.int 1)) (mCons (mC (.int 0)) (mCons (mC (.int 1)) mNil))))) (mCons (mTup (mCons (mC (.int 1)) (mCons (mC (.int 5)) (mCons (mC (.int 0)) (mCons (mC (.int 1)) mNil))))) mNil))) mNil)) (mCons (mApp F_line_told (mConsA (mTup (mCons (mTup (mCons (mC (.int 2)) (mCons (mC (.int 1)) (mCons (mC (.int 1)) (mCons (mC (.int 1)) mNil))))) (mCons (mTup (mCons (mC (.int 2)) (mCons (mC (.int 1)) (mCons (mC (.int 1)) (mCons (mC (.int 1)) mNil))))) mNil))) mNil)) mNil))))))
noncomputable def L_3 : Ms :=
    (mRet (mBin dEq (mCall dRepr (mCons (mVar 5) mNil)) (mCall dRepr (mCons (mFz (mLst (mCons (mTup (mCons (mC (.str "one")) (mCons (mTup (mCons (mC (.int 1)) (mCons (mC (.int 0)) mNil))) mNil))) (mCons (mTup (mCons (mC (.str "root")) (mCons (mC (.int 5)) mNil))) mNil)))) mNil))))
noncomputable def Lb : Ms :=
    (mSeq L_1
    (mSeq L_2
    L_3))
noncomputable def m_law : Ms :=
    Lb
theorem ok_law {fa : Addr} {fd : FuncData} (F : Fun K "law" "law" s_law fa fd) (b_list : mg "list" = none)
    (b_range : mg "range" = none)
    (b_repr : mg "repr" = none)
    {fa_law_drawn_table : Addr} {fd_law_drawn_table : FuncData} (G_law_drawn_table : FnG P w K mg base 3 fa_law_drawn_table fd_law_drawn_table P_law_drawn_table (spD mg K 2 F_law_drawn_table)) (g_law_drawn_table : mg "_law_drawn_table" = some (.ref fa_law_drawn_table)) (k_law_drawn_table : PySem.W.keepIn K (.ref fa_law_drawn_table) = true) (b_law_drawn_table : Binds K fd_law_drawn_table P_law_drawn_table [])
    {fa_law_due : Addr} {fd_law_due : FuncData} (G_law_due : FnG P w K mg base 3 fa_law_due fd_law_due P_law_due (spD mg K 2 F_law_due)) (g_law_due : mg "_law_due" = some (.ref fa_law_due)) (k_law_due : PySem.W.keepIn K (.ref fa_law_due) = true) (b_law_due : Binds K fd_law_due P_law_due [])
    {fa_law_is_kept : Addr} {fd_law_is_kept : FuncData} (G_law_is_kept : FnG P w K mg base 1 fa_law_is_kept fd_law_is_kept P_law_is_kept (spD mg K 2 F_law_is_kept)) (g_law_is_kept : mg "_law_is_kept" = some (.ref fa_law_is_kept)) (k_law_is_kept : PySem.W.keepIn K (.ref fa_law_is_kept) = true) (b_law_is_kept : Binds K fd_law_is_kept P_law_is_kept [])
    {fa_law_is_table : Addr} {fd_law_is_table : FuncData} (G_law_is_table : FnG P w K mg base 1 fa_law_is_table fd_law_is_table P_law_is_table (spD mg K 1 F_law_is_table)) (g_law_is_table : mg "_law_is_table" = some (.ref fa_law_is_table)) (k_law_is_table : PySem.W.keepIn K (.ref fa_law_is_table) = true) (b_law_is_table : Binds K fd_law_is_table P_law_is_table [])
    {fa_law_k : Addr} {fd_law_k : FuncData} (G_law_k : FnG P w K mg base 1 fa_law_k fd_law_k P_law_k (spD mg K 1 F_law_k)) (g_law_k : mg "_law_k" = some (.ref fa_law_k)) (k_law_k : PySem.W.keepIn K (.ref fa_law_k) = true) (b_law_k : Binds K fd_law_k P_law_k [])
    {fa_law_led : Addr} {fd_law_led : FuncData} (G_law_led : FnG P w K mg base 2 fa_law_led fd_law_led P_law_led (spD mg K 2 F_law_led)) (g_law_led : mg "_law_led" = some (.ref fa_law_led)) (k_law_led : PySem.W.keepIn K (.ref fa_law_led) = true) (b_law_led : Binds K fd_law_led P_law_led [])
    {fa_law_pair : Addr} {fd_law_pair : FuncData} (G_law_pair : FnG P w K mg base 4 fa_law_pair fd_law_pair P_law_pair (spD mg K 1 F_law_pair)) (g_law_pair : mg "_law_pair" = some (.ref fa_law_pair)) (k_law_pair : PySem.W.keepIn K (.ref fa_law_pair) = true) (b_law_pair : Binds K fd_law_pair P_law_pair [])
    {fa_law_table_times : Addr} {fd_law_table_times : FuncData} (G_law_table_times : FnG P w K mg base 1 fa_law_table_times fd_law_table_times P_law_table_times (spD mg K 2 F_law_table_times)) (g_law_table_times : mg "_law_table_times" = some (.ref fa_law_table_times)) (k_law_table_times : PySem.W.keepIn K (.ref fa_law_table_times) = true) (b_law_table_times : Binds K fd_law_table_times P_law_table_times [])
    {fa_law_table_undone : Addr} {fd_law_table_undone : FuncData} (G_law_table_undone : FnG P w K mg base 1 fa_law_table_undone fd_law_table_undone P_law_table_undone (spD mg K 1 F_law_table_undone)) (g_law_table_undone : mg "_law_table_undone" = some (.ref fa_law_table_undone)) (k_law_table_undone : PySem.W.keepIn K (.ref fa_law_table_undone) = true) (b_law_table_undone : Binds K fd_law_table_undone P_law_table_undone [])
    {fa_law_triple : Addr} {fd_law_triple : FuncData} (G_law_triple : FnG P w K mg base 2 fa_law_triple fd_law_triple P_law_triple (spD mg K 2 F_law_triple)) (g_law_triple : mg "_law_triple" = some (.ref fa_law_triple)) (k_law_triple : PySem.W.keepIn K (.ref fa_law_triple) = true) (b_law_triple : Binds K fd_law_triple P_law_triple [])
    {fa_is_pair : Addr} {fd_is_pair : FuncData} (G_is_pair : FnG P w K mg base 3 fa_is_pair fd_is_pair P_is_pair (spD mg K 1 F_is_pair)) (g_is_pair : mg "is_pair" = some (.ref fa_is_pair)) (k_is_pair : PySem.W.keepIn K (.ref fa_is_pair) = true) (b_is_pair : Binds K fd_is_pair P_is_pair [])
    {fa_is_table : Addr} {fd_is_table : FuncData} (G_is_table : FnG P w K mg base 2 fa_is_table fd_is_table P_is_table (spD mg K 1 F_is_table)) (g_is_table : mg "is_table" = some (.ref fa_is_table)) (k_is_table : PySem.W.keepIn K (.ref fa_is_table) = true) (b_is_table : Binds K fd_is_table P_is_table [])
    {fa_k_of : Addr} {fd_k_of : FuncData} (G_k_of : FnG P w K mg base 1 fa_k_of fd_k_of P_k_of (spD mg K 1 F_k_of)) (g_k_of : mg "k_of" = some (.ref fa_k_of)) (k_k_of : PySem.W.keepIn K (.ref fa_k_of) = true) (b_k_of : Binds K fd_k_of P_k_of [])
    {fa_line_told : Addr} {fd_line_told : FuncData} (G_line_told : FnG P w K mg base 3 fa_line_told fd_line_told P_line_told (spD mg K 1 F_line_told)) (g_line_told : mg "line_told" = some (.ref fa_line_told)) (k_line_told : PySem.W.keepIn K (.ref fa_line_told) = true) (b_line_told : Binds K fd_line_told P_line_told [])
    {fa_traced : Addr} {fd_traced : FuncData} (G_traced : FnG P w K mg base 2 fa_traced fd_traced P_traced (spD mg K 1 F_traced)) (g_traced : mg "traced" = some (.ref fa_traced)) (k_traced : PySem.W.keepIn K (.ref fa_traced) = true) (b_traced : Binds K fd_traced P_traced [])
    {fa_law_source : Addr} {fd_law_source : FuncData} (G_law_source : FnG P w K mg base 1 fa_law_source fd_law_source P_law_source (spSrc K)) (g_law_source : mg "_law_source" = some (.ref fa_law_source)) (k_law_source : PySem.W.keepIn K (.ref fa_law_source) = true) (b_law_source : Binds K fd_law_source P_law_source [])
    (math : ∀ ns : List Int, ns.length ≤ 63 → ∃ s, m_law (eLaw N_law.length 1) (src0 ns) = .rt (.bool true) s) : FnG P w K mg base 5 fa fd P_law (spLaw K 63) :=
  law_den 1 F sc_law rfl (by decide) (by decide) (by decide)
    (fun cdv A outer s H E hr hgd => ps_set (i := 1) sc_law.nd rfl (by first | exact Or.inl rfl | exact Or.inr rfl) (pe_callG (sp := spSrc K) (t := tCons (tVar 0) tNil) (W := W0) G_law_source (hr.mono (by decide)) hgd takes0 g_law_source k_law_source b_law_source (pa_cons (pv 0) pa_nil)))
    (fun cdv A outer s H E hr hgd => by
      unfold m_law
      exact (dss_cons (ds_for (passes_of rfl) rfl (di_range1 (dds_cons de_int dds_nil) b_range) (dg_name 2 sc_law.nd) (dss_cons (ds_bind (de_call G_law_pair (hr.mono (by decide)) hgd (takes_of rfl rfl rfl rfl) g_law_pair k_law_pair b_law_pair (da_src (i := 1) da_nil) (al_src al_nil)) (dg_tup (dgs_cons (dg_name 3 sc_law.nd) (dgs_cons (dg_name 4 sc_law.nd) dgs_nil)) rfl))
    (dss_cons (ds_par 5 6 (dsl_d (de_call G_line_told (hr.mono (by decide)) hgd (takes_of rfl rfl rfl rfl) g_line_told k_line_told b_line_told (da_cons (de_tup (dds_cons (de_var 3) (dds_cons (de_var 4) dds_nil))) da_nil) (al_cons al_nil))) (dsl_d (de_call G_law_triple (hr.mono (by decide)) hgd (takes_of rfl rfl rfl rfl) g_law_triple k_law_triple b_law_triple (da_cons (de_var 3) (da_cons (de_var 4) da_nil)) (al_cons (al_cons al_nil)))) rfl sc_law.nd)
    (dss_cons (ds_if (dt_w (dw_or (dt_cmp (or_ne (hu64 hr)) (dv_of (de_callB (cr_repr hgd (hu70 hr)) b_repr (by decide +kernel) (dvs_cons (dv_of (de_var 5)) dvs_nil))) (dv_of (de_callB (cr_repr hgd (hu70 hr)) b_repr (by decide +kernel) (dvs_cons (dv_of (de_call G_law_due (hr.mono (by decide)) hgd (takes_of rfl rfl rfl rfl) g_law_due k_law_due b_law_due (da_cons (de_var 3) (da_cons (de_var 4) da_nil)) (al_cons (al_cons al_nil)))) dvs_nil)))) (dw_or1 (dt_cmp (or_ne (hu64 hr)) (dv_of (de_callB (cr_repr hgd (hu70 hr)) b_repr (by decide +kernel) (dvs_cons (dv_of (de_call G_traced (hr.mono (by decide)) hgd (takes_of rfl rfl rfl rfl) g_traced k_traced b_traced (da_cons (de_tup (dds_cons (de_var 3) (dds_cons (de_var 4) dds_nil))) da_nil) (al_cons al_nil))) dvs_nil))) (dv_of (de_callB (cr_repr hgd (hu70 hr)) b_repr (by decide +kernel) (dvs_cons (dv_of (de_var 6)) dvs_nil))))))) (dss_one (ds_ret de_bl)) dss_nil)
    (dss_cons (ds_put 7 (dsl_d (de_call G_law_k (hr.mono (by decide)) hgd (takes_of rfl rfl rfl rfl) g_law_k k_law_k b_law_k (da_cons (de_var 6) da_nil) (al_cons al_nil))) sc_law.nd)
    (dss_cons (ds_put 8 (dsl_d (de_call G_law_table_times (hr.mono (by decide)) hgd (takes_of rfl rfl rfl rfl) g_law_table_times k_law_table_times b_law_table_times (da_cons (de_call G_law_table_times (hr.mono (by decide)) hgd (takes_of rfl rfl rfl rfl) g_law_table_times k_law_table_times b_law_table_times (da_cons (de_var 3) (da_cons (de_var 4) da_nil)) (al_cons (al_cons al_nil))) (da_cons (de_call G_law_table_undone (hr.mono (by decide)) hgd (takes_of rfl rfl rfl rfl) g_law_table_undone k_law_table_undone b_law_table_undone (da_cons (de_call G_law_table_times (hr.mono (by decide)) hgd (takes_of rfl rfl rfl rfl) g_law_table_times k_law_table_times b_law_table_times (da_cons (de_var 4) (da_cons (de_var 3) da_nil)) (al_cons (al_cons al_nil))) da_nil) (al_cons al_nil)) da_nil)) (al_cons (al_cons al_nil)))) sc_law.nd)
    (dss_cons (ds_if (dt_w (dw_or (dt_cmp (or_ne (hu64 hr)) (dv_of (de_call G_k_of (hr.mono (by decide)) hgd (takes_of rfl rfl rfl rfl) g_k_of k_k_of b_k_of (da_cons (de_var 6) da_nil) (al_cons al_nil))) (dv_of (de_var 7))) (dw_or1 (dt_cmp (or_ne (hu64 hr)) (dv_of (de_bin or_add (dv_of (de_ix (dv_of (de_var 8)) (dv_of de_int))) (dv_of (de_ix (dv_of (de_var 8)) (dv_of de_int))))) (dv_of (de_var 7)))))) (dss_one (ds_ret de_bl)) dss_nil)
    (dss_cons (ds_if (dt_w (dw_and (dt_cmp (or_eq (hu64 hr)) (dv_of (de_ix (dv_of (de_var 5)) (dv_of de_int))) (dv_of de_str)) (dw_and1 (dt_not (dt_w (dw_and (dt_val (de_call G_law_is_kept (hr.mono (by decide)) hgd (takes_of rfl rfl rfl rfl) g_law_is_kept k_law_is_kept b_law_is_kept (da_cons (de_var 3) (da_cons (de_ix (dv_of (de_var 5)) (dv_of de_int)) da_nil)) (al_cons (al_cons al_nil)))) (dw_and1 (dt_val (de_call G_law_is_kept (hr.mono (by decide)) hgd (takes_of rfl rfl rfl rfl) g_law_is_kept k_law_is_kept b_law_is_kept (da_cons (de_var 4) (da_cons (de_ix (dv_of (de_var 5)) (dv_of de_int)) da_nil)) (al_cons (al_cons al_nil))))))))))) (dss_one (ds_ret de_bl)) dss_nil)
    (dss_cons (ds_if (dt_w (dw_and (dt_cmp (or_eq (hu64 hr)) (dv_of (de_ix (dv_of (de_var 5)) (dv_of de_int))) (dv_of de_str)) (dw_and1 (dt_cmp (or_ne (hu64 hr)) (dv_of (de_call G_law_table_times (hr.mono (by decide)) hgd (takes_of rfl rfl rfl rfl) g_law_table_times k_law_table_times b_law_table_times (da_cons (de_var 3) (da_cons (de_var 4) da_nil)) (al_cons (al_cons al_nil)))) (dv_of (de_call G_law_table_times (hr.mono (by decide)) hgd (takes_of rfl rfl rfl rfl) g_law_table_times k_law_table_times b_law_table_times (da_cons (de_var 4) (da_cons (de_var 3) da_nil)) (al_cons (al_cons al_nil)))))))) (dss_one (ds_ret de_bl)) dss_nil)
    (dss_cons (ds_if (dt_cmp (or_in (hu65 hr)) (dv_of (de_ix (dv_of (de_var 5)) (dv_of de_int))) (dv_of (de_tup (dds_cons de_str (dds_cons de_str dds_nil))))) (dss_cons (ds_put 9 (dsl_d (de_bin or_add (dv_of (de_fz (dl_lst (dds_cons (de_tup (dds_cons de_int (dds_cons de_int dds_nil))) dds_nil)))) (dv_of (de_fz (dl_lc [("u", 16)] (dj_range2 (dds_cons (de_un ur_neg (dv_of de_int)) (dds_cons de_int dds_nil)) b_range) rfl sc_law.nd (by rfl) (fun _ _ _ _ _ => (dg_name 16 sc_law.nd)) (fun _ _ _ _ _ => dts_nil) (fun _ _ _ _ _ => (de_tup (dds_cons (de_var 16) (dds_cons de_int dds_nil))))))))) sc_law.nd)
    (dss_one (ds_for (passes_of rfl) rfl (di_seq (de_var 9)) (dg_name 10 sc_law.nd) (dss_cons (ds_put 11 (dsl_d (de_and (de_call G_law_is_kept (hr.mono (by decide)) hgd (takes_of rfl rfl rfl rfl) g_law_is_kept k_law_is_kept b_law_is_kept (da_cons (de_var 3) (da_cons (de_var 10) da_nil)) (al_cons (al_cons al_nil))) (de_one (de_call G_law_is_kept (hr.mono (by decide)) hgd (takes_of rfl rfl rfl rfl) g_law_is_kept k_law_is_kept b_law_is_kept (da_cons (de_var 4) (da_cons (de_var 10) da_nil)) (al_cons (al_cons al_nil)))))) sc_law.nd)
    (dss_one (ds_if (dt_w (dw_and (dt_val (de_var 11)) (dw_and1 (dt_w (dw_or (dt_cmp (or_eq (hu64 hr)) (dv_of (de_ix (dv_of (de_var 5)) (dv_of de_int))) (dv_of de_str)) (dw_or1 (dt_cmp (or_ne (hu64 hr)) (dv_of (de_bin or_mul (dv_of (de_ix (dv_of (de_ix (dv_of (de_var 5)) (dv_of de_int))) (dv_of de_int))) (dv_of (de_ix (dv_of (de_var 10)) (dv_of de_int))))) (dv_of (de_bin or_mul (dv_of (de_ix (dv_of (de_ix (dv_of (de_var 5)) (dv_of de_int))) (dv_of de_int))) (dv_of (de_ix (dv_of (de_var 10)) (dv_of de_int)))))))))))) (dss_one (ds_ret de_bl)) dss_nil)))))) dss_nil)
    (dss_cons (ds_put 12 (dsl_d (de_call G_law_drawn_table (hr.mono (by decide)) hgd (takes_of rfl rfl rfl rfl) g_law_drawn_table k_law_drawn_table b_law_drawn_table (da_src (i := 1) (da_cons de_int da_nil)) (al_src (al_cons al_nil)))) sc_law.nd)
    (dss_cons (ds_put 13 (dsl_d (de_call G_line_told (hr.mono (by decide)) hgd (takes_of rfl rfl rfl rfl) g_line_told k_line_told b_line_told (da_cons (de_tup (dds_cons (de_call G_law_led (hr.mono (by decide)) hgd (takes_of rfl rfl rfl rfl) g_law_led k_law_led b_law_led (da_cons (de_var 12) (da_cons (de_var 3) da_nil)) (al_cons (al_cons al_nil))) (dds_cons (de_call G_law_led (hr.mono (by decide)) hgd (takes_of rfl rfl rfl rfl) g_law_led k_law_led b_law_led (da_cons (de_var 12) (da_cons (de_var 4) da_nil)) (al_cons (al_cons al_nil))) dds_nil))) da_nil) (al_cons al_nil))) sc_law.nd)
    (dss_cons (ds_if (dt_w (dw_or (dt_cmp (or_ne (hu64 hr)) (dv_of (de_ix (dv_of (de_var 13)) (dv_of de_int))) (dv_of (de_ix (dv_of (de_var 5)) (dv_of de_int)))) (dw_or1 (dt_w (dw_and (dt_cmp (or_eq (hu64 hr)) (dv_of (de_ix (dv_of (de_var 5)) (dv_of de_int))) (dv_of de_str)) (dw_and1 (dt_cmp (or_ne (hu64 hr)) (dv_of (de_var 13)) (dv_of (de_var 5))))))))) (dss_one (ds_ret de_bl)) dss_nil)
    (dss_cons (ds_put 14 (dsl_d (de_fz (dl_lst (dds_cons (de_var 3) (dds_cons (de_fz (dl_callTy cl_list b_list (by decide +kernel) (dvs_cons (dv_of (de_var 3)) dvs_nil))) (dds_cons (de_slice (dv_of (de_var 3)) do_none (do_some de_int)) (dds_cons (de_bin or_add (dv_of (de_slice (dv_of (de_var 3)) do_none (do_some de_int))) (dv_of (de_tup (dds_cons (de_bin or_add (dv_of (de_ix (dv_of (de_var 3)) (dv_of de_int))) (dv_of de_int)) dds_nil)))) (dds_cons (de_tup (dds_cons de_int (dds_cons de_int (dds_cons de_int (dds_cons de_bl dds_nil))))) (dds_cons de_non (dds_cons (de_tup (dds_cons (de_var 3) (dds_cons (de_var 4) dds_nil))) dds_nil)))))))))) sc_law.nd)
    (dss_cons (ds_for (passes_of rfl) rfl (di_seq (de_var 14)) (dg_name 15 sc_law.nd) (dss_one (ds_if (dt_cmp (or_ne (hu64 hr)) (dv_of (de_callB (cr_repr hgd (hu70 hr)) b_repr (by decide +kernel) (dvs_cons (dv_of (de_call G_is_table (hr.mono (by decide)) hgd (takes_of rfl rfl rfl rfl) g_is_table k_is_table b_is_table (da_cons (de_var 15) da_nil) (al_cons al_nil))) dvs_nil))) (dv_of (de_callB (cr_repr hgd (hu70 hr)) b_repr (by decide +kernel) (dvs_cons (dv_of (de_call G_law_is_table (hr.mono (by decide)) hgd (takes_of rfl rfl rfl rfl) g_law_is_table k_law_is_table b_law_is_table (da_cons (de_var 15) da_nil) (al_cons al_nil))) dvs_nil)))) (dss_one (ds_ret de_bl)) dss_nil)))
    (dss_cons (ds_put 14 (dsl_d (de_fz (dl_lst (dds_cons (de_tup (dds_cons (de_var 3) (dds_cons (de_var 4) dds_nil))) (dds_cons (de_fz (dl_lst (dds_cons (de_var 3) (dds_cons (de_var 4) dds_nil)))) (dds_cons (de_tup (dds_cons (de_var 3) dds_nil)) (dds_cons (de_tup (dds_cons (de_var 3) (dds_cons (de_slice (dv_of (de_var 3)) do_none (do_some de_int)) dds_nil))) (dds_cons de_non dds_nil)))))))) sc_law.nd)
    (dss_one (ds_if (dt_cmp (or_ne (hu64 hr)) (dv_of (de_fz (dl_lc [("value", 15)] (dj_seq (dv_of (de_var 14))) rfl sc_law.nd (by rfl) (fun _ _ _ _ _ => (dg_name 15 sc_law.nd)) (fun _ _ _ _ _ => dts_nil) (fun _ _ _ _ _ => (de_call G_is_pair (hr.mono (by decide)) hgd takes0 g_is_pair k_is_pair b_is_pair (da_cons (de_var 15) da_nil) (al_cons al_nil)))))) (dv_of (de_bin or_add (dv_of (de_fz (dl_lst (dds_cons de_bl dds_nil)))) (dv_of (de_bin or_mul (dv_of (de_fz (dl_lst (dds_cons de_bl dds_nil)))) (dv_of de_int)))))) (dss_one (ds_ret de_bl)) dss_nil))))))))))))))))))
    (dss_cons (ds_put 5 (dsl_d (de_fz (dl_lst (dds_cons (de_call G_line_told (hr.mono (by decide)) hgd (takes_of rfl rfl rfl rfl) g_line_told k_line_told b_line_told (da_cons (de_tup (dds_cons (de_tup (dds_cons de_int (dds_cons de_int (dds_cons de_int (dds_cons de_int dds_nil))))) (dds_cons (de_tup (dds_cons de_int (dds_cons de_int (dds_cons de_int (dds_cons de_int dds_nil))))) dds_nil))) da_nil) (al_cons al_nil)) (dds_cons (de_call G_line_told (hr.mono (by decide)) hgd (takes_of rfl rfl rfl rfl) g_line_told k_line_told b_line_told (da_cons (de_tup (dds_cons (de_tup (dds_cons de_int (dds_cons de_int (dds_cons de_int (dds_cons de_int dds_nil))))) (dds_cons (de_tup (dds_cons de_int (dds_cons de_int (dds_cons de_int (dds_cons de_int dds_nil))))) dds_nil))) da_nil) (al_cons al_nil)) dds_nil))))) sc_law.nd)
    (dss_one (ds_ret (de_cmp (or_eq (hu64 hr)) (dv_of (de_callB (cr_repr hgd (hu70 hr)) b_repr (by decide +kernel) (dvs_cons (dv_of (de_var 5)) dvs_nil))) (dv_of (de_callB (cr_repr hgd (hu70 hr)) b_repr (by decide +kernel) (dvs_cons (dv_of (de_fz (dl_lst (dds_cons (de_tup (dds_cons de_str (dds_cons (de_tup (dds_cons de_int (dds_cons de_int dds_nil))) dds_nil))) (dds_cons (de_tup (dds_cons de_str (dds_cons de_int dds_nil))) dds_nil))))) dvs_nil)))))))))
    math
end
end K52

/-! k52: the defs. -/
namespace K52
open PySem PySem.Spec PyProof.Rows L2 Pt Pg
theorem e_pick : F_law_pick = Pt.F_pick := rfl
theorem e_of : F_law_of = Pt.F_of := rfl
theorem F_ltimes (m n : M4) (s : Src) (h : sm n) : F_law_table_times [.d m.D, .d n.D] s = .ok (m.mul n).D s := F_times m n s h
theorem F_undone (m : M4) (s : Src) : F_law_table_undone [.d m.D] s = .ok m.inv.D s := by
  refine run_ok (e0 := [.d m.D]) ?_
  unfold m_law_table_undone M4.D
  simp -implicitDefEqProofs (disch := (first | omega | assumption | exact Pt.mul_r (by omega) (by omega) | exact Pt.mul_l (by omega) (by omega) | exact ml _ _ | decide)) only [↓Pt.gt_ok, ↓Pt.gt_bind, ↓Pt.gt_lift, ↓Pt.at_0, ↓Pt.at_s, ↓Pt.nt_0, ↓Pt.nt_s, ↓Pt.vd_d, ↓Pt.vd_h, ↓Pt.vo_l, ↓Pt.vo_k, ↓Pt.vo_t, ↓Pt.vl_l, ↓Pt.vs_s, ↓Pt.pu_0, ↓Pt.pu_s, ↓Pt.wi_0, ↓Pt.wi_s, ↓Pt.bp_n, ↓Pt.bp_t, ↓Pt.bp_l, ↓Pt.bps_0, ↓Pt.bps_s, ↓Pt.bo_t, ↓Pt.bo_f, ↓Pt.bo_not, ↓Pt.gt_var, ↓Pt.gt_own, ↓Pt.gt_c, ↓Pt.gt_bin, ↓Pt.gt_un, ↓Pt.gt_tst, ↓Pt.gt_andT, ↓Pt.gt_orT, ↓Pt.gt_notT, ↓Pt.gt_and, ↓Pt.gt_or, ↓Pt.gt_not, ↓Pt.gt_if, ↓Pt.gt_chain, ↓Pt.gt_nil, ↓Pt.gt_cons, ↓Pt.gt_consA, ↓Pt.gt_consS, ↓Pt.gt_tup, ↓Pt.gt_lst, ↓Pt.gt_fz, ↓Pt.gt_fzD, ↓Pt.gt_call, ↓Pt.gt_callL, ↓Pt.gt_callK, ↓Pt.gt_app, ↓Pt.gt_sl, ↓Pt.gt_none, ↓Pt.gt_some, ↓Pt.ls_l, ↓Pt.gt_rev, ↓Pt.gt_sq, ↓Pt.ox_some, ↓Pt.seq_l, ↓Pt.seq_t, ↓Pt.tst_b, ↓Pt.intD_i, ↓Pt.z1_i, ↓Pt.z2_i, ↓Pt.gt_rg1, ↓Pt.gt_rg1J, ↓Pt.gt_rg2, ↓Pt.gt_srcI, ↓Pt.gt_srcLen, ↓Pt.gt_lc, ↓Pt.gt_yes, ↓Pt.gl_nil, ↓Pt.gl_cons, ↓Pt.gl_ok, ↓Pt.vh_h, ↓Pt.vt_t, ↓Pt.gt_ht, ↓Pt.gt_tupL, ↓Pt.lst_l, ↓Pt.gt_newD, ↓Pt.tag_t, ↓Pt.gt_get2T, ↓Pt.key_3, ↓Pt.zp_l, ↓Pt.zp_t, ↓Pt.gt_zip, ↓Pt.pair_0, ↓Pt.pair_s, ↓Pt.gs_seq, ↓Pt.sq_nx, ↓Pt.sq_rt, ↓Pt.sq_bk, ↓Pt.sq_ct, ↓Pt.sq_ex, ↓Pt.gs_skip, ↓Pt.gs_brk, ↓Pt.gs_cnt, ↓Pt.gs_nx, ↓Pt.gs_put, ↓Pt.gs_putZ, ↓Pt.gt_map, ↓Pt.gs_ret, ↓Pt.gs_drop, ↓Pt.gs_if, ↓Pt.gs_bind, ↓Pt.gs_par, ↓Pt.gs_par3, ↓Pt.gs_for, ↓Pt.fg_nx, ↓Pt.fg_ct, ↓Pt.fg_bk, ↓Pt.fg_rt, ↓Pt.gs_frz, ↓Pt.fe_s, ↓Pt.fe_l, ↓Pt.fe_k, ↓Pt.fe_t, ↓Pt.fe_d, ↓Pt.gs_apd, ↓Pt.gs_putT, ↓Pt.gs_srcPut, ↓Pt.ox_add, ↓Pt.ox_addL, ↓Pt.ox_addT, ↓Pt.ox_sub, ↓Pt.ox_mul, ↓Pt.ox_div, ↓Pt.ox_mod, ↓Pt.ox_neg, ↓Pt.ox_lt, ↓Pt.ox_le, ↓Pt.ox_gt, ↓Pt.ox_ge, ↓Pt.ox_eq, ↓Pt.ox_ne, ↓Pt.ox_eqS, ↓Pt.ox_neS, ↓Pt.ox_eqL, ↓Pt.ox_neL, ↓Pt.ox_eqT, ↓Pt.ox_neT, ↓Pt.ox_ix0, ↓Pt.ox_ix1, ↓Pt.ox_ix2, ↓Pt.ox_ix3, ↓Pt.ox_ixT0, ↓Pt.ox_ixT1, ↓Pt.ox_ixT2, ↓Pt.ox_ixT3, ↓Pt.ox_pow20, ↓Pt.ox_lenL, ↓Pt.ox_lenT, ↓Pt.ox_int, ↓Pt.ox_abs, ↓Pt.ox_max, ↓Pt.ox_min, ↓Pt.ox_tup, ↓Pt.ox_tupT, ↓Pt.ox_list, ↓Pt.ox_listT, ↓Pt.ox_repr, sz4, true_and, Int.zero_sub]
  rfl
theorem F_triple (m n : M4) (s : Src) (h : sm n) : F_law_triple [.d m.D, .d n.D] s = .ok (tri m n) s := by
  refine run_ok (e0 := [.d m.D, .d n.D, .un]) ?_
  have f3 := F_ltimes m n s h
  unfold m_law_triple
  simp -implicitDefEqProofs (disch := (first | omega | assumption | exact Pt.mul_r (by omega) (by omega) | exact Pt.mul_l (by omega) (by omega) | exact ml _ _ | decide)) only [↓Pt.gt_ok, ↓Pt.gt_bind, ↓Pt.gt_lift, ↓Pt.at_0, ↓Pt.at_s, ↓Pt.nt_0, ↓Pt.nt_s, ↓Pt.vd_d, ↓Pt.vd_h, ↓Pt.vo_l, ↓Pt.vo_k, ↓Pt.vo_t, ↓Pt.vl_l, ↓Pt.vs_s, ↓Pt.pu_0, ↓Pt.pu_s, ↓Pt.wi_0, ↓Pt.wi_s, ↓Pt.bp_n, ↓Pt.bp_t, ↓Pt.bp_l, ↓Pt.bps_0, ↓Pt.bps_s, ↓Pt.bo_t, ↓Pt.bo_f, ↓Pt.bo_not, ↓Pt.gt_var, ↓Pt.gt_own, ↓Pt.gt_c, ↓Pt.gt_bin, ↓Pt.gt_un, ↓Pt.gt_tst, ↓Pt.gt_andT, ↓Pt.gt_orT, ↓Pt.gt_notT, ↓Pt.gt_and, ↓Pt.gt_or, ↓Pt.gt_not, ↓Pt.gt_if, ↓Pt.gt_chain, ↓Pt.gt_nil, ↓Pt.gt_cons, ↓Pt.gt_consA, ↓Pt.gt_consS, ↓Pt.gt_tup, ↓Pt.gt_lst, ↓Pt.gt_fz, ↓Pt.gt_fzD, ↓Pt.gt_call, ↓Pt.gt_callL, ↓Pt.gt_callK, ↓Pt.gt_app, ↓Pt.gt_sl, ↓Pt.gt_none, ↓Pt.gt_some, ↓Pt.ls_l, ↓Pt.gt_rev, ↓Pt.gt_sq, ↓Pt.ox_some, ↓Pt.seq_l, ↓Pt.seq_t, ↓Pt.tst_b, ↓Pt.intD_i, ↓Pt.z1_i, ↓Pt.z2_i, ↓Pt.gt_rg1, ↓Pt.gt_rg1J, ↓Pt.gt_rg2, ↓Pt.gt_srcI, ↓Pt.gt_srcLen, ↓Pt.gt_lc, ↓Pt.gt_yes, ↓Pt.gl_nil, ↓Pt.gl_cons, ↓Pt.gl_ok, ↓Pt.vh_h, ↓Pt.vt_t, ↓Pt.gt_ht, ↓Pt.gt_tupL, ↓Pt.lst_l, ↓Pt.gt_newD, ↓Pt.tag_t, ↓Pt.gt_get2T, ↓Pt.key_3, ↓Pt.zp_l, ↓Pt.zp_t, ↓Pt.gt_zip, ↓Pt.pair_0, ↓Pt.pair_s, ↓Pt.gs_seq, ↓Pt.sq_nx, ↓Pt.sq_rt, ↓Pt.sq_bk, ↓Pt.sq_ct, ↓Pt.sq_ex, ↓Pt.gs_skip, ↓Pt.gs_brk, ↓Pt.gs_cnt, ↓Pt.gs_nx, ↓Pt.gs_put, ↓Pt.gs_putZ, ↓Pt.gt_map, ↓Pt.gs_ret, ↓Pt.gs_drop, ↓Pt.gs_if, ↓Pt.gs_bind, ↓Pt.gs_par, ↓Pt.gs_par3, ↓Pt.gs_for, ↓Pt.fg_nx, ↓Pt.fg_ct, ↓Pt.fg_bk, ↓Pt.fg_rt, ↓Pt.gs_frz, ↓Pt.fe_s, ↓Pt.fe_l, ↓Pt.fe_k, ↓Pt.fe_t, ↓Pt.fe_d, ↓Pt.gs_apd, ↓Pt.gs_putT, ↓Pt.gs_srcPut, ↓Pt.ox_add, ↓Pt.ox_addL, ↓Pt.ox_addT, ↓Pt.ox_sub, ↓Pt.ox_mul, ↓Pt.ox_div, ↓Pt.ox_mod, ↓Pt.ox_neg, ↓Pt.ox_lt, ↓Pt.ox_le, ↓Pt.ox_gt, ↓Pt.ox_ge, ↓Pt.ox_eq, ↓Pt.ox_ne, ↓Pt.ox_eqS, ↓Pt.ox_neS, ↓Pt.ox_eqL, ↓Pt.ox_neL, ↓Pt.ox_eqT, ↓Pt.ox_neT, ↓Pt.ox_ix0, ↓Pt.ox_ix1, ↓Pt.ox_ix2, ↓Pt.ox_ix3, ↓Pt.ox_ixT0, ↓Pt.ox_ixT1, ↓Pt.ox_ixT2, ↓Pt.ox_ixT3, ↓Pt.ox_pow20, ↓Pt.ox_lenL, ↓Pt.ox_lenT, ↓Pt.ox_int, ↓Pt.ox_abs, ↓Pt.ox_max, ↓Pt.ox_min, ↓Pt.ox_tup, ↓Pt.ox_tupT, ↓Pt.ox_list, ↓Pt.ox_listT, ↓Pt.ox_repr, ↓gt_eq f3]
  unfold M4.D
  simp -implicitDefEqProofs (disch := (first | omega | assumption | exact Pt.mul_r (by omega) (by omega) | exact Pt.mul_l (by omega) (by omega) | exact ml _ _ | decide)) only [↓Pt.gt_ok, ↓Pt.gt_bind, ↓Pt.gt_lift, ↓Pt.at_0, ↓Pt.at_s, ↓Pt.nt_0, ↓Pt.nt_s, ↓Pt.vd_d, ↓Pt.vd_h, ↓Pt.vo_l, ↓Pt.vo_k, ↓Pt.vo_t, ↓Pt.vl_l, ↓Pt.vs_s, ↓Pt.pu_0, ↓Pt.pu_s, ↓Pt.wi_0, ↓Pt.wi_s, ↓Pt.bp_n, ↓Pt.bp_t, ↓Pt.bp_l, ↓Pt.bps_0, ↓Pt.bps_s, ↓Pt.bo_t, ↓Pt.bo_f, ↓Pt.bo_not, ↓Pt.gt_var, ↓Pt.gt_own, ↓Pt.gt_c, ↓Pt.gt_bin, ↓Pt.gt_un, ↓Pt.gt_tst, ↓Pt.gt_andT, ↓Pt.gt_orT, ↓Pt.gt_notT, ↓Pt.gt_and, ↓Pt.gt_or, ↓Pt.gt_not, ↓Pt.gt_if, ↓Pt.gt_chain, ↓Pt.gt_nil, ↓Pt.gt_cons, ↓Pt.gt_consA, ↓Pt.gt_consS, ↓Pt.gt_tup, ↓Pt.gt_lst, ↓Pt.gt_fz, ↓Pt.gt_fzD, ↓Pt.gt_call, ↓Pt.gt_callL, ↓Pt.gt_callK, ↓Pt.gt_app, ↓Pt.gt_sl, ↓Pt.gt_none, ↓Pt.gt_some, ↓Pt.ls_l, ↓Pt.gt_rev, ↓Pt.gt_sq, ↓Pt.ox_some, ↓Pt.seq_l, ↓Pt.seq_t, ↓Pt.tst_b, ↓Pt.intD_i, ↓Pt.z1_i, ↓Pt.z2_i, ↓Pt.gt_rg1, ↓Pt.gt_rg1J, ↓Pt.gt_rg2, ↓Pt.gt_srcI, ↓Pt.gt_srcLen, ↓Pt.gt_lc, ↓Pt.gt_yes, ↓Pt.gl_nil, ↓Pt.gl_cons, ↓Pt.gl_ok, ↓Pt.vh_h, ↓Pt.vt_t, ↓Pt.gt_ht, ↓Pt.gt_tupL, ↓Pt.lst_l, ↓Pt.gt_newD, ↓Pt.tag_t, ↓Pt.gt_get2T, ↓Pt.key_3, ↓Pt.zp_l, ↓Pt.zp_t, ↓Pt.gt_zip, ↓Pt.pair_0, ↓Pt.pair_s, ↓Pt.gs_seq, ↓Pt.sq_nx, ↓Pt.sq_rt, ↓Pt.sq_bk, ↓Pt.sq_ct, ↓Pt.sq_ex, ↓Pt.gs_skip, ↓Pt.gs_brk, ↓Pt.gs_cnt, ↓Pt.gs_nx, ↓Pt.gs_put, ↓Pt.gs_putZ, ↓Pt.gt_map, ↓Pt.gs_ret, ↓Pt.gs_drop, ↓Pt.gs_if, ↓Pt.gs_bind, ↓Pt.gs_par, ↓Pt.gs_par3, ↓Pt.gs_for, ↓Pt.fg_nx, ↓Pt.fg_ct, ↓Pt.fg_bk, ↓Pt.fg_rt, ↓Pt.gs_frz, ↓Pt.fe_s, ↓Pt.fe_l, ↓Pt.fe_k, ↓Pt.fe_t, ↓Pt.fe_d, ↓Pt.gs_apd, ↓Pt.gs_putT, ↓Pt.gs_srcPut, ↓Pt.ox_add, ↓Pt.ox_addL, ↓Pt.ox_addT, ↓Pt.ox_sub, ↓Pt.ox_mul, ↓Pt.ox_div, ↓Pt.ox_mod, ↓Pt.ox_neg, ↓Pt.ox_lt, ↓Pt.ox_le, ↓Pt.ox_gt, ↓Pt.ox_ge, ↓Pt.ox_eq, ↓Pt.ox_ne, ↓Pt.ox_eqS, ↓Pt.ox_neS, ↓Pt.ox_eqL, ↓Pt.ox_neL, ↓Pt.ox_eqT, ↓Pt.ox_neT, ↓Pt.ox_ix0, ↓Pt.ox_ix1, ↓Pt.ox_ix2, ↓Pt.ox_ix3, ↓Pt.ox_ixT0, ↓Pt.ox_ixT1, ↓Pt.ox_ixT2, ↓Pt.ox_ixT3, ↓Pt.ox_pow20, ↓Pt.ox_lenL, ↓Pt.ox_lenT, ↓Pt.ox_int, ↓Pt.ox_abs, ↓Pt.ox_max, ↓Pt.ox_min, ↓Pt.ox_tup, ↓Pt.ox_tupT, ↓Pt.ox_list, ↓Pt.ox_listT, ↓Pt.ox_repr, sz3, true_and]
  rfl
theorem F_lk {x y z : Int} (s : Src) (hx : x.natAbs ≤ 10 ^ 40) (hy : y.natAbs ≤ 10 ^ 40) (hz : z.natAbs ≤ 10 ^ 40) : F_law_k [.d (.tuple [.int x, .int y, .int z])] s = .ok (.int (kk x y z)) s := F_kof s hx hy hz
theorem F_led (l m : M4) (s : Src) (hm : sm m) (hl : sm l.inv) : F_law_led [.d l.D, .d m.D] s = .ok ((l.mul m).mul l.inv).D s := by
  refine run_ok (e0 := [.d l.D, .d m.D]) ?_
  have f1 := F_ltimes l m s hm
  have f2 := F_undone l s
  have f3 := F_ltimes (l.mul m) l.inv s hl
  unfold m_law_led
  simp -implicitDefEqProofs (disch := (first | omega | assumption | exact Pt.mul_r (by omega) (by omega) | exact Pt.mul_l (by omega) (by omega) | exact ml _ _ | decide)) only [↓Pt.gt_ok, ↓Pt.gt_bind, ↓Pt.gt_lift, ↓Pt.at_0, ↓Pt.at_s, ↓Pt.nt_0, ↓Pt.nt_s, ↓Pt.vd_d, ↓Pt.vd_h, ↓Pt.vo_l, ↓Pt.vo_k, ↓Pt.vo_t, ↓Pt.vl_l, ↓Pt.vs_s, ↓Pt.pu_0, ↓Pt.pu_s, ↓Pt.wi_0, ↓Pt.wi_s, ↓Pt.bp_n, ↓Pt.bp_t, ↓Pt.bp_l, ↓Pt.bps_0, ↓Pt.bps_s, ↓Pt.bo_t, ↓Pt.bo_f, ↓Pt.bo_not, ↓Pt.gt_var, ↓Pt.gt_own, ↓Pt.gt_c, ↓Pt.gt_bin, ↓Pt.gt_un, ↓Pt.gt_tst, ↓Pt.gt_andT, ↓Pt.gt_orT, ↓Pt.gt_notT, ↓Pt.gt_and, ↓Pt.gt_or, ↓Pt.gt_not, ↓Pt.gt_if, ↓Pt.gt_chain, ↓Pt.gt_nil, ↓Pt.gt_cons, ↓Pt.gt_consA, ↓Pt.gt_consS, ↓Pt.gt_tup, ↓Pt.gt_lst, ↓Pt.gt_fz, ↓Pt.gt_fzD, ↓Pt.gt_call, ↓Pt.gt_callL, ↓Pt.gt_callK, ↓Pt.gt_app, ↓Pt.gt_sl, ↓Pt.gt_none, ↓Pt.gt_some, ↓Pt.ls_l, ↓Pt.gt_rev, ↓Pt.gt_sq, ↓Pt.ox_some, ↓Pt.seq_l, ↓Pt.seq_t, ↓Pt.tst_b, ↓Pt.intD_i, ↓Pt.z1_i, ↓Pt.z2_i, ↓Pt.gt_rg1, ↓Pt.gt_rg1J, ↓Pt.gt_rg2, ↓Pt.gt_srcI, ↓Pt.gt_srcLen, ↓Pt.gt_lc, ↓Pt.gt_yes, ↓Pt.gl_nil, ↓Pt.gl_cons, ↓Pt.gl_ok, ↓Pt.vh_h, ↓Pt.vt_t, ↓Pt.gt_ht, ↓Pt.gt_tupL, ↓Pt.lst_l, ↓Pt.gt_newD, ↓Pt.tag_t, ↓Pt.gt_get2T, ↓Pt.key_3, ↓Pt.zp_l, ↓Pt.zp_t, ↓Pt.gt_zip, ↓Pt.pair_0, ↓Pt.pair_s, ↓Pt.gs_seq, ↓Pt.sq_nx, ↓Pt.sq_rt, ↓Pt.sq_bk, ↓Pt.sq_ct, ↓Pt.sq_ex, ↓Pt.gs_skip, ↓Pt.gs_brk, ↓Pt.gs_cnt, ↓Pt.gs_nx, ↓Pt.gs_put, ↓Pt.gs_putZ, ↓Pt.gt_map, ↓Pt.gs_ret, ↓Pt.gs_drop, ↓Pt.gs_if, ↓Pt.gs_bind, ↓Pt.gs_par, ↓Pt.gs_par3, ↓Pt.gs_for, ↓Pt.fg_nx, ↓Pt.fg_ct, ↓Pt.fg_bk, ↓Pt.fg_rt, ↓Pt.gs_frz, ↓Pt.fe_s, ↓Pt.fe_l, ↓Pt.fe_k, ↓Pt.fe_t, ↓Pt.fe_d, ↓Pt.gs_apd, ↓Pt.gs_putT, ↓Pt.gs_srcPut, ↓Pt.ox_add, ↓Pt.ox_addL, ↓Pt.ox_addT, ↓Pt.ox_sub, ↓Pt.ox_mul, ↓Pt.ox_div, ↓Pt.ox_mod, ↓Pt.ox_neg, ↓Pt.ox_lt, ↓Pt.ox_le, ↓Pt.ox_gt, ↓Pt.ox_ge, ↓Pt.ox_eq, ↓Pt.ox_ne, ↓Pt.ox_eqS, ↓Pt.ox_neS, ↓Pt.ox_eqL, ↓Pt.ox_neL, ↓Pt.ox_eqT, ↓Pt.ox_neT, ↓Pt.ox_ix0, ↓Pt.ox_ix1, ↓Pt.ox_ix2, ↓Pt.ox_ix3, ↓Pt.ox_ixT0, ↓Pt.ox_ixT1, ↓Pt.ox_ixT2, ↓Pt.ox_ixT3, ↓Pt.ox_pow20, ↓Pt.ox_lenL, ↓Pt.ox_lenT, ↓Pt.ox_int, ↓Pt.ox_abs, ↓Pt.ox_max, ↓Pt.ox_min, ↓Pt.ox_tup, ↓Pt.ox_tupT, ↓Pt.ox_list, ↓Pt.ox_listT, ↓Pt.ox_repr, ↓gt_eq f1, ↓gt_eq f2, ↓gt_eq f3]
theorem F_lisT (v : Pt.D) (s : Src) (hv : mulOk v) (hs : ∀ ds, v = .tuple ds → shB (.list (ds.filter fun v => !wholeB v)) = true) : F_law_is_table [.d v] s = .ok (.bool (tableB v)) s := by
  refine run_ok (e0 := [.d v, .un]) ?_
  unfold m_law_is_table
  rw [Pt.gs_seq]
  cases v with
  | tuple ds =>
    have t1 : isB "tuple" (tyNm (.tuple ds)) = true := rfl
    have go : lcGo (.n 1) (mOrT (mNotT (mTst (mIsi "int" (mVar 1)))) (mTst (mIsi "bool" (mVar 1)))) (mVar 1) ds [.d (.tuple ds), .un] s = .ok ((ds.filter fun v => !wholeB v).map id) s := by
      refine lc_pure _ _ ds fun x hx => ?_
      simp -implicitDefEqProofs (disch := (first | omega | assumption | exact Pt.mul_r (by omega) (by omega) | exact Pt.mul_l (by omega) (by omega) | exact ml _ _ | decide)) only [↓Pt.gt_ok, ↓Pt.gt_bind, ↓Pt.gt_lift, ↓Pt.at_0, ↓Pt.at_s, ↓Pt.nt_0, ↓Pt.nt_s, ↓Pt.vd_d, ↓Pt.vd_h, ↓Pt.vo_l, ↓Pt.vo_k, ↓Pt.vo_t, ↓Pt.vl_l, ↓Pt.vs_s, ↓Pt.pu_0, ↓Pt.pu_s, ↓Pt.wi_0, ↓Pt.wi_s, ↓Pt.bp_n, ↓Pt.bp_t, ↓Pt.bp_l, ↓Pt.bps_0, ↓Pt.bps_s, ↓Pt.bo_t, ↓Pt.bo_f, ↓Pt.bo_not, ↓Pt.gt_var, ↓Pt.gt_own, ↓Pt.gt_c, ↓Pt.gt_bin, ↓Pt.gt_un, ↓Pt.gt_tst, ↓Pt.gt_andT, ↓Pt.gt_orT, ↓Pt.gt_notT, ↓Pt.gt_and, ↓Pt.gt_or, ↓Pt.gt_not, ↓Pt.gt_if, ↓Pt.gt_chain, ↓Pt.gt_nil, ↓Pt.gt_cons, ↓Pt.gt_consA, ↓Pt.gt_consS, ↓Pt.gt_tup, ↓Pt.gt_lst, ↓Pt.gt_fz, ↓Pt.gt_fzD, ↓Pt.gt_call, ↓Pt.gt_callL, ↓Pt.gt_callK, ↓Pt.gt_app, ↓Pt.gt_sl, ↓Pt.gt_none, ↓Pt.gt_some, ↓Pt.ls_l, ↓Pt.gt_rev, ↓Pt.gt_sq, ↓Pt.ox_some, ↓Pt.seq_l, ↓Pt.seq_t, ↓Pt.tst_b, ↓Pt.intD_i, ↓Pt.z1_i, ↓Pt.z2_i, ↓Pt.gt_rg1, ↓Pt.gt_rg1J, ↓Pt.gt_rg2, ↓Pt.gt_srcI, ↓Pt.gt_srcLen, ↓Pt.gt_lc, ↓Pt.gt_yes, ↓Pt.gl_nil, ↓Pt.gl_cons, ↓Pt.gl_ok, ↓Pt.vh_h, ↓Pt.vt_t, ↓Pt.gt_ht, ↓Pt.gt_tupL, ↓Pt.lst_l, ↓Pt.gt_newD, ↓Pt.tag_t, ↓Pt.gt_get2T, ↓Pt.key_3, ↓Pt.zp_l, ↓Pt.zp_t, ↓Pt.gt_zip, ↓Pt.pair_0, ↓Pt.pair_s, ↓Pt.gs_seq, ↓Pt.sq_nx, ↓Pt.sq_rt, ↓Pt.sq_bk, ↓Pt.sq_ct, ↓Pt.sq_ex, ↓Pt.gs_skip, ↓Pt.gs_brk, ↓Pt.gs_cnt, ↓Pt.gs_nx, ↓Pt.gs_put, ↓Pt.gs_putZ, ↓Pt.gt_map, ↓Pt.gs_ret, ↓Pt.gs_drop, ↓Pt.gs_if, ↓Pt.gs_bind, ↓Pt.gs_par, ↓Pt.gs_par3, ↓Pt.gs_for, ↓Pt.fg_nx, ↓Pt.fg_ct, ↓Pt.fg_bk, ↓Pt.fg_rt, ↓Pt.gs_frz, ↓Pt.fe_s, ↓Pt.fe_l, ↓Pt.fe_k, ↓Pt.fe_t, ↓Pt.fe_d, ↓Pt.gs_apd, ↓Pt.gs_putT, ↓Pt.gs_srcPut, ↓Pt.ox_add, ↓Pt.ox_addL, ↓Pt.ox_addT, ↓Pt.ox_sub, ↓Pt.ox_mul, ↓Pt.ox_div, ↓Pt.ox_mod, ↓Pt.ox_neg, ↓Pt.ox_lt, ↓Pt.ox_le, ↓Pt.ox_gt, ↓Pt.ox_ge, ↓Pt.ox_eq, ↓Pt.ox_ne, ↓Pt.ox_eqS, ↓Pt.ox_neS, ↓Pt.ox_eqL, ↓Pt.ox_neL, ↓Pt.ox_eqT, ↓Pt.ox_neT, ↓Pt.ox_ix0, ↓Pt.ox_ix1, ↓Pt.ox_ix2, ↓Pt.ox_ix3, ↓Pt.ox_ixT0, ↓Pt.ox_ixT1, ↓Pt.ox_ixT2, ↓Pt.ox_ixT3, ↓Pt.ox_pow20, ↓Pt.ox_lenL, ↓Pt.ox_lenT, ↓Pt.ox_int, ↓Pt.ox_abs, ↓Pt.ox_max, ↓Pt.ox_min, ↓Pt.ox_tup, ↓Pt.ox_tupT, ↓Pt.ox_list, ↓Pt.ox_listT, ↓Pt.ox_repr, ↓gt_isi, id, and_self, implies_true]
      cases x <;> simp [isB, tyNm, wholeB, Bo]
    by_cases h4 : ds.length = 4
    · have l4 : ((ds.length : Nat) : Int) = 4 := by omega
      by_cases hw : ds.all wholeB = true
      · have z0 : szB 0 = true := rfl
        have ns : shB (.list []) = true := by decide
        have fl : (ds.filter fun v => !wholeB v) = [] := by
          rw [List.filter_eq_nil_iff]
          intro x hx
          have := List.all_eq_true.mp hw x hx
          simp [this]
        rw [fl] at go
        simp -implicitDefEqProofs (disch := (first | assumption | decide)) only [↓Pt.gt_ok, ↓Pt.gt_bind, ↓Pt.gt_lift, ↓Pt.at_0, ↓Pt.at_s, ↓Pt.nt_0, ↓Pt.nt_s, ↓Pt.vd_d, ↓Pt.vd_h, ↓Pt.vo_l, ↓Pt.vo_k, ↓Pt.vo_t, ↓Pt.vl_l, ↓Pt.vs_s, ↓Pt.pu_0, ↓Pt.pu_s, ↓Pt.wi_0, ↓Pt.wi_s, ↓Pt.bp_n, ↓Pt.bp_t, ↓Pt.bp_l, ↓Pt.bps_0, ↓Pt.bps_s, ↓Pt.bo_t, ↓Pt.bo_f, ↓Pt.bo_not, ↓Pt.gt_var, ↓Pt.gt_own, ↓Pt.gt_c, ↓Pt.gt_bin, ↓Pt.gt_un, ↓Pt.gt_tst, ↓Pt.gt_andT, ↓Pt.gt_orT, ↓Pt.gt_notT, ↓Pt.gt_and, ↓Pt.gt_or, ↓Pt.gt_not, ↓Pt.gt_if, ↓Pt.gt_chain, ↓Pt.gt_nil, ↓Pt.gt_cons, ↓Pt.gt_consA, ↓Pt.gt_consS, ↓Pt.gt_tup, ↓Pt.gt_lst, ↓Pt.gt_fz, ↓Pt.gt_fzD, ↓Pt.gt_call, ↓Pt.gt_callL, ↓Pt.gt_callK, ↓Pt.gt_app, ↓Pt.gt_sl, ↓Pt.gt_none, ↓Pt.gt_some, ↓Pt.ls_l, ↓Pt.gt_rev, ↓Pt.gt_sq, ↓Pt.ox_some, ↓Pt.seq_l, ↓Pt.seq_t, ↓Pt.tst_b, ↓Pt.intD_i, ↓Pt.z1_i, ↓Pt.z2_i, ↓Pt.gt_rg1, ↓Pt.gt_rg1J, ↓Pt.gt_rg2, ↓Pt.gt_srcI, ↓Pt.gt_srcLen, ↓Pt.gt_lc, ↓Pt.gt_yes, ↓Pt.gl_nil, ↓Pt.gl_cons, ↓Pt.gl_ok, ↓Pt.vh_h, ↓Pt.vt_t, ↓Pt.gt_ht, ↓Pt.gt_tupL, ↓Pt.lst_l, ↓Pt.gt_newD, ↓Pt.tag_t, ↓Pt.gt_get2T, ↓Pt.key_3, ↓Pt.zp_l, ↓Pt.zp_t, ↓Pt.gt_zip, ↓Pt.pair_0, ↓Pt.pair_s, ↓Pt.gs_seq, ↓Pt.sq_nx, ↓Pt.sq_rt, ↓Pt.sq_bk, ↓Pt.sq_ct, ↓Pt.sq_ex, ↓Pt.gs_skip, ↓Pt.gs_brk, ↓Pt.gs_cnt, ↓Pt.gs_nx, ↓Pt.gs_put, ↓Pt.gs_putZ, ↓Pt.gt_map, ↓Pt.gs_ret, ↓Pt.gs_drop, ↓Pt.gs_if, ↓Pt.gs_bind, ↓Pt.gs_par, ↓Pt.gs_par3, ↓Pt.gs_for, ↓Pt.fg_nx, ↓Pt.fg_ct, ↓Pt.fg_bk, ↓Pt.fg_rt, ↓Pt.gs_frz, ↓Pt.fe_s, ↓Pt.fe_l, ↓Pt.fe_k, ↓Pt.fe_t, ↓Pt.fe_d, ↓Pt.gs_apd, ↓Pt.gs_putT, ↓Pt.gs_srcPut, ↓Pt.ox_add, ↓Pt.ox_addL, ↓Pt.ox_addT, ↓Pt.ox_sub, ↓Pt.ox_mul, ↓Pt.ox_div, ↓Pt.ox_mod, ↓Pt.ox_neg, ↓Pt.ox_lt, ↓Pt.ox_le, ↓Pt.ox_gt, ↓Pt.ox_ge, ↓Pt.ox_eq, ↓Pt.ox_ne, ↓Pt.ox_eqS, ↓Pt.ox_neS, ↓Pt.ox_eqL, ↓Pt.ox_neL, ↓Pt.ox_eqT, ↓Pt.ox_neT, ↓Pt.ox_ix0, ↓Pt.ox_ix1, ↓Pt.ox_ix2, ↓Pt.ox_ix3, ↓Pt.ox_ixT0, ↓Pt.ox_ixT1, ↓Pt.ox_ixT2, ↓Pt.ox_ixT3, ↓Pt.ox_pow20, ↓Pt.ox_lenL, ↓Pt.ox_lenT, ↓Pt.ox_int, ↓Pt.ox_abs, ↓Pt.ox_max, ↓Pt.ox_min, ↓Pt.ox_tup, ↓Pt.ox_tupT, ↓Pt.ox_list, ↓Pt.ox_listT, ↓Pt.ox_repr, ↓gt_isi, t1, l4, decide_true, Bool.not_true, go, List.map_nil, List.length_nil, z0, ns, Bool.and_self, true_and, PyData.eqvAll]
        obtain ⟨a, b, c, d, e⟩ := all4 h4 hw
        subst e
        obtain ⟨m1, m2⟩ := hv a b c d rfl
        simp -implicitDefEqProofs (disch := (first | assumption | decide)) only [↓Pt.gt_ok, ↓Pt.gt_bind, ↓Pt.gt_lift, ↓Pt.at_0, ↓Pt.at_s, ↓Pt.nt_0, ↓Pt.nt_s, ↓Pt.vd_d, ↓Pt.vd_h, ↓Pt.vo_l, ↓Pt.vo_k, ↓Pt.vo_t, ↓Pt.vl_l, ↓Pt.vs_s, ↓Pt.pu_0, ↓Pt.pu_s, ↓Pt.wi_0, ↓Pt.wi_s, ↓Pt.bp_n, ↓Pt.bp_t, ↓Pt.bp_l, ↓Pt.bps_0, ↓Pt.bps_s, ↓Pt.bo_t, ↓Pt.bo_f, ↓Pt.bo_not, ↓Pt.gt_var, ↓Pt.gt_own, ↓Pt.gt_c, ↓Pt.gt_bin, ↓Pt.gt_un, ↓Pt.gt_tst, ↓Pt.gt_andT, ↓Pt.gt_orT, ↓Pt.gt_notT, ↓Pt.gt_and, ↓Pt.gt_or, ↓Pt.gt_not, ↓Pt.gt_if, ↓Pt.gt_chain, ↓Pt.gt_nil, ↓Pt.gt_cons, ↓Pt.gt_consA, ↓Pt.gt_consS, ↓Pt.gt_tup, ↓Pt.gt_lst, ↓Pt.gt_fz, ↓Pt.gt_fzD, ↓Pt.gt_call, ↓Pt.gt_callL, ↓Pt.gt_callK, ↓Pt.gt_app, ↓Pt.gt_sl, ↓Pt.gt_none, ↓Pt.gt_some, ↓Pt.ls_l, ↓Pt.gt_rev, ↓Pt.gt_sq, ↓Pt.ox_some, ↓Pt.seq_l, ↓Pt.seq_t, ↓Pt.tst_b, ↓Pt.intD_i, ↓Pt.z1_i, ↓Pt.z2_i, ↓Pt.gt_rg1, ↓Pt.gt_rg1J, ↓Pt.gt_rg2, ↓Pt.gt_srcI, ↓Pt.gt_srcLen, ↓Pt.gt_lc, ↓Pt.gt_yes, ↓Pt.gl_nil, ↓Pt.gl_cons, ↓Pt.gl_ok, ↓Pt.vh_h, ↓Pt.vt_t, ↓Pt.gt_ht, ↓Pt.gt_tupL, ↓Pt.lst_l, ↓Pt.gt_newD, ↓Pt.tag_t, ↓Pt.gt_get2T, ↓Pt.key_3, ↓Pt.zp_l, ↓Pt.zp_t, ↓Pt.gt_zip, ↓Pt.pair_0, ↓Pt.pair_s, ↓Pt.gs_seq, ↓Pt.sq_nx, ↓Pt.sq_rt, ↓Pt.sq_bk, ↓Pt.sq_ct, ↓Pt.sq_ex, ↓Pt.gs_skip, ↓Pt.gs_brk, ↓Pt.gs_cnt, ↓Pt.gs_nx, ↓Pt.gs_put, ↓Pt.gs_putZ, ↓Pt.gt_map, ↓Pt.gs_ret, ↓Pt.gs_drop, ↓Pt.gs_if, ↓Pt.gs_bind, ↓Pt.gs_par, ↓Pt.gs_par3, ↓Pt.gs_for, ↓Pt.fg_nx, ↓Pt.fg_ct, ↓Pt.fg_bk, ↓Pt.fg_rt, ↓Pt.gs_frz, ↓Pt.fe_s, ↓Pt.fe_l, ↓Pt.fe_k, ↓Pt.fe_t, ↓Pt.fe_d, ↓Pt.gs_apd, ↓Pt.gs_putT, ↓Pt.gs_srcPut, ↓Pt.ox_add, ↓Pt.ox_addL, ↓Pt.ox_addT, ↓Pt.ox_sub, ↓Pt.ox_mul, ↓Pt.ox_div, ↓Pt.ox_mod, ↓Pt.ox_neg, ↓Pt.ox_lt, ↓Pt.ox_le, ↓Pt.ox_gt, ↓Pt.ox_ge, ↓Pt.ox_eq, ↓Pt.ox_ne, ↓Pt.ox_eqS, ↓Pt.ox_neS, ↓Pt.ox_eqL, ↓Pt.ox_neL, ↓Pt.ox_eqT, ↓Pt.ox_neT, ↓Pt.ox_ix0, ↓Pt.ox_ix1, ↓Pt.ox_ix2, ↓Pt.ox_ix3, ↓Pt.ox_ixT0, ↓Pt.ox_ixT1, ↓Pt.ox_ixT2, ↓Pt.ox_ixT3, ↓Pt.ox_pow20, ↓Pt.ox_lenL, ↓Pt.ox_lenT, ↓Pt.ox_int, ↓Pt.ox_abs, ↓Pt.ox_max, ↓Pt.ox_min, ↓Pt.ox_tup, ↓Pt.ox_tupT, ↓Pt.ox_list, ↓Pt.ox_listT, ↓Pt.ox_repr]
        rfl
      · have z0 : szB 0 = true := rfl
        have ns : shB (.list []) = true := by decide
        have hs2 := hs ds rfl
        have hw2 : ds.all wholeB = false := by simpa using hw
        have tf : tableB (.tuple ds) = false := by
          unfold tableB
          split
          · rename_i a b c d e
            cases e
            exact absurd rfl hw
          · rfl
        rw [List.map_id] at go
        have ne : ∀ L : List Pt.D, L ≠ [] → PyData.eqvAll L [] = false := fun L h => by
          cases L with
          | nil => exact absurd rfl h
          | cons x r => simp [PyData.eqvAll]
        have fl : (ds.filter fun v => !wholeB v) ≠ [] := fun z => by
          rw [List.filter_eq_nil_iff] at z
          apply hw
          rw [List.all_eq_true]
          intro x hx
          have := z x hx
          simpa using this
        have ne2 := ne _ fl
        simp -implicitDefEqProofs (disch := (first | assumption | decide)) only [↓Pt.gt_ok, ↓Pt.gt_bind, ↓Pt.gt_lift, ↓Pt.at_0, ↓Pt.at_s, ↓Pt.nt_0, ↓Pt.nt_s, ↓Pt.vd_d, ↓Pt.vd_h, ↓Pt.vo_l, ↓Pt.vo_k, ↓Pt.vo_t, ↓Pt.vl_l, ↓Pt.vs_s, ↓Pt.pu_0, ↓Pt.pu_s, ↓Pt.wi_0, ↓Pt.wi_s, ↓Pt.bp_n, ↓Pt.bp_t, ↓Pt.bp_l, ↓Pt.bps_0, ↓Pt.bps_s, ↓Pt.bo_t, ↓Pt.bo_f, ↓Pt.bo_not, ↓Pt.gt_var, ↓Pt.gt_own, ↓Pt.gt_c, ↓Pt.gt_bin, ↓Pt.gt_un, ↓Pt.gt_tst, ↓Pt.gt_andT, ↓Pt.gt_orT, ↓Pt.gt_notT, ↓Pt.gt_and, ↓Pt.gt_or, ↓Pt.gt_not, ↓Pt.gt_if, ↓Pt.gt_chain, ↓Pt.gt_nil, ↓Pt.gt_cons, ↓Pt.gt_consA, ↓Pt.gt_consS, ↓Pt.gt_tup, ↓Pt.gt_lst, ↓Pt.gt_fz, ↓Pt.gt_fzD, ↓Pt.gt_call, ↓Pt.gt_callL, ↓Pt.gt_callK, ↓Pt.gt_app, ↓Pt.gt_sl, ↓Pt.gt_none, ↓Pt.gt_some, ↓Pt.ls_l, ↓Pt.gt_rev, ↓Pt.gt_sq, ↓Pt.ox_some, ↓Pt.seq_l, ↓Pt.seq_t, ↓Pt.tst_b, ↓Pt.intD_i, ↓Pt.z1_i, ↓Pt.z2_i, ↓Pt.gt_rg1, ↓Pt.gt_rg1J, ↓Pt.gt_rg2, ↓Pt.gt_srcI, ↓Pt.gt_srcLen, ↓Pt.gt_lc, ↓Pt.gt_yes, ↓Pt.gl_nil, ↓Pt.gl_cons, ↓Pt.gl_ok, ↓Pt.vh_h, ↓Pt.vt_t, ↓Pt.gt_ht, ↓Pt.gt_tupL, ↓Pt.lst_l, ↓Pt.gt_newD, ↓Pt.tag_t, ↓Pt.gt_get2T, ↓Pt.key_3, ↓Pt.zp_l, ↓Pt.zp_t, ↓Pt.gt_zip, ↓Pt.pair_0, ↓Pt.pair_s, ↓Pt.gs_seq, ↓Pt.sq_nx, ↓Pt.sq_rt, ↓Pt.sq_bk, ↓Pt.sq_ct, ↓Pt.sq_ex, ↓Pt.gs_skip, ↓Pt.gs_brk, ↓Pt.gs_cnt, ↓Pt.gs_nx, ↓Pt.gs_put, ↓Pt.gs_putZ, ↓Pt.gt_map, ↓Pt.gs_ret, ↓Pt.gs_drop, ↓Pt.gs_if, ↓Pt.gs_bind, ↓Pt.gs_par, ↓Pt.gs_par3, ↓Pt.gs_for, ↓Pt.fg_nx, ↓Pt.fg_ct, ↓Pt.fg_bk, ↓Pt.fg_rt, ↓Pt.gs_frz, ↓Pt.fe_s, ↓Pt.fe_l, ↓Pt.fe_k, ↓Pt.fe_t, ↓Pt.fe_d, ↓Pt.gs_apd, ↓Pt.gs_putT, ↓Pt.gs_srcPut, ↓Pt.ox_add, ↓Pt.ox_addL, ↓Pt.ox_addT, ↓Pt.ox_sub, ↓Pt.ox_mul, ↓Pt.ox_div, ↓Pt.ox_mod, ↓Pt.ox_neg, ↓Pt.ox_lt, ↓Pt.ox_le, ↓Pt.ox_gt, ↓Pt.ox_ge, ↓Pt.ox_eq, ↓Pt.ox_ne, ↓Pt.ox_eqS, ↓Pt.ox_neS, ↓Pt.ox_eqL, ↓Pt.ox_neL, ↓Pt.ox_eqT, ↓Pt.ox_neT, ↓Pt.ox_ix0, ↓Pt.ox_ix1, ↓Pt.ox_ix2, ↓Pt.ox_ix3, ↓Pt.ox_ixT0, ↓Pt.ox_ixT1, ↓Pt.ox_ixT2, ↓Pt.ox_ixT3, ↓Pt.ox_pow20, ↓Pt.ox_lenL, ↓Pt.ox_lenT, ↓Pt.ox_int, ↓Pt.ox_abs, ↓Pt.ox_max, ↓Pt.ox_min, ↓Pt.ox_tup, ↓Pt.ox_tupT, ↓Pt.ox_list, ↓Pt.ox_listT, ↓Pt.ox_repr, ↓gt_isi, t1, l4, decide_true, Bool.not_true, Bool.not_false, go, List.length_nil, z0, ns, hs2, Bool.and_self, true_and, ne2, tf]
    · have l4 : ¬ ((ds.length : Nat) : Int) = 4 := by omega
      have tf : tableB (.tuple ds) = false := by
        unfold tableB
        split
        · rename_i a b c d e
          cases e
          exact absurd rfl h4
        · rfl
      simp -implicitDefEqProofs (disch := (first | assumption | decide)) only [↓Pt.gt_ok, ↓Pt.gt_bind, ↓Pt.gt_lift, ↓Pt.at_0, ↓Pt.at_s, ↓Pt.nt_0, ↓Pt.nt_s, ↓Pt.vd_d, ↓Pt.vd_h, ↓Pt.vo_l, ↓Pt.vo_k, ↓Pt.vo_t, ↓Pt.vl_l, ↓Pt.vs_s, ↓Pt.pu_0, ↓Pt.pu_s, ↓Pt.wi_0, ↓Pt.wi_s, ↓Pt.bp_n, ↓Pt.bp_t, ↓Pt.bp_l, ↓Pt.bps_0, ↓Pt.bps_s, ↓Pt.bo_t, ↓Pt.bo_f, ↓Pt.bo_not, ↓Pt.gt_var, ↓Pt.gt_own, ↓Pt.gt_c, ↓Pt.gt_bin, ↓Pt.gt_un, ↓Pt.gt_tst, ↓Pt.gt_andT, ↓Pt.gt_orT, ↓Pt.gt_notT, ↓Pt.gt_and, ↓Pt.gt_or, ↓Pt.gt_not, ↓Pt.gt_if, ↓Pt.gt_chain, ↓Pt.gt_nil, ↓Pt.gt_cons, ↓Pt.gt_consA, ↓Pt.gt_consS, ↓Pt.gt_tup, ↓Pt.gt_lst, ↓Pt.gt_fz, ↓Pt.gt_fzD, ↓Pt.gt_call, ↓Pt.gt_callL, ↓Pt.gt_callK, ↓Pt.gt_app, ↓Pt.gt_sl, ↓Pt.gt_none, ↓Pt.gt_some, ↓Pt.ls_l, ↓Pt.gt_rev, ↓Pt.gt_sq, ↓Pt.ox_some, ↓Pt.seq_l, ↓Pt.seq_t, ↓Pt.tst_b, ↓Pt.intD_i, ↓Pt.z1_i, ↓Pt.z2_i, ↓Pt.gt_rg1, ↓Pt.gt_rg1J, ↓Pt.gt_rg2, ↓Pt.gt_srcI, ↓Pt.gt_srcLen, ↓Pt.gt_lc, ↓Pt.gt_yes, ↓Pt.gl_nil, ↓Pt.gl_cons, ↓Pt.gl_ok, ↓Pt.vh_h, ↓Pt.vt_t, ↓Pt.gt_ht, ↓Pt.gt_tupL, ↓Pt.lst_l, ↓Pt.gt_newD, ↓Pt.tag_t, ↓Pt.gt_get2T, ↓Pt.key_3, ↓Pt.zp_l, ↓Pt.zp_t, ↓Pt.gt_zip, ↓Pt.pair_0, ↓Pt.pair_s, ↓Pt.gs_seq, ↓Pt.sq_nx, ↓Pt.sq_rt, ↓Pt.sq_bk, ↓Pt.sq_ct, ↓Pt.sq_ex, ↓Pt.gs_skip, ↓Pt.gs_brk, ↓Pt.gs_cnt, ↓Pt.gs_nx, ↓Pt.gs_put, ↓Pt.gs_putZ, ↓Pt.gt_map, ↓Pt.gs_ret, ↓Pt.gs_drop, ↓Pt.gs_if, ↓Pt.gs_bind, ↓Pt.gs_par, ↓Pt.gs_par3, ↓Pt.gs_for, ↓Pt.fg_nx, ↓Pt.fg_ct, ↓Pt.fg_bk, ↓Pt.fg_rt, ↓Pt.gs_frz, ↓Pt.fe_s, ↓Pt.fe_l, ↓Pt.fe_k, ↓Pt.fe_t, ↓Pt.fe_d, ↓Pt.gs_apd, ↓Pt.gs_putT, ↓Pt.gs_srcPut, ↓Pt.ox_add, ↓Pt.ox_addL, ↓Pt.ox_addT, ↓Pt.ox_sub, ↓Pt.ox_mul, ↓Pt.ox_div, ↓Pt.ox_mod, ↓Pt.ox_neg, ↓Pt.ox_lt, ↓Pt.ox_le, ↓Pt.ox_gt, ↓Pt.ox_ge, ↓Pt.ox_eq, ↓Pt.ox_ne, ↓Pt.ox_eqS, ↓Pt.ox_neS, ↓Pt.ox_eqL, ↓Pt.ox_neL, ↓Pt.ox_eqT, ↓Pt.ox_neT, ↓Pt.ox_ix0, ↓Pt.ox_ix1, ↓Pt.ox_ix2, ↓Pt.ox_ix3, ↓Pt.ox_ixT0, ↓Pt.ox_ixT1, ↓Pt.ox_ixT2, ↓Pt.ox_ixT3, ↓Pt.ox_pow20, ↓Pt.ox_lenL, ↓Pt.ox_lenT, ↓Pt.ox_int, ↓Pt.ox_abs, ↓Pt.ox_max, ↓Pt.ox_min, ↓Pt.ox_tup, ↓Pt.ox_tupT, ↓Pt.ox_list, ↓Pt.ox_listT, ↓Pt.ox_repr, ↓gt_isi, t1, l4, decide_false, Bool.not_true, Bool.not_false, tf]
  | none =>
    have t0 : isB "tuple" (tyNm .none) = false := rfl
    simp -implicitDefEqProofs (disch := (first | omega | assumption | exact Pt.mul_r (by omega) (by omega) | exact Pt.mul_l (by omega) (by omega) | exact ml _ _ | decide)) only [↓Pt.gt_ok, ↓Pt.gt_bind, ↓Pt.gt_lift, ↓Pt.at_0, ↓Pt.at_s, ↓Pt.nt_0, ↓Pt.nt_s, ↓Pt.vd_d, ↓Pt.vd_h, ↓Pt.vo_l, ↓Pt.vo_k, ↓Pt.vo_t, ↓Pt.vl_l, ↓Pt.vs_s, ↓Pt.pu_0, ↓Pt.pu_s, ↓Pt.wi_0, ↓Pt.wi_s, ↓Pt.bp_n, ↓Pt.bp_t, ↓Pt.bp_l, ↓Pt.bps_0, ↓Pt.bps_s, ↓Pt.bo_t, ↓Pt.bo_f, ↓Pt.bo_not, ↓Pt.gt_var, ↓Pt.gt_own, ↓Pt.gt_c, ↓Pt.gt_bin, ↓Pt.gt_un, ↓Pt.gt_tst, ↓Pt.gt_andT, ↓Pt.gt_orT, ↓Pt.gt_notT, ↓Pt.gt_and, ↓Pt.gt_or, ↓Pt.gt_not, ↓Pt.gt_if, ↓Pt.gt_chain, ↓Pt.gt_nil, ↓Pt.gt_cons, ↓Pt.gt_consA, ↓Pt.gt_consS, ↓Pt.gt_tup, ↓Pt.gt_lst, ↓Pt.gt_fz, ↓Pt.gt_fzD, ↓Pt.gt_call, ↓Pt.gt_callL, ↓Pt.gt_callK, ↓Pt.gt_app, ↓Pt.gt_sl, ↓Pt.gt_none, ↓Pt.gt_some, ↓Pt.ls_l, ↓Pt.gt_rev, ↓Pt.gt_sq, ↓Pt.ox_some, ↓Pt.seq_l, ↓Pt.seq_t, ↓Pt.tst_b, ↓Pt.intD_i, ↓Pt.z1_i, ↓Pt.z2_i, ↓Pt.gt_rg1, ↓Pt.gt_rg1J, ↓Pt.gt_rg2, ↓Pt.gt_srcI, ↓Pt.gt_srcLen, ↓Pt.gt_lc, ↓Pt.gt_yes, ↓Pt.gl_nil, ↓Pt.gl_cons, ↓Pt.gl_ok, ↓Pt.vh_h, ↓Pt.vt_t, ↓Pt.gt_ht, ↓Pt.gt_tupL, ↓Pt.lst_l, ↓Pt.gt_newD, ↓Pt.tag_t, ↓Pt.gt_get2T, ↓Pt.key_3, ↓Pt.zp_l, ↓Pt.zp_t, ↓Pt.gt_zip, ↓Pt.pair_0, ↓Pt.pair_s, ↓Pt.gs_seq, ↓Pt.sq_nx, ↓Pt.sq_rt, ↓Pt.sq_bk, ↓Pt.sq_ct, ↓Pt.sq_ex, ↓Pt.gs_skip, ↓Pt.gs_brk, ↓Pt.gs_cnt, ↓Pt.gs_nx, ↓Pt.gs_put, ↓Pt.gs_putZ, ↓Pt.gt_map, ↓Pt.gs_ret, ↓Pt.gs_drop, ↓Pt.gs_if, ↓Pt.gs_bind, ↓Pt.gs_par, ↓Pt.gs_par3, ↓Pt.gs_for, ↓Pt.fg_nx, ↓Pt.fg_ct, ↓Pt.fg_bk, ↓Pt.fg_rt, ↓Pt.gs_frz, ↓Pt.fe_s, ↓Pt.fe_l, ↓Pt.fe_k, ↓Pt.fe_t, ↓Pt.fe_d, ↓Pt.gs_apd, ↓Pt.gs_putT, ↓Pt.gs_srcPut, ↓Pt.ox_add, ↓Pt.ox_addL, ↓Pt.ox_addT, ↓Pt.ox_sub, ↓Pt.ox_mul, ↓Pt.ox_div, ↓Pt.ox_mod, ↓Pt.ox_neg, ↓Pt.ox_lt, ↓Pt.ox_le, ↓Pt.ox_gt, ↓Pt.ox_ge, ↓Pt.ox_eq, ↓Pt.ox_ne, ↓Pt.ox_eqS, ↓Pt.ox_neS, ↓Pt.ox_eqL, ↓Pt.ox_neL, ↓Pt.ox_eqT, ↓Pt.ox_neT, ↓Pt.ox_ix0, ↓Pt.ox_ix1, ↓Pt.ox_ix2, ↓Pt.ox_ix3, ↓Pt.ox_ixT0, ↓Pt.ox_ixT1, ↓Pt.ox_ixT2, ↓Pt.ox_ixT3, ↓Pt.ox_pow20, ↓Pt.ox_lenL, ↓Pt.ox_lenT, ↓Pt.ox_int, ↓Pt.ox_abs, ↓Pt.ox_max, ↓Pt.ox_min, ↓Pt.ox_tup, ↓Pt.ox_tupT, ↓Pt.ox_list, ↓Pt.ox_listT, ↓Pt.ox_repr, ↓gt_isi, t0, Bool.not_false]
    rfl
  | bool x =>
    have t0 : isB "tuple" (tyNm (.bool x)) = false := rfl
    simp -implicitDefEqProofs (disch := (first | omega | assumption | exact Pt.mul_r (by omega) (by omega) | exact Pt.mul_l (by omega) (by omega) | exact ml _ _ | decide)) only [↓Pt.gt_ok, ↓Pt.gt_bind, ↓Pt.gt_lift, ↓Pt.at_0, ↓Pt.at_s, ↓Pt.nt_0, ↓Pt.nt_s, ↓Pt.vd_d, ↓Pt.vd_h, ↓Pt.vo_l, ↓Pt.vo_k, ↓Pt.vo_t, ↓Pt.vl_l, ↓Pt.vs_s, ↓Pt.pu_0, ↓Pt.pu_s, ↓Pt.wi_0, ↓Pt.wi_s, ↓Pt.bp_n, ↓Pt.bp_t, ↓Pt.bp_l, ↓Pt.bps_0, ↓Pt.bps_s, ↓Pt.bo_t, ↓Pt.bo_f, ↓Pt.bo_not, ↓Pt.gt_var, ↓Pt.gt_own, ↓Pt.gt_c, ↓Pt.gt_bin, ↓Pt.gt_un, ↓Pt.gt_tst, ↓Pt.gt_andT, ↓Pt.gt_orT, ↓Pt.gt_notT, ↓Pt.gt_and, ↓Pt.gt_or, ↓Pt.gt_not, ↓Pt.gt_if, ↓Pt.gt_chain, ↓Pt.gt_nil, ↓Pt.gt_cons, ↓Pt.gt_consA, ↓Pt.gt_consS, ↓Pt.gt_tup, ↓Pt.gt_lst, ↓Pt.gt_fz, ↓Pt.gt_fzD, ↓Pt.gt_call, ↓Pt.gt_callL, ↓Pt.gt_callK, ↓Pt.gt_app, ↓Pt.gt_sl, ↓Pt.gt_none, ↓Pt.gt_some, ↓Pt.ls_l, ↓Pt.gt_rev, ↓Pt.gt_sq, ↓Pt.ox_some, ↓Pt.seq_l, ↓Pt.seq_t, ↓Pt.tst_b, ↓Pt.intD_i, ↓Pt.z1_i, ↓Pt.z2_i, ↓Pt.gt_rg1, ↓Pt.gt_rg1J, ↓Pt.gt_rg2, ↓Pt.gt_srcI, ↓Pt.gt_srcLen, ↓Pt.gt_lc, ↓Pt.gt_yes, ↓Pt.gl_nil, ↓Pt.gl_cons, ↓Pt.gl_ok, ↓Pt.vh_h, ↓Pt.vt_t, ↓Pt.gt_ht, ↓Pt.gt_tupL, ↓Pt.lst_l, ↓Pt.gt_newD, ↓Pt.tag_t, ↓Pt.gt_get2T, ↓Pt.key_3, ↓Pt.zp_l, ↓Pt.zp_t, ↓Pt.gt_zip, ↓Pt.pair_0, ↓Pt.pair_s, ↓Pt.gs_seq, ↓Pt.sq_nx, ↓Pt.sq_rt, ↓Pt.sq_bk, ↓Pt.sq_ct, ↓Pt.sq_ex, ↓Pt.gs_skip, ↓Pt.gs_brk, ↓Pt.gs_cnt, ↓Pt.gs_nx, ↓Pt.gs_put, ↓Pt.gs_putZ, ↓Pt.gt_map, ↓Pt.gs_ret, ↓Pt.gs_drop, ↓Pt.gs_if, ↓Pt.gs_bind, ↓Pt.gs_par, ↓Pt.gs_par3, ↓Pt.gs_for, ↓Pt.fg_nx, ↓Pt.fg_ct, ↓Pt.fg_bk, ↓Pt.fg_rt, ↓Pt.gs_frz, ↓Pt.fe_s, ↓Pt.fe_l, ↓Pt.fe_k, ↓Pt.fe_t, ↓Pt.fe_d, ↓Pt.gs_apd, ↓Pt.gs_putT, ↓Pt.gs_srcPut, ↓Pt.ox_add, ↓Pt.ox_addL, ↓Pt.ox_addT, ↓Pt.ox_sub, ↓Pt.ox_mul, ↓Pt.ox_div, ↓Pt.ox_mod, ↓Pt.ox_neg, ↓Pt.ox_lt, ↓Pt.ox_le, ↓Pt.ox_gt, ↓Pt.ox_ge, ↓Pt.ox_eq, ↓Pt.ox_ne, ↓Pt.ox_eqS, ↓Pt.ox_neS, ↓Pt.ox_eqL, ↓Pt.ox_neL, ↓Pt.ox_eqT, ↓Pt.ox_neT, ↓Pt.ox_ix0, ↓Pt.ox_ix1, ↓Pt.ox_ix2, ↓Pt.ox_ix3, ↓Pt.ox_ixT0, ↓Pt.ox_ixT1, ↓Pt.ox_ixT2, ↓Pt.ox_ixT3, ↓Pt.ox_pow20, ↓Pt.ox_lenL, ↓Pt.ox_lenT, ↓Pt.ox_int, ↓Pt.ox_abs, ↓Pt.ox_max, ↓Pt.ox_min, ↓Pt.ox_tup, ↓Pt.ox_tupT, ↓Pt.ox_list, ↓Pt.ox_listT, ↓Pt.ox_repr, ↓gt_isi, t0, Bool.not_false]
    rfl
  | int x =>
    have t0 : isB "tuple" (tyNm (.int x)) = false := rfl
    simp -implicitDefEqProofs (disch := (first | omega | assumption | exact Pt.mul_r (by omega) (by omega) | exact Pt.mul_l (by omega) (by omega) | exact ml _ _ | decide)) only [↓Pt.gt_ok, ↓Pt.gt_bind, ↓Pt.gt_lift, ↓Pt.at_0, ↓Pt.at_s, ↓Pt.nt_0, ↓Pt.nt_s, ↓Pt.vd_d, ↓Pt.vd_h, ↓Pt.vo_l, ↓Pt.vo_k, ↓Pt.vo_t, ↓Pt.vl_l, ↓Pt.vs_s, ↓Pt.pu_0, ↓Pt.pu_s, ↓Pt.wi_0, ↓Pt.wi_s, ↓Pt.bp_n, ↓Pt.bp_t, ↓Pt.bp_l, ↓Pt.bps_0, ↓Pt.bps_s, ↓Pt.bo_t, ↓Pt.bo_f, ↓Pt.bo_not, ↓Pt.gt_var, ↓Pt.gt_own, ↓Pt.gt_c, ↓Pt.gt_bin, ↓Pt.gt_un, ↓Pt.gt_tst, ↓Pt.gt_andT, ↓Pt.gt_orT, ↓Pt.gt_notT, ↓Pt.gt_and, ↓Pt.gt_or, ↓Pt.gt_not, ↓Pt.gt_if, ↓Pt.gt_chain, ↓Pt.gt_nil, ↓Pt.gt_cons, ↓Pt.gt_consA, ↓Pt.gt_consS, ↓Pt.gt_tup, ↓Pt.gt_lst, ↓Pt.gt_fz, ↓Pt.gt_fzD, ↓Pt.gt_call, ↓Pt.gt_callL, ↓Pt.gt_callK, ↓Pt.gt_app, ↓Pt.gt_sl, ↓Pt.gt_none, ↓Pt.gt_some, ↓Pt.ls_l, ↓Pt.gt_rev, ↓Pt.gt_sq, ↓Pt.ox_some, ↓Pt.seq_l, ↓Pt.seq_t, ↓Pt.tst_b, ↓Pt.intD_i, ↓Pt.z1_i, ↓Pt.z2_i, ↓Pt.gt_rg1, ↓Pt.gt_rg1J, ↓Pt.gt_rg2, ↓Pt.gt_srcI, ↓Pt.gt_srcLen, ↓Pt.gt_lc, ↓Pt.gt_yes, ↓Pt.gl_nil, ↓Pt.gl_cons, ↓Pt.gl_ok, ↓Pt.vh_h, ↓Pt.vt_t, ↓Pt.gt_ht, ↓Pt.gt_tupL, ↓Pt.lst_l, ↓Pt.gt_newD, ↓Pt.tag_t, ↓Pt.gt_get2T, ↓Pt.key_3, ↓Pt.zp_l, ↓Pt.zp_t, ↓Pt.gt_zip, ↓Pt.pair_0, ↓Pt.pair_s, ↓Pt.gs_seq, ↓Pt.sq_nx, ↓Pt.sq_rt, ↓Pt.sq_bk, ↓Pt.sq_ct, ↓Pt.sq_ex, ↓Pt.gs_skip, ↓Pt.gs_brk, ↓Pt.gs_cnt, ↓Pt.gs_nx, ↓Pt.gs_put, ↓Pt.gs_putZ, ↓Pt.gt_map, ↓Pt.gs_ret, ↓Pt.gs_drop, ↓Pt.gs_if, ↓Pt.gs_bind, ↓Pt.gs_par, ↓Pt.gs_par3, ↓Pt.gs_for, ↓Pt.fg_nx, ↓Pt.fg_ct, ↓Pt.fg_bk, ↓Pt.fg_rt, ↓Pt.gs_frz, ↓Pt.fe_s, ↓Pt.fe_l, ↓Pt.fe_k, ↓Pt.fe_t, ↓Pt.fe_d, ↓Pt.gs_apd, ↓Pt.gs_putT, ↓Pt.gs_srcPut, ↓Pt.ox_add, ↓Pt.ox_addL, ↓Pt.ox_addT, ↓Pt.ox_sub, ↓Pt.ox_mul, ↓Pt.ox_div, ↓Pt.ox_mod, ↓Pt.ox_neg, ↓Pt.ox_lt, ↓Pt.ox_le, ↓Pt.ox_gt, ↓Pt.ox_ge, ↓Pt.ox_eq, ↓Pt.ox_ne, ↓Pt.ox_eqS, ↓Pt.ox_neS, ↓Pt.ox_eqL, ↓Pt.ox_neL, ↓Pt.ox_eqT, ↓Pt.ox_neT, ↓Pt.ox_ix0, ↓Pt.ox_ix1, ↓Pt.ox_ix2, ↓Pt.ox_ix3, ↓Pt.ox_ixT0, ↓Pt.ox_ixT1, ↓Pt.ox_ixT2, ↓Pt.ox_ixT3, ↓Pt.ox_pow20, ↓Pt.ox_lenL, ↓Pt.ox_lenT, ↓Pt.ox_int, ↓Pt.ox_abs, ↓Pt.ox_max, ↓Pt.ox_min, ↓Pt.ox_tup, ↓Pt.ox_tupT, ↓Pt.ox_list, ↓Pt.ox_listT, ↓Pt.ox_repr, ↓gt_isi, t0, Bool.not_false]
    rfl
  | str x =>
    have t0 : isB "tuple" (tyNm (.str x)) = false := rfl
    simp -implicitDefEqProofs (disch := (first | omega | assumption | exact Pt.mul_r (by omega) (by omega) | exact Pt.mul_l (by omega) (by omega) | exact ml _ _ | decide)) only [↓Pt.gt_ok, ↓Pt.gt_bind, ↓Pt.gt_lift, ↓Pt.at_0, ↓Pt.at_s, ↓Pt.nt_0, ↓Pt.nt_s, ↓Pt.vd_d, ↓Pt.vd_h, ↓Pt.vo_l, ↓Pt.vo_k, ↓Pt.vo_t, ↓Pt.vl_l, ↓Pt.vs_s, ↓Pt.pu_0, ↓Pt.pu_s, ↓Pt.wi_0, ↓Pt.wi_s, ↓Pt.bp_n, ↓Pt.bp_t, ↓Pt.bp_l, ↓Pt.bps_0, ↓Pt.bps_s, ↓Pt.bo_t, ↓Pt.bo_f, ↓Pt.bo_not, ↓Pt.gt_var, ↓Pt.gt_own, ↓Pt.gt_c, ↓Pt.gt_bin, ↓Pt.gt_un, ↓Pt.gt_tst, ↓Pt.gt_andT, ↓Pt.gt_orT, ↓Pt.gt_notT, ↓Pt.gt_and, ↓Pt.gt_or, ↓Pt.gt_not, ↓Pt.gt_if, ↓Pt.gt_chain, ↓Pt.gt_nil, ↓Pt.gt_cons, ↓Pt.gt_consA, ↓Pt.gt_consS, ↓Pt.gt_tup, ↓Pt.gt_lst, ↓Pt.gt_fz, ↓Pt.gt_fzD, ↓Pt.gt_call, ↓Pt.gt_callL, ↓Pt.gt_callK, ↓Pt.gt_app, ↓Pt.gt_sl, ↓Pt.gt_none, ↓Pt.gt_some, ↓Pt.ls_l, ↓Pt.gt_rev, ↓Pt.gt_sq, ↓Pt.ox_some, ↓Pt.seq_l, ↓Pt.seq_t, ↓Pt.tst_b, ↓Pt.intD_i, ↓Pt.z1_i, ↓Pt.z2_i, ↓Pt.gt_rg1, ↓Pt.gt_rg1J, ↓Pt.gt_rg2, ↓Pt.gt_srcI, ↓Pt.gt_srcLen, ↓Pt.gt_lc, ↓Pt.gt_yes, ↓Pt.gl_nil, ↓Pt.gl_cons, ↓Pt.gl_ok, ↓Pt.vh_h, ↓Pt.vt_t, ↓Pt.gt_ht, ↓Pt.gt_tupL, ↓Pt.lst_l, ↓Pt.gt_newD, ↓Pt.tag_t, ↓Pt.gt_get2T, ↓Pt.key_3, ↓Pt.zp_l, ↓Pt.zp_t, ↓Pt.gt_zip, ↓Pt.pair_0, ↓Pt.pair_s, ↓Pt.gs_seq, ↓Pt.sq_nx, ↓Pt.sq_rt, ↓Pt.sq_bk, ↓Pt.sq_ct, ↓Pt.sq_ex, ↓Pt.gs_skip, ↓Pt.gs_brk, ↓Pt.gs_cnt, ↓Pt.gs_nx, ↓Pt.gs_put, ↓Pt.gs_putZ, ↓Pt.gt_map, ↓Pt.gs_ret, ↓Pt.gs_drop, ↓Pt.gs_if, ↓Pt.gs_bind, ↓Pt.gs_par, ↓Pt.gs_par3, ↓Pt.gs_for, ↓Pt.fg_nx, ↓Pt.fg_ct, ↓Pt.fg_bk, ↓Pt.fg_rt, ↓Pt.gs_frz, ↓Pt.fe_s, ↓Pt.fe_l, ↓Pt.fe_k, ↓Pt.fe_t, ↓Pt.fe_d, ↓Pt.gs_apd, ↓Pt.gs_putT, ↓Pt.gs_srcPut, ↓Pt.ox_add, ↓Pt.ox_addL, ↓Pt.ox_addT, ↓Pt.ox_sub, ↓Pt.ox_mul, ↓Pt.ox_div, ↓Pt.ox_mod, ↓Pt.ox_neg, ↓Pt.ox_lt, ↓Pt.ox_le, ↓Pt.ox_gt, ↓Pt.ox_ge, ↓Pt.ox_eq, ↓Pt.ox_ne, ↓Pt.ox_eqS, ↓Pt.ox_neS, ↓Pt.ox_eqL, ↓Pt.ox_neL, ↓Pt.ox_eqT, ↓Pt.ox_neT, ↓Pt.ox_ix0, ↓Pt.ox_ix1, ↓Pt.ox_ix2, ↓Pt.ox_ix3, ↓Pt.ox_ixT0, ↓Pt.ox_ixT1, ↓Pt.ox_ixT2, ↓Pt.ox_ixT3, ↓Pt.ox_pow20, ↓Pt.ox_lenL, ↓Pt.ox_lenT, ↓Pt.ox_int, ↓Pt.ox_abs, ↓Pt.ox_max, ↓Pt.ox_min, ↓Pt.ox_tup, ↓Pt.ox_tupT, ↓Pt.ox_list, ↓Pt.ox_listT, ↓Pt.ox_repr, ↓gt_isi, t0, Bool.not_false]
    rfl
  | list x =>
    have t0 : isB "tuple" (tyNm (.list x)) = false := rfl
    simp -implicitDefEqProofs (disch := (first | omega | assumption | exact Pt.mul_r (by omega) (by omega) | exact Pt.mul_l (by omega) (by omega) | exact ml _ _ | decide)) only [↓Pt.gt_ok, ↓Pt.gt_bind, ↓Pt.gt_lift, ↓Pt.at_0, ↓Pt.at_s, ↓Pt.nt_0, ↓Pt.nt_s, ↓Pt.vd_d, ↓Pt.vd_h, ↓Pt.vo_l, ↓Pt.vo_k, ↓Pt.vo_t, ↓Pt.vl_l, ↓Pt.vs_s, ↓Pt.pu_0, ↓Pt.pu_s, ↓Pt.wi_0, ↓Pt.wi_s, ↓Pt.bp_n, ↓Pt.bp_t, ↓Pt.bp_l, ↓Pt.bps_0, ↓Pt.bps_s, ↓Pt.bo_t, ↓Pt.bo_f, ↓Pt.bo_not, ↓Pt.gt_var, ↓Pt.gt_own, ↓Pt.gt_c, ↓Pt.gt_bin, ↓Pt.gt_un, ↓Pt.gt_tst, ↓Pt.gt_andT, ↓Pt.gt_orT, ↓Pt.gt_notT, ↓Pt.gt_and, ↓Pt.gt_or, ↓Pt.gt_not, ↓Pt.gt_if, ↓Pt.gt_chain, ↓Pt.gt_nil, ↓Pt.gt_cons, ↓Pt.gt_consA, ↓Pt.gt_consS, ↓Pt.gt_tup, ↓Pt.gt_lst, ↓Pt.gt_fz, ↓Pt.gt_fzD, ↓Pt.gt_call, ↓Pt.gt_callL, ↓Pt.gt_callK, ↓Pt.gt_app, ↓Pt.gt_sl, ↓Pt.gt_none, ↓Pt.gt_some, ↓Pt.ls_l, ↓Pt.gt_rev, ↓Pt.gt_sq, ↓Pt.ox_some, ↓Pt.seq_l, ↓Pt.seq_t, ↓Pt.tst_b, ↓Pt.intD_i, ↓Pt.z1_i, ↓Pt.z2_i, ↓Pt.gt_rg1, ↓Pt.gt_rg1J, ↓Pt.gt_rg2, ↓Pt.gt_srcI, ↓Pt.gt_srcLen, ↓Pt.gt_lc, ↓Pt.gt_yes, ↓Pt.gl_nil, ↓Pt.gl_cons, ↓Pt.gl_ok, ↓Pt.vh_h, ↓Pt.vt_t, ↓Pt.gt_ht, ↓Pt.gt_tupL, ↓Pt.lst_l, ↓Pt.gt_newD, ↓Pt.tag_t, ↓Pt.gt_get2T, ↓Pt.key_3, ↓Pt.zp_l, ↓Pt.zp_t, ↓Pt.gt_zip, ↓Pt.pair_0, ↓Pt.pair_s, ↓Pt.gs_seq, ↓Pt.sq_nx, ↓Pt.sq_rt, ↓Pt.sq_bk, ↓Pt.sq_ct, ↓Pt.sq_ex, ↓Pt.gs_skip, ↓Pt.gs_brk, ↓Pt.gs_cnt, ↓Pt.gs_nx, ↓Pt.gs_put, ↓Pt.gs_putZ, ↓Pt.gt_map, ↓Pt.gs_ret, ↓Pt.gs_drop, ↓Pt.gs_if, ↓Pt.gs_bind, ↓Pt.gs_par, ↓Pt.gs_par3, ↓Pt.gs_for, ↓Pt.fg_nx, ↓Pt.fg_ct, ↓Pt.fg_bk, ↓Pt.fg_rt, ↓Pt.gs_frz, ↓Pt.fe_s, ↓Pt.fe_l, ↓Pt.fe_k, ↓Pt.fe_t, ↓Pt.fe_d, ↓Pt.gs_apd, ↓Pt.gs_putT, ↓Pt.gs_srcPut, ↓Pt.ox_add, ↓Pt.ox_addL, ↓Pt.ox_addT, ↓Pt.ox_sub, ↓Pt.ox_mul, ↓Pt.ox_div, ↓Pt.ox_mod, ↓Pt.ox_neg, ↓Pt.ox_lt, ↓Pt.ox_le, ↓Pt.ox_gt, ↓Pt.ox_ge, ↓Pt.ox_eq, ↓Pt.ox_ne, ↓Pt.ox_eqS, ↓Pt.ox_neS, ↓Pt.ox_eqL, ↓Pt.ox_neL, ↓Pt.ox_eqT, ↓Pt.ox_neT, ↓Pt.ox_ix0, ↓Pt.ox_ix1, ↓Pt.ox_ix2, ↓Pt.ox_ix3, ↓Pt.ox_ixT0, ↓Pt.ox_ixT1, ↓Pt.ox_ixT2, ↓Pt.ox_ixT3, ↓Pt.ox_pow20, ↓Pt.ox_lenL, ↓Pt.ox_lenT, ↓Pt.ox_int, ↓Pt.ox_abs, ↓Pt.ox_max, ↓Pt.ox_min, ↓Pt.ox_tup, ↓Pt.ox_tupT, ↓Pt.ox_list, ↓Pt.ox_listT, ↓Pt.ox_repr, ↓gt_isi, t0, Bool.not_false]
    rfl
  | dict x =>
    have t0 : isB "tuple" (tyNm (.dict x)) = false := rfl
    simp -implicitDefEqProofs (disch := (first | omega | assumption | exact Pt.mul_r (by omega) (by omega) | exact Pt.mul_l (by omega) (by omega) | exact ml _ _ | decide)) only [↓Pt.gt_ok, ↓Pt.gt_bind, ↓Pt.gt_lift, ↓Pt.at_0, ↓Pt.at_s, ↓Pt.nt_0, ↓Pt.nt_s, ↓Pt.vd_d, ↓Pt.vd_h, ↓Pt.vo_l, ↓Pt.vo_k, ↓Pt.vo_t, ↓Pt.vl_l, ↓Pt.vs_s, ↓Pt.pu_0, ↓Pt.pu_s, ↓Pt.wi_0, ↓Pt.wi_s, ↓Pt.bp_n, ↓Pt.bp_t, ↓Pt.bp_l, ↓Pt.bps_0, ↓Pt.bps_s, ↓Pt.bo_t, ↓Pt.bo_f, ↓Pt.bo_not, ↓Pt.gt_var, ↓Pt.gt_own, ↓Pt.gt_c, ↓Pt.gt_bin, ↓Pt.gt_un, ↓Pt.gt_tst, ↓Pt.gt_andT, ↓Pt.gt_orT, ↓Pt.gt_notT, ↓Pt.gt_and, ↓Pt.gt_or, ↓Pt.gt_not, ↓Pt.gt_if, ↓Pt.gt_chain, ↓Pt.gt_nil, ↓Pt.gt_cons, ↓Pt.gt_consA, ↓Pt.gt_consS, ↓Pt.gt_tup, ↓Pt.gt_lst, ↓Pt.gt_fz, ↓Pt.gt_fzD, ↓Pt.gt_call, ↓Pt.gt_callL, ↓Pt.gt_callK, ↓Pt.gt_app, ↓Pt.gt_sl, ↓Pt.gt_none, ↓Pt.gt_some, ↓Pt.ls_l, ↓Pt.gt_rev, ↓Pt.gt_sq, ↓Pt.ox_some, ↓Pt.seq_l, ↓Pt.seq_t, ↓Pt.tst_b, ↓Pt.intD_i, ↓Pt.z1_i, ↓Pt.z2_i, ↓Pt.gt_rg1, ↓Pt.gt_rg1J, ↓Pt.gt_rg2, ↓Pt.gt_srcI, ↓Pt.gt_srcLen, ↓Pt.gt_lc, ↓Pt.gt_yes, ↓Pt.gl_nil, ↓Pt.gl_cons, ↓Pt.gl_ok, ↓Pt.vh_h, ↓Pt.vt_t, ↓Pt.gt_ht, ↓Pt.gt_tupL, ↓Pt.lst_l, ↓Pt.gt_newD, ↓Pt.tag_t, ↓Pt.gt_get2T, ↓Pt.key_3, ↓Pt.zp_l, ↓Pt.zp_t, ↓Pt.gt_zip, ↓Pt.pair_0, ↓Pt.pair_s, ↓Pt.gs_seq, ↓Pt.sq_nx, ↓Pt.sq_rt, ↓Pt.sq_bk, ↓Pt.sq_ct, ↓Pt.sq_ex, ↓Pt.gs_skip, ↓Pt.gs_brk, ↓Pt.gs_cnt, ↓Pt.gs_nx, ↓Pt.gs_put, ↓Pt.gs_putZ, ↓Pt.gt_map, ↓Pt.gs_ret, ↓Pt.gs_drop, ↓Pt.gs_if, ↓Pt.gs_bind, ↓Pt.gs_par, ↓Pt.gs_par3, ↓Pt.gs_for, ↓Pt.fg_nx, ↓Pt.fg_ct, ↓Pt.fg_bk, ↓Pt.fg_rt, ↓Pt.gs_frz, ↓Pt.fe_s, ↓Pt.fe_l, ↓Pt.fe_k, ↓Pt.fe_t, ↓Pt.fe_d, ↓Pt.gs_apd, ↓Pt.gs_putT, ↓Pt.gs_srcPut, ↓Pt.ox_add, ↓Pt.ox_addL, ↓Pt.ox_addT, ↓Pt.ox_sub, ↓Pt.ox_mul, ↓Pt.ox_div, ↓Pt.ox_mod, ↓Pt.ox_neg, ↓Pt.ox_lt, ↓Pt.ox_le, ↓Pt.ox_gt, ↓Pt.ox_ge, ↓Pt.ox_eq, ↓Pt.ox_ne, ↓Pt.ox_eqS, ↓Pt.ox_neS, ↓Pt.ox_eqL, ↓Pt.ox_neL, ↓Pt.ox_eqT, ↓Pt.ox_neT, ↓Pt.ox_ix0, ↓Pt.ox_ix1, ↓Pt.ox_ix2, ↓Pt.ox_ix3, ↓Pt.ox_ixT0, ↓Pt.ox_ixT1, ↓Pt.ox_ixT2, ↓Pt.ox_ixT3, ↓Pt.ox_pow20, ↓Pt.ox_lenL, ↓Pt.ox_lenT, ↓Pt.ox_int, ↓Pt.ox_abs, ↓Pt.ox_max, ↓Pt.ox_min, ↓Pt.ox_tup, ↓Pt.ox_tupT, ↓Pt.ox_list, ↓Pt.ox_listT, ↓Pt.ox_repr, ↓gt_isi, t0, Bool.not_false]
    rfl

theorem F_iskept (m : M4) (u v : Int) (s : Src) (hm : m.le (10 ^ 10)) (hu : u.natAbs ≤ 10 ^ 10) (hv : v.natAbs ≤ 10 ^ 10) : F_law_is_kept [.d m.D, .d (.tuple [.int u, .int v])] s = .ok (.bool (decide (m.kf u v = 0))) s := by
  refine run_ok (e0 := [.d m.D, .d (.tuple [.int u, .int v]), .un, .un]) ?_
  obtain ⟨h1, h2, h3, h4⟩ := hm
  have ml : ∀ a b : Int, a.natAbs ≤ 10 ^ 30 → b.natAbs ≤ 10 ^ 10 → mulB a b = true := fun a b h1 h2 => big_ok (Nat.le_trans h1 (by decide)) (Nat.le_trans h2 (by decide))
  have q1 := ml m.a u (Nat.le_trans h1 (by decide)) hu
  have q2 := ml m.b v (Nat.le_trans h2 (by decide)) hv
  have q3 := ml m.c u (Nat.le_trans h3 (by decide)) hu
  have q4 := ml m.d v (Nat.le_trans h4 (by decide)) hv
  have p1 := mul_le' h1 hu
  have p2 := mul_le' h2 hv
  have p3 := mul_le' h3 hu
  have p4 := mul_le' h4 hv
  have q5 := ml (m.a * u + m.b * v) v (by omega) hv
  have q6 := ml (m.c * u + m.d * v) u (by omega) hu
  have e : (decide ((m.a * u + m.b * v) * v = (m.c * u + m.d * v) * u)) = decide (m.kf u v = 0) := by
    unfold M4.kf
    exact decide_eq_decide.mpr ⟨fun z => by omega, fun z => by omega⟩
  unfold m_law_is_kept M4.D
  simp -implicitDefEqProofs (disch := (first | assumption | decide)) only [↓Pt.gt_ok, ↓Pt.gt_bind, ↓Pt.gt_lift, ↓Pt.at_0, ↓Pt.at_s, ↓Pt.nt_0, ↓Pt.nt_s, ↓Pt.vd_d, ↓Pt.vd_h, ↓Pt.vo_l, ↓Pt.vo_k, ↓Pt.vo_t, ↓Pt.vl_l, ↓Pt.vs_s, ↓Pt.pu_0, ↓Pt.pu_s, ↓Pt.wi_0, ↓Pt.wi_s, ↓Pt.bp_n, ↓Pt.bp_t, ↓Pt.bp_l, ↓Pt.bps_0, ↓Pt.bps_s, ↓Pt.bo_t, ↓Pt.bo_f, ↓Pt.bo_not, ↓Pt.gt_var, ↓Pt.gt_own, ↓Pt.gt_c, ↓Pt.gt_bin, ↓Pt.gt_un, ↓Pt.gt_tst, ↓Pt.gt_andT, ↓Pt.gt_orT, ↓Pt.gt_notT, ↓Pt.gt_and, ↓Pt.gt_or, ↓Pt.gt_not, ↓Pt.gt_if, ↓Pt.gt_chain, ↓Pt.gt_nil, ↓Pt.gt_cons, ↓Pt.gt_consA, ↓Pt.gt_consS, ↓Pt.gt_tup, ↓Pt.gt_lst, ↓Pt.gt_fz, ↓Pt.gt_fzD, ↓Pt.gt_call, ↓Pt.gt_callL, ↓Pt.gt_callK, ↓Pt.gt_app, ↓Pt.gt_sl, ↓Pt.gt_none, ↓Pt.gt_some, ↓Pt.ls_l, ↓Pt.gt_rev, ↓Pt.gt_sq, ↓Pt.ox_some, ↓Pt.seq_l, ↓Pt.seq_t, ↓Pt.tst_b, ↓Pt.intD_i, ↓Pt.z1_i, ↓Pt.z2_i, ↓Pt.gt_rg1, ↓Pt.gt_rg1J, ↓Pt.gt_rg2, ↓Pt.gt_srcI, ↓Pt.gt_srcLen, ↓Pt.gt_lc, ↓Pt.gt_yes, ↓Pt.gl_nil, ↓Pt.gl_cons, ↓Pt.gl_ok, ↓Pt.vh_h, ↓Pt.vt_t, ↓Pt.gt_ht, ↓Pt.gt_tupL, ↓Pt.lst_l, ↓Pt.gt_newD, ↓Pt.tag_t, ↓Pt.gt_get2T, ↓Pt.key_3, ↓Pt.zp_l, ↓Pt.zp_t, ↓Pt.gt_zip, ↓Pt.pair_0, ↓Pt.pair_s, ↓Pt.gs_seq, ↓Pt.sq_nx, ↓Pt.sq_rt, ↓Pt.sq_bk, ↓Pt.sq_ct, ↓Pt.sq_ex, ↓Pt.gs_skip, ↓Pt.gs_brk, ↓Pt.gs_cnt, ↓Pt.gs_nx, ↓Pt.gs_put, ↓Pt.gs_putZ, ↓Pt.gt_map, ↓Pt.gs_ret, ↓Pt.gs_drop, ↓Pt.gs_if, ↓Pt.gs_bind, ↓Pt.gs_par, ↓Pt.gs_par3, ↓Pt.gs_for, ↓Pt.fg_nx, ↓Pt.fg_ct, ↓Pt.fg_bk, ↓Pt.fg_rt, ↓Pt.gs_frz, ↓Pt.fe_s, ↓Pt.fe_l, ↓Pt.fe_k, ↓Pt.fe_t, ↓Pt.fe_d, ↓Pt.gs_apd, ↓Pt.gs_putT, ↓Pt.gs_srcPut, ↓Pt.ox_add, ↓Pt.ox_addL, ↓Pt.ox_addT, ↓Pt.ox_sub, ↓Pt.ox_mul, ↓Pt.ox_div, ↓Pt.ox_mod, ↓Pt.ox_neg, ↓Pt.ox_lt, ↓Pt.ox_le, ↓Pt.ox_gt, ↓Pt.ox_ge, ↓Pt.ox_eq, ↓Pt.ox_ne, ↓Pt.ox_eqS, ↓Pt.ox_neS, ↓Pt.ox_eqL, ↓Pt.ox_neL, ↓Pt.ox_eqT, ↓Pt.ox_neT, ↓Pt.ox_ix0, ↓Pt.ox_ix1, ↓Pt.ox_ix2, ↓Pt.ox_ix3, ↓Pt.ox_ixT0, ↓Pt.ox_ixT1, ↓Pt.ox_ixT2, ↓Pt.ox_ixT3, ↓Pt.ox_pow20, ↓Pt.ox_lenL, ↓Pt.ox_lenT, ↓Pt.ox_int, ↓Pt.ox_abs, ↓Pt.ox_max, ↓Pt.ox_min, ↓Pt.ox_tup, ↓Pt.ox_tupT, ↓Pt.ox_list, ↓Pt.ox_listT, ↓Pt.ox_repr, e]

/-- the law's column, its last part -/
noncomputable def tCol : Ms :=
    (mSeq (mPar 8 9 (mMap Sl.d (mCall dAbs (mCons (mVar 6) mNil))) (mMap Sl.d (mCall dAbs (mCons (mVar 7) mNil))))
    (mSeq (mWhile (mTst (mBin dGt (mVar 9) (mC (.int 0)))) (mPar 8 9 (mMap Sl.d (mVar 9)) (mMap Sl.d (mBin dMod (mCall dInt (mCons (mVar 8) mNil)) (mVar 9)))))
    (mSeq (mPut 8 (mMap Sl.d (mIf (mOrT (mTst (mBin dGt (mVar 6) (mC (.int 0)))) (mAndT (mTst (mBin dEq (mVar 6) (mC (.int 0)))) (mTst (mBin dGt (mVar 7) (mC (.int 0)))))) (mVar 8) (mBin dSub (mC (.int 0)) (mVar 8)))))
    (mRet (mTup (mCons (mBin dDiv (mVar 6) (mVar 8)) (mCons (mBin dDiv (mVar 7) (mVar 8)) mNil)))))))
theorem col_tail (u v : Int) (x0 x1 x2 x3 x4 x5 : Sl) (s : Src) (h : ¬ (u = 0 ∧ v = 0)) (hu : u.natAbs < 1073741824) (hv : v.natAbs < 1073741824) :
    Gs (tCol [x0, x1, x2, x3, x4, x5, .d (.int u), .d (.int v), .un, .un] s) fun r => r = .rt (.tuple [.int (u / partS u v), .int (v / partS u v)]) s := by
  unfold tCol
  rw [Pt.gs_seq]
  simp -implicitDefEqProofs (disch := (first | omega | assumption | exact Pt.mul_r (by omega) (by omega) | exact Pt.mul_l (by omega) (by omega) | exact ml _ _ | decide)) only [↓Pt.gt_ok, ↓Pt.gt_bind, ↓Pt.gt_lift, ↓Pt.at_0, ↓Pt.at_s, ↓Pt.nt_0, ↓Pt.nt_s, ↓Pt.vd_d, ↓Pt.vd_h, ↓Pt.vo_l, ↓Pt.vo_k, ↓Pt.vo_t, ↓Pt.vl_l, ↓Pt.vs_s, ↓Pt.pu_0, ↓Pt.pu_s, ↓Pt.wi_0, ↓Pt.wi_s, ↓Pt.bp_n, ↓Pt.bp_t, ↓Pt.bp_l, ↓Pt.bps_0, ↓Pt.bps_s, ↓Pt.bo_t, ↓Pt.bo_f, ↓Pt.bo_not, ↓Pt.gt_var, ↓Pt.gt_own, ↓Pt.gt_c, ↓Pt.gt_bin, ↓Pt.gt_un, ↓Pt.gt_tst, ↓Pt.gt_andT, ↓Pt.gt_orT, ↓Pt.gt_notT, ↓Pt.gt_and, ↓Pt.gt_or, ↓Pt.gt_not, ↓Pt.gt_if, ↓Pt.gt_chain, ↓Pt.gt_nil, ↓Pt.gt_cons, ↓Pt.gt_consA, ↓Pt.gt_consS, ↓Pt.gt_tup, ↓Pt.gt_lst, ↓Pt.gt_fz, ↓Pt.gt_fzD, ↓Pt.gt_call, ↓Pt.gt_callL, ↓Pt.gt_callK, ↓Pt.gt_app, ↓Pt.gt_sl, ↓Pt.gt_none, ↓Pt.gt_some, ↓Pt.ls_l, ↓Pt.gt_rev, ↓Pt.gt_sq, ↓Pt.ox_some, ↓Pt.seq_l, ↓Pt.seq_t, ↓Pt.tst_b, ↓Pt.intD_i, ↓Pt.z1_i, ↓Pt.z2_i, ↓Pt.gt_rg1, ↓Pt.gt_rg1J, ↓Pt.gt_rg2, ↓Pt.gt_srcI, ↓Pt.gt_srcLen, ↓Pt.gt_lc, ↓Pt.gt_yes, ↓Pt.gl_nil, ↓Pt.gl_cons, ↓Pt.gl_ok, ↓Pt.vh_h, ↓Pt.vt_t, ↓Pt.gt_ht, ↓Pt.gt_tupL, ↓Pt.lst_l, ↓Pt.gt_newD, ↓Pt.tag_t, ↓Pt.gt_get2T, ↓Pt.key_3, ↓Pt.zp_l, ↓Pt.zp_t, ↓Pt.gt_zip, ↓Pt.pair_0, ↓Pt.pair_s, ↓Pt.gs_seq, ↓Pt.sq_rt, ↓Pt.sq_bk, ↓Pt.sq_ct, ↓Pt.sq_ex, ↓Pt.gs_skip, ↓Pt.gs_brk, ↓Pt.gs_cnt, ↓Pt.gs_nx, ↓Pt.gs_put, ↓Pt.gs_putZ, ↓Pt.gt_map, ↓Pt.gs_ret, ↓Pt.gs_drop, ↓Pt.gs_if, ↓Pt.gs_bind, ↓Pt.gs_par, ↓Pt.gs_par3, ↓Pt.gs_for, ↓Pt.fg_nx, ↓Pt.fg_ct, ↓Pt.fg_bk, ↓Pt.fg_rt, ↓Pt.gs_frz, ↓Pt.fe_s, ↓Pt.fe_l, ↓Pt.fe_k, ↓Pt.fe_t, ↓Pt.fe_d, ↓Pt.gs_apd, ↓Pt.gs_putT, ↓Pt.gs_srcPut, ↓Pt.ox_add, ↓Pt.ox_addL, ↓Pt.ox_addT, ↓Pt.ox_sub, ↓Pt.ox_mul, ↓Pt.ox_div, ↓Pt.ox_mod, ↓Pt.ox_neg, ↓Pt.ox_lt, ↓Pt.ox_le, ↓Pt.ox_gt, ↓Pt.ox_ge, ↓Pt.ox_eq, ↓Pt.ox_ne, ↓Pt.ox_eqS, ↓Pt.ox_neS, ↓Pt.ox_eqL, ↓Pt.ox_neL, ↓Pt.ox_eqT, ↓Pt.ox_neT, ↓Pt.ox_ix0, ↓Pt.ox_ix1, ↓Pt.ox_ix2, ↓Pt.ox_ix3, ↓Pt.ox_ixT0, ↓Pt.ox_ixT1, ↓Pt.ox_ixT2, ↓Pt.ox_ixT3, ↓Pt.ox_pow20, ↓Pt.ox_lenL, ↓Pt.ox_lenT, ↓Pt.ox_int, ↓Pt.ox_abs, ↓Pt.ox_max, ↓Pt.ox_min, ↓Pt.ox_tup, ↓Pt.ox_tupT, ↓Pt.ox_list, ↓Pt.ox_listT, ↓Pt.ox_repr]
  rw [Pt.sq_nx, Pt.gs_seq]
  refine gs_wh (fun n e s2 => s2 = s ∧ ∃ x y : Nat, n = y ∧ Nat.gcd x y = Nat.gcd u.natAbs v.natAbs ∧ e = [x0, x1, x2, x3, x4, x5, .d (.int u), .d (.int v), .d (.int x), .d (.int y)]) (n := v.natAbs) ⟨rfl, u.natAbs, v.natAbs, rfl, rfl, ?_⟩ fun n e s2 hI => ?_
  · have ab : ∀ x : Int, absI x = (x.natAbs : Int) := fun x => by unfold absI; split <;> omega
    rw [ab, ab]
  · obtain ⟨rfl, x, y, rfl, hg, rfl⟩ := hI
    simp -implicitDefEqProofs (disch := (first | omega | assumption | exact Pt.mul_r (by omega) (by omega) | exact Pt.mul_l (by omega) (by omega) | exact ml _ _ | decide)) only [↓Pt.gt_ok, ↓Pt.gt_bind, ↓Pt.gt_lift, ↓Pt.at_0, ↓Pt.at_s, ↓Pt.nt_0, ↓Pt.nt_s, ↓Pt.vd_d, ↓Pt.vd_h, ↓Pt.vo_l, ↓Pt.vo_k, ↓Pt.vo_t, ↓Pt.vl_l, ↓Pt.vs_s, ↓Pt.pu_0, ↓Pt.pu_s, ↓Pt.wi_0, ↓Pt.wi_s, ↓Pt.bp_n, ↓Pt.bp_t, ↓Pt.bp_l, ↓Pt.bps_0, ↓Pt.bps_s, ↓Pt.bo_t, ↓Pt.bo_f, ↓Pt.bo_not, ↓Pt.gt_var, ↓Pt.gt_own, ↓Pt.gt_c, ↓Pt.gt_bin, ↓Pt.gt_un, ↓Pt.gt_tst, ↓Pt.gt_andT, ↓Pt.gt_orT, ↓Pt.gt_notT, ↓Pt.gt_and, ↓Pt.gt_or, ↓Pt.gt_not, ↓Pt.gt_if, ↓Pt.gt_chain, ↓Pt.gt_nil, ↓Pt.gt_cons, ↓Pt.gt_consA, ↓Pt.gt_consS, ↓Pt.gt_tup, ↓Pt.gt_lst, ↓Pt.gt_fz, ↓Pt.gt_fzD, ↓Pt.gt_call, ↓Pt.gt_callL, ↓Pt.gt_callK, ↓Pt.gt_app, ↓Pt.gt_sl, ↓Pt.gt_none, ↓Pt.gt_some, ↓Pt.ls_l, ↓Pt.gt_rev, ↓Pt.gt_sq, ↓Pt.ox_some, ↓Pt.seq_l, ↓Pt.seq_t, ↓Pt.tst_b, ↓Pt.intD_i, ↓Pt.z1_i, ↓Pt.z2_i, ↓Pt.gt_rg1, ↓Pt.gt_rg1J, ↓Pt.gt_rg2, ↓Pt.gt_srcI, ↓Pt.gt_srcLen, ↓Pt.gt_lc, ↓Pt.gt_yes, ↓Pt.gl_nil, ↓Pt.gl_cons, ↓Pt.gl_ok, ↓Pt.vh_h, ↓Pt.vt_t, ↓Pt.gt_ht, ↓Pt.gt_tupL, ↓Pt.lst_l, ↓Pt.gt_newD, ↓Pt.tag_t, ↓Pt.gt_get2T, ↓Pt.key_3, ↓Pt.zp_l, ↓Pt.zp_t, ↓Pt.gt_zip, ↓Pt.pair_0, ↓Pt.pair_s, ↓Pt.gs_seq, ↓Pt.sq_rt, ↓Pt.sq_bk, ↓Pt.sq_ct, ↓Pt.sq_ex, ↓Pt.gs_skip, ↓Pt.gs_brk, ↓Pt.gs_cnt, ↓Pt.gs_nx, ↓Pt.gs_put, ↓Pt.gs_putZ, ↓Pt.gt_map, ↓Pt.gs_ret, ↓Pt.gs_drop, ↓Pt.gs_if, ↓Pt.gs_bind, ↓Pt.gs_par, ↓Pt.gs_par3, ↓Pt.gs_for, ↓Pt.fg_nx, ↓Pt.fg_ct, ↓Pt.fg_bk, ↓Pt.fg_rt, ↓Pt.gs_frz, ↓Pt.fe_s, ↓Pt.fe_l, ↓Pt.fe_k, ↓Pt.fe_t, ↓Pt.fe_d, ↓Pt.gs_apd, ↓Pt.gs_putT, ↓Pt.gs_srcPut, ↓Pt.ox_add, ↓Pt.ox_addL, ↓Pt.ox_addT, ↓Pt.ox_sub, ↓Pt.ox_mul, ↓Pt.ox_div, ↓Pt.ox_mod, ↓Pt.ox_neg, ↓Pt.ox_lt, ↓Pt.ox_le, ↓Pt.ox_gt, ↓Pt.ox_ge, ↓Pt.ox_eq, ↓Pt.ox_ne, ↓Pt.ox_eqS, ↓Pt.ox_neS, ↓Pt.ox_eqL, ↓Pt.ox_neL, ↓Pt.ox_eqT, ↓Pt.ox_neT, ↓Pt.ox_ix0, ↓Pt.ox_ix1, ↓Pt.ox_ix2, ↓Pt.ox_ix3, ↓Pt.ox_ixT0, ↓Pt.ox_ixT1, ↓Pt.ox_ixT2, ↓Pt.ox_ixT3, ↓Pt.ox_pow20, ↓Pt.ox_lenL, ↓Pt.ox_lenT, ↓Pt.ox_int, ↓Pt.ox_abs, ↓Pt.ox_max, ↓Pt.ox_min, ↓Pt.ox_tup, ↓Pt.ox_tupT, ↓Pt.ox_list, ↓Pt.ox_listT, ↓Pt.ox_repr]
    refine bo_mk (fun c => ?_) fun c => ?_
    · have c := of_decide_eq_true c
      simp -implicitDefEqProofs (disch := (first | omega | assumption | exact Pt.mul_r (by omega) (by omega) | exact Pt.mul_l (by omega) (by omega) | exact ml _ _ | decide)) only [↓Pt.gt_ok, ↓Pt.gt_bind, ↓Pt.gt_lift, ↓Pt.at_0, ↓Pt.at_s, ↓Pt.nt_0, ↓Pt.nt_s, ↓Pt.vd_d, ↓Pt.vd_h, ↓Pt.vo_l, ↓Pt.vo_k, ↓Pt.vo_t, ↓Pt.vl_l, ↓Pt.vs_s, ↓Pt.pu_0, ↓Pt.pu_s, ↓Pt.wi_0, ↓Pt.wi_s, ↓Pt.bp_n, ↓Pt.bp_t, ↓Pt.bp_l, ↓Pt.bps_0, ↓Pt.bps_s, ↓Pt.bo_t, ↓Pt.bo_f, ↓Pt.bo_not, ↓Pt.gt_var, ↓Pt.gt_own, ↓Pt.gt_c, ↓Pt.gt_bin, ↓Pt.gt_un, ↓Pt.gt_tst, ↓Pt.gt_andT, ↓Pt.gt_orT, ↓Pt.gt_notT, ↓Pt.gt_and, ↓Pt.gt_or, ↓Pt.gt_not, ↓Pt.gt_if, ↓Pt.gt_chain, ↓Pt.gt_nil, ↓Pt.gt_cons, ↓Pt.gt_consA, ↓Pt.gt_consS, ↓Pt.gt_tup, ↓Pt.gt_lst, ↓Pt.gt_fz, ↓Pt.gt_fzD, ↓Pt.gt_call, ↓Pt.gt_callL, ↓Pt.gt_callK, ↓Pt.gt_app, ↓Pt.gt_sl, ↓Pt.gt_none, ↓Pt.gt_some, ↓Pt.ls_l, ↓Pt.gt_rev, ↓Pt.gt_sq, ↓Pt.ox_some, ↓Pt.seq_l, ↓Pt.seq_t, ↓Pt.tst_b, ↓Pt.intD_i, ↓Pt.z1_i, ↓Pt.z2_i, ↓Pt.gt_rg1, ↓Pt.gt_rg1J, ↓Pt.gt_rg2, ↓Pt.gt_srcI, ↓Pt.gt_srcLen, ↓Pt.gt_lc, ↓Pt.gt_yes, ↓Pt.gl_nil, ↓Pt.gl_cons, ↓Pt.gl_ok, ↓Pt.vh_h, ↓Pt.vt_t, ↓Pt.gt_ht, ↓Pt.gt_tupL, ↓Pt.lst_l, ↓Pt.gt_newD, ↓Pt.tag_t, ↓Pt.gt_get2T, ↓Pt.key_3, ↓Pt.zp_l, ↓Pt.zp_t, ↓Pt.gt_zip, ↓Pt.pair_0, ↓Pt.pair_s, ↓Pt.gs_seq, ↓Pt.sq_nx, ↓Pt.sq_rt, ↓Pt.sq_bk, ↓Pt.sq_ct, ↓Pt.sq_ex, ↓Pt.gs_skip, ↓Pt.gs_brk, ↓Pt.gs_cnt, ↓Pt.gs_nx, ↓Pt.gs_put, ↓Pt.gs_putZ, ↓Pt.gt_map, ↓Pt.gs_ret, ↓Pt.gs_drop, ↓Pt.gs_if, ↓Pt.gs_bind, ↓Pt.gs_par, ↓Pt.gs_par3, ↓Pt.gs_for, ↓Pt.fg_nx, ↓Pt.fg_ct, ↓Pt.fg_bk, ↓Pt.fg_rt, ↓Pt.gs_frz, ↓Pt.fe_s, ↓Pt.fe_l, ↓Pt.fe_k, ↓Pt.fe_t, ↓Pt.fe_d, ↓Pt.gs_apd, ↓Pt.gs_putT, ↓Pt.gs_srcPut, ↓Pt.ox_add, ↓Pt.ox_addL, ↓Pt.ox_addT, ↓Pt.ox_sub, ↓Pt.ox_mul, ↓Pt.ox_div, ↓Pt.ox_mod, ↓Pt.ox_neg, ↓Pt.ox_lt, ↓Pt.ox_le, ↓Pt.ox_gt, ↓Pt.ox_ge, ↓Pt.ox_eq, ↓Pt.ox_ne, ↓Pt.ox_eqS, ↓Pt.ox_neS, ↓Pt.ox_eqL, ↓Pt.ox_neL, ↓Pt.ox_eqT, ↓Pt.ox_neT, ↓Pt.ox_ix0, ↓Pt.ox_ix1, ↓Pt.ox_ix2, ↓Pt.ox_ix3, ↓Pt.ox_ixT0, ↓Pt.ox_ixT1, ↓Pt.ox_ixT2, ↓Pt.ox_ixT3, ↓Pt.ox_pow20, ↓Pt.ox_lenL, ↓Pt.ox_lenT, ↓Pt.ox_int, ↓Pt.ox_abs, ↓Pt.ox_max, ↓Pt.ox_min, ↓Pt.ox_tup, ↓Pt.ox_tupT, ↓Pt.ox_list, ↓Pt.ox_listT, ↓Pt.ox_repr, ↓wl_nx]
      refine ⟨x % n, Nat.mod_lt _ (by omega), by trivial, n, x % n, rfl, by rw [← hg, Nat.gcd_comm x n, Nat.gcd_rec n x, Nat.gcd_comm], by rw [Int.natCast_emod]⟩
    · have c := of_decide_eq_false c
      have y0 : n = 0 := by omega
      subst y0
      rw [Nat.gcd_zero_right] at hg
      subst hg
      obtain ⟨n1, e1, e2, e3⟩ := norm_of h
      have d1 : partS u v ∣ u := ⟨_, e1⟩
      have d2 : partS u v ∣ v := ⟨_, e2⟩
      have pb : (partS u v).natAbs < 1073741824 := by
        have g1 : Nat.gcd u.natAbs v.natAbs < 1073741824 := by
          by_cases c : u = 0
          · exact Nat.lt_of_le_of_lt (Nat.gcd_le_right _ (by omega)) hv
          · exact Nat.lt_of_le_of_lt (Nat.gcd_le_left _ (by omega)) hu
        unfold partS
        split <;> split <;> omega
      have q1 := fun (K : Pt.D → Prop) => ox_divS (K := K) e3 pb d1
      have q2 := fun (K : Pt.D → Prop) => ox_divS (K := K) e3 pb d2
      have ps : partS u v = if 0 < u ∨ (u = 0 ∧ 0 < v) then ((Nat.gcd u.natAbs v.natAbs : Nat) : Int) else -((Nat.gcd u.natAbs v.natAbs : Nat) : Int) := by
        unfold partS
        by_cases c : u = 0
        · rw [if_pos c]; congr 1; simp [c]
        · rw [if_neg c]; congr 1; simp [c]
      rw [Pt.sq_nx, Pt.gs_seq]
      have vl : ∀ (y : Sl) (ss : Src), mIf (mOrT (mTst (mBin dGt (mVar 6) (mC (.int 0)))) (mAndT (mTst (mBin dEq (mVar 6) (mC (.int 0)))) (mTst (mBin dGt (mVar 7) (mC (.int 0)))))) (mVar 8) (mBin dSub (mC (.int 0)) (mVar 8)) [x0, x1, x2, x3, x4, x5, .d (.int u), .d (.int v), .d (.int (Nat.gcd u.natAbs v.natAbs : Nat)), y] ss = .ok (.int (partS u v)) ss := fun y ss => by
        refine gt_val ?_
        simp -implicitDefEqProofs (disch := (first | omega | assumption | exact Pt.mul_r (by omega) (by omega) | exact Pt.mul_l (by omega) (by omega) | exact ml _ _ | decide)) only [↓Pt.gt_ok, ↓Pt.gt_bind, ↓Pt.gt_lift, ↓Pt.at_0, ↓Pt.at_s, ↓Pt.nt_0, ↓Pt.nt_s, ↓Pt.vd_d, ↓Pt.vd_h, ↓Pt.vo_l, ↓Pt.vo_k, ↓Pt.vo_t, ↓Pt.vl_l, ↓Pt.vs_s, ↓Pt.pu_0, ↓Pt.pu_s, ↓Pt.wi_0, ↓Pt.wi_s, ↓Pt.bp_n, ↓Pt.bp_t, ↓Pt.bp_l, ↓Pt.bps_0, ↓Pt.bps_s, ↓Pt.bo_t, ↓Pt.bo_f, ↓Pt.bo_not, ↓Pt.gt_var, ↓Pt.gt_own, ↓Pt.gt_c, ↓Pt.gt_bin, ↓Pt.gt_un, ↓Pt.gt_tst, ↓Pt.gt_andT, ↓Pt.gt_orT, ↓Pt.gt_notT, ↓Pt.gt_and, ↓Pt.gt_or, ↓Pt.gt_not, ↓Pt.gt_if, ↓Pt.gt_chain, ↓Pt.gt_nil, ↓Pt.gt_cons, ↓Pt.gt_consA, ↓Pt.gt_consS, ↓Pt.gt_tup, ↓Pt.gt_lst, ↓Pt.gt_fz, ↓Pt.gt_fzD, ↓Pt.gt_call, ↓Pt.gt_callL, ↓Pt.gt_callK, ↓Pt.gt_app, ↓Pt.gt_sl, ↓Pt.gt_none, ↓Pt.gt_some, ↓Pt.ls_l, ↓Pt.gt_rev, ↓Pt.gt_sq, ↓Pt.ox_some, ↓Pt.seq_l, ↓Pt.seq_t, ↓Pt.tst_b, ↓Pt.intD_i, ↓Pt.z1_i, ↓Pt.z2_i, ↓Pt.gt_rg1, ↓Pt.gt_rg1J, ↓Pt.gt_rg2, ↓Pt.gt_srcI, ↓Pt.gt_srcLen, ↓Pt.gt_lc, ↓Pt.gt_yes, ↓Pt.gl_nil, ↓Pt.gl_cons, ↓Pt.gl_ok, ↓Pt.vh_h, ↓Pt.vt_t, ↓Pt.gt_ht, ↓Pt.gt_tupL, ↓Pt.lst_l, ↓Pt.gt_newD, ↓Pt.tag_t, ↓Pt.gt_get2T, ↓Pt.key_3, ↓Pt.zp_l, ↓Pt.zp_t, ↓Pt.gt_zip, ↓Pt.pair_0, ↓Pt.pair_s, ↓Pt.gs_seq, ↓Pt.sq_nx, ↓Pt.sq_rt, ↓Pt.sq_bk, ↓Pt.sq_ct, ↓Pt.sq_ex, ↓Pt.gs_skip, ↓Pt.gs_brk, ↓Pt.gs_cnt, ↓Pt.gs_nx, ↓Pt.gs_put, ↓Pt.gs_putZ, ↓Pt.gt_map, ↓Pt.gs_ret, ↓Pt.gs_drop, ↓Pt.gs_if, ↓Pt.gs_bind, ↓Pt.gs_par, ↓Pt.gs_par3, ↓Pt.gs_for, ↓Pt.fg_nx, ↓Pt.fg_ct, ↓Pt.fg_bk, ↓Pt.fg_rt, ↓Pt.gs_frz, ↓Pt.fe_s, ↓Pt.fe_l, ↓Pt.fe_k, ↓Pt.fe_t, ↓Pt.fe_d, ↓Pt.gs_apd, ↓Pt.gs_putT, ↓Pt.gs_srcPut, ↓Pt.ox_add, ↓Pt.ox_addL, ↓Pt.ox_addT, ↓Pt.ox_sub, ↓Pt.ox_mul, ↓Pt.ox_div, ↓Pt.ox_mod, ↓Pt.ox_neg, ↓Pt.ox_lt, ↓Pt.ox_le, ↓Pt.ox_gt, ↓Pt.ox_ge, ↓Pt.ox_eq, ↓Pt.ox_ne, ↓Pt.ox_eqS, ↓Pt.ox_neS, ↓Pt.ox_eqL, ↓Pt.ox_neL, ↓Pt.ox_eqT, ↓Pt.ox_neT, ↓Pt.ox_ix0, ↓Pt.ox_ix1, ↓Pt.ox_ix2, ↓Pt.ox_ix3, ↓Pt.ox_ixT0, ↓Pt.ox_ixT1, ↓Pt.ox_ixT2, ↓Pt.ox_ixT3, ↓Pt.ox_pow20, ↓Pt.ox_lenL, ↓Pt.ox_lenT, ↓Pt.ox_int, ↓Pt.ox_abs, ↓Pt.ox_max, ↓Pt.ox_min, ↓Pt.ox_tup, ↓Pt.ox_tupT, ↓Pt.ox_list, ↓Pt.ox_listT, ↓Pt.ox_repr]
        rw [ps]
        by_cases c1 : 0 < u
        · simp [Bo, c1]
        · by_cases c2 : u = 0
          · by_cases c3 : 0 < v
            · simp [Bo, c2, c3]
            · simp [Bo, c2, c3]
          · simp [Bo, c1, c2]
      have e0 : ((0 : Nat) : Int) = 0 := rfl
      rw [Pt.gs_put, Pt.gt_map, gt_eq (vl _ _)]
      simp -implicitDefEqProofs (disch := (first | omega | assumption | exact Pt.mul_r (by omega) (by omega) | exact Pt.mul_l (by omega) (by omega) | exact ml _ _ | decide)) only [↓Pt.gt_ok, ↓Pt.gt_bind, ↓Pt.gt_lift, ↓Pt.at_0, ↓Pt.at_s, ↓Pt.nt_0, ↓Pt.nt_s, ↓Pt.vd_d, ↓Pt.vd_h, ↓Pt.vo_l, ↓Pt.vo_k, ↓Pt.vo_t, ↓Pt.vl_l, ↓Pt.vs_s, ↓Pt.pu_0, ↓Pt.pu_s, ↓Pt.wi_0, ↓Pt.wi_s, ↓Pt.bp_n, ↓Pt.bp_t, ↓Pt.bp_l, ↓Pt.bps_0, ↓Pt.bps_s, ↓Pt.bo_t, ↓Pt.bo_f, ↓Pt.bo_not, ↓Pt.gt_var, ↓Pt.gt_own, ↓Pt.gt_c, ↓Pt.gt_bin, ↓Pt.gt_un, ↓Pt.gt_tst, ↓Pt.gt_andT, ↓Pt.gt_orT, ↓Pt.gt_notT, ↓Pt.gt_and, ↓Pt.gt_or, ↓Pt.gt_not, ↓Pt.gt_if, ↓Pt.gt_chain, ↓Pt.gt_nil, ↓Pt.gt_cons, ↓Pt.gt_consA, ↓Pt.gt_consS, ↓Pt.gt_tup, ↓Pt.gt_lst, ↓Pt.gt_fz, ↓Pt.gt_fzD, ↓Pt.gt_call, ↓Pt.gt_callL, ↓Pt.gt_callK, ↓Pt.gt_app, ↓Pt.gt_sl, ↓Pt.gt_none, ↓Pt.gt_some, ↓Pt.ls_l, ↓Pt.gt_rev, ↓Pt.gt_sq, ↓Pt.ox_some, ↓Pt.seq_l, ↓Pt.seq_t, ↓Pt.tst_b, ↓Pt.intD_i, ↓Pt.z1_i, ↓Pt.z2_i, ↓Pt.gt_rg1, ↓Pt.gt_rg1J, ↓Pt.gt_rg2, ↓Pt.gt_srcI, ↓Pt.gt_srcLen, ↓Pt.gt_lc, ↓Pt.gt_yes, ↓Pt.gl_nil, ↓Pt.gl_cons, ↓Pt.gl_ok, ↓Pt.vh_h, ↓Pt.vt_t, ↓Pt.gt_ht, ↓Pt.gt_tupL, ↓Pt.lst_l, ↓Pt.gt_newD, ↓Pt.tag_t, ↓Pt.gt_get2T, ↓Pt.key_3, ↓Pt.zp_l, ↓Pt.zp_t, ↓Pt.gt_zip, ↓Pt.pair_0, ↓Pt.pair_s, ↓Pt.gs_seq, ↓Pt.sq_nx, ↓Pt.sq_rt, ↓Pt.sq_bk, ↓Pt.sq_ct, ↓Pt.sq_ex, ↓Pt.gs_skip, ↓Pt.gs_brk, ↓Pt.gs_cnt, ↓Pt.gs_nx, ↓Pt.gs_put, ↓Pt.gs_putZ, ↓Pt.gt_map, ↓Pt.gs_ret, ↓Pt.gs_drop, ↓Pt.gs_if, ↓Pt.gs_bind, ↓Pt.gs_par, ↓Pt.gs_par3, ↓Pt.gs_for, ↓Pt.fg_nx, ↓Pt.fg_ct, ↓Pt.fg_bk, ↓Pt.fg_rt, ↓Pt.gs_frz, ↓Pt.fe_s, ↓Pt.fe_l, ↓Pt.fe_k, ↓Pt.fe_t, ↓Pt.fe_d, ↓Pt.gs_apd, ↓Pt.gs_putT, ↓Pt.gs_srcPut, ↓Pt.ox_add, ↓Pt.ox_addL, ↓Pt.ox_addT, ↓Pt.ox_sub, ↓Pt.ox_mul, ↓Pt.ox_div, ↓Pt.ox_mod, ↓Pt.ox_neg, ↓Pt.ox_lt, ↓Pt.ox_le, ↓Pt.ox_gt, ↓Pt.ox_ge, ↓Pt.ox_eq, ↓Pt.ox_ne, ↓Pt.ox_eqS, ↓Pt.ox_neS, ↓Pt.ox_eqL, ↓Pt.ox_neL, ↓Pt.ox_eqT, ↓Pt.ox_neT, ↓Pt.ox_ix0, ↓Pt.ox_ix1, ↓Pt.ox_ix2, ↓Pt.ox_ix3, ↓Pt.ox_ixT0, ↓Pt.ox_ixT1, ↓Pt.ox_ixT2, ↓Pt.ox_ixT3, ↓Pt.ox_pow20, ↓Pt.ox_lenL, ↓Pt.ox_lenT, ↓Pt.ox_int, ↓Pt.ox_abs, ↓Pt.ox_max, ↓Pt.ox_min, ↓Pt.ox_tup, ↓Pt.ox_tupT, ↓Pt.ox_list, ↓Pt.ox_listT, ↓Pt.ox_repr, q1, q2, sz2, true_and]
theorem F_col (m : M4) (t : Int) (s : Src) (ht : m.tr = 2 * t) (tt : t = 1 ∨ t = -1) (hu : ¬ m.unit) (hm : m.le 1073000000) : F_law_column [.d m.D] s = .ok (.tuple [.int (lineC m t).1, .int (lineC m t).2]) s := by
  refine run_ok (e0 := [.d m.D, .un, .un, .un, .un, .un, .un, .un, .un, .un]) ?_
  have hne := M4.col_ne ht tt hu
  have ht' : m.a + m.d = 2 * t := ht
  obtain ⟨b1, b2, b3, b4⟩ := hm
  have fin : ∀ (u v : Int) (x0 x1 x2 x3 x4 x5 : Sl), ¬ (u = 0 ∧ v = 0) → u.natAbs < 1073741824 → v.natAbs < 1073741824 → u * (m.col t).2 = v * (m.col t).1 → Gs (tCol [x0, x1, x2, x3, x4, x5, .d (.int u), .d (.int v), .un, .un] s) fun r => r = .rt (.tuple [.int (lineC m t).1, .int (lineC m t).2]) s := fun u v x0 x1 x2 x3 x4 x5 h1 h2 h3 h4 => by
    obtain ⟨q1, q2⟩ := norm_same h1 hne h4
    unfold lineC
    simp only []
    rw [← q1, ← q2]
    exact col_tail u v x0 x1 x2 x3 x4 x5 s h1 h2 h3
  unfold m_law_column M4.D
  rw [Pt.gs_seq]
  have vl : mIf (mTst (mBin dGt (mBin dAdd (mBin dIx (mVar 0) (mC (.int 0))) (mBin dIx (mVar 0) (mC (.int 3)))) (mC (.int 0)))) (mC (.int 1)) (mUn dNeg (mC (.int 1))) [.d (.tuple [.int m.a, .int m.b, .int m.c, .int m.d]), .un, .un, .un, .un, .un, .un, .un, .un, .un] s = .ok (.int t) s := by
    refine gt_val ?_
    simp -implicitDefEqProofs (disch := (first | omega | assumption | exact Pt.mul_r (by omega) (by omega) | exact Pt.mul_l (by omega) (by omega) | exact ml _ _ | decide)) only [↓Pt.gt_ok, ↓Pt.gt_bind, ↓Pt.gt_lift, ↓Pt.at_0, ↓Pt.at_s, ↓Pt.nt_0, ↓Pt.nt_s, ↓Pt.vd_d, ↓Pt.vd_h, ↓Pt.vo_l, ↓Pt.vo_k, ↓Pt.vo_t, ↓Pt.vl_l, ↓Pt.vs_s, ↓Pt.pu_0, ↓Pt.pu_s, ↓Pt.wi_0, ↓Pt.wi_s, ↓Pt.bp_n, ↓Pt.bp_t, ↓Pt.bp_l, ↓Pt.bps_0, ↓Pt.bps_s, ↓Pt.bo_t, ↓Pt.bo_f, ↓Pt.bo_not, ↓Pt.gt_var, ↓Pt.gt_own, ↓Pt.gt_c, ↓Pt.gt_bin, ↓Pt.gt_un, ↓Pt.gt_tst, ↓Pt.gt_andT, ↓Pt.gt_orT, ↓Pt.gt_notT, ↓Pt.gt_and, ↓Pt.gt_or, ↓Pt.gt_not, ↓Pt.gt_if, ↓Pt.gt_chain, ↓Pt.gt_nil, ↓Pt.gt_cons, ↓Pt.gt_consA, ↓Pt.gt_consS, ↓Pt.gt_tup, ↓Pt.gt_lst, ↓Pt.gt_fz, ↓Pt.gt_fzD, ↓Pt.gt_call, ↓Pt.gt_callL, ↓Pt.gt_callK, ↓Pt.gt_app, ↓Pt.gt_sl, ↓Pt.gt_none, ↓Pt.gt_some, ↓Pt.ls_l, ↓Pt.gt_rev, ↓Pt.gt_sq, ↓Pt.ox_some, ↓Pt.seq_l, ↓Pt.seq_t, ↓Pt.tst_b, ↓Pt.intD_i, ↓Pt.z1_i, ↓Pt.z2_i, ↓Pt.gt_rg1, ↓Pt.gt_rg1J, ↓Pt.gt_rg2, ↓Pt.gt_srcI, ↓Pt.gt_srcLen, ↓Pt.gt_lc, ↓Pt.gt_yes, ↓Pt.gl_nil, ↓Pt.gl_cons, ↓Pt.gl_ok, ↓Pt.vh_h, ↓Pt.vt_t, ↓Pt.gt_ht, ↓Pt.gt_tupL, ↓Pt.lst_l, ↓Pt.gt_newD, ↓Pt.tag_t, ↓Pt.gt_get2T, ↓Pt.key_3, ↓Pt.zp_l, ↓Pt.zp_t, ↓Pt.gt_zip, ↓Pt.pair_0, ↓Pt.pair_s, ↓Pt.gs_seq, ↓Pt.sq_nx, ↓Pt.sq_rt, ↓Pt.sq_bk, ↓Pt.sq_ct, ↓Pt.sq_ex, ↓Pt.gs_skip, ↓Pt.gs_brk, ↓Pt.gs_cnt, ↓Pt.gs_nx, ↓Pt.gs_put, ↓Pt.gs_putZ, ↓Pt.gt_map, ↓Pt.gs_ret, ↓Pt.gs_drop, ↓Pt.gs_if, ↓Pt.gs_bind, ↓Pt.gs_par, ↓Pt.gs_par3, ↓Pt.gs_for, ↓Pt.fg_nx, ↓Pt.fg_ct, ↓Pt.fg_bk, ↓Pt.fg_rt, ↓Pt.gs_frz, ↓Pt.fe_s, ↓Pt.fe_l, ↓Pt.fe_k, ↓Pt.fe_t, ↓Pt.fe_d, ↓Pt.gs_apd, ↓Pt.gs_putT, ↓Pt.gs_srcPut, ↓Pt.ox_add, ↓Pt.ox_addL, ↓Pt.ox_addT, ↓Pt.ox_sub, ↓Pt.ox_mul, ↓Pt.ox_div, ↓Pt.ox_mod, ↓Pt.ox_neg, ↓Pt.ox_lt, ↓Pt.ox_le, ↓Pt.ox_gt, ↓Pt.ox_ge, ↓Pt.ox_eq, ↓Pt.ox_ne, ↓Pt.ox_eqS, ↓Pt.ox_neS, ↓Pt.ox_eqL, ↓Pt.ox_neL, ↓Pt.ox_eqT, ↓Pt.ox_neT, ↓Pt.ox_ix0, ↓Pt.ox_ix1, ↓Pt.ox_ix2, ↓Pt.ox_ix3, ↓Pt.ox_ixT0, ↓Pt.ox_ixT1, ↓Pt.ox_ixT2, ↓Pt.ox_ixT3, ↓Pt.ox_pow20, ↓Pt.ox_lenL, ↓Pt.ox_lenT, ↓Pt.ox_int, ↓Pt.ox_abs, ↓Pt.ox_max, ↓Pt.ox_min, ↓Pt.ox_tup, ↓Pt.ox_tupT, ↓Pt.ox_list, ↓Pt.ox_listT, ↓Pt.ox_repr]
    rcases tt with rfl | rfl
    · simp [Bo, show 0 < m.a + m.d by omega]
    · simp [Bo, show ¬ 0 < m.a + m.d by omega]
  rw [Pt.gs_put, Pt.gt_map, gt_eq vl]
  simp -implicitDefEqProofs (disch := (first | omega | assumption | exact Pt.mul_r (by omega) (by omega) | exact Pt.mul_l (by omega) (by omega) | exact ml _ _ | decide)) only [↓Pt.gt_ok, ↓Pt.gt_bind, ↓Pt.gt_lift, ↓Pt.at_0, ↓Pt.at_s, ↓Pt.nt_0, ↓Pt.nt_s, ↓Pt.vd_d, ↓Pt.vd_h, ↓Pt.vo_l, ↓Pt.vo_k, ↓Pt.vo_t, ↓Pt.vl_l, ↓Pt.vs_s, ↓Pt.pu_0, ↓Pt.pu_s, ↓Pt.wi_0, ↓Pt.wi_s, ↓Pt.bp_n, ↓Pt.bp_t, ↓Pt.bp_l, ↓Pt.bps_0, ↓Pt.bps_s, ↓Pt.bo_t, ↓Pt.bo_f, ↓Pt.bo_not, ↓Pt.gt_var, ↓Pt.gt_own, ↓Pt.gt_c, ↓Pt.gt_bin, ↓Pt.gt_un, ↓Pt.gt_tst, ↓Pt.gt_andT, ↓Pt.gt_orT, ↓Pt.gt_notT, ↓Pt.gt_and, ↓Pt.gt_or, ↓Pt.gt_not, ↓Pt.gt_if, ↓Pt.gt_chain, ↓Pt.gt_nil, ↓Pt.gt_cons, ↓Pt.gt_consA, ↓Pt.gt_consS, ↓Pt.gt_tup, ↓Pt.gt_lst, ↓Pt.gt_fz, ↓Pt.gt_fzD, ↓Pt.gt_call, ↓Pt.gt_callL, ↓Pt.gt_callK, ↓Pt.gt_app, ↓Pt.gt_sl, ↓Pt.gt_none, ↓Pt.gt_some, ↓Pt.ls_l, ↓Pt.gt_rev, ↓Pt.gt_sq, ↓Pt.ox_some, ↓Pt.seq_l, ↓Pt.seq_t, ↓Pt.tst_b, ↓Pt.intD_i, ↓Pt.z1_i, ↓Pt.z2_i, ↓Pt.gt_rg1, ↓Pt.gt_rg1J, ↓Pt.gt_rg2, ↓Pt.gt_srcI, ↓Pt.gt_srcLen, ↓Pt.gt_lc, ↓Pt.gt_yes, ↓Pt.gl_nil, ↓Pt.gl_cons, ↓Pt.gl_ok, ↓Pt.vh_h, ↓Pt.vt_t, ↓Pt.gt_ht, ↓Pt.gt_tupL, ↓Pt.lst_l, ↓Pt.gt_newD, ↓Pt.tag_t, ↓Pt.gt_get2T, ↓Pt.key_3, ↓Pt.zp_l, ↓Pt.zp_t, ↓Pt.gt_zip, ↓Pt.pair_0, ↓Pt.pair_s, ↓Pt.gs_seq, ↓Pt.sq_rt, ↓Pt.sq_bk, ↓Pt.sq_ct, ↓Pt.sq_ex, ↓Pt.gs_skip, ↓Pt.gs_brk, ↓Pt.gs_cnt, ↓Pt.gs_nx, ↓Pt.gs_put, ↓Pt.gs_putZ, ↓Pt.gt_map, ↓Pt.gs_ret, ↓Pt.gs_drop, ↓Pt.gs_if, ↓Pt.gs_bind, ↓Pt.gs_par, ↓Pt.gs_par3, ↓Pt.gs_for, ↓Pt.fg_nx, ↓Pt.fg_ct, ↓Pt.fg_bk, ↓Pt.fg_rt, ↓Pt.gs_frz, ↓Pt.fe_s, ↓Pt.fe_l, ↓Pt.fe_k, ↓Pt.fe_t, ↓Pt.fe_d, ↓Pt.gs_apd, ↓Pt.gs_putT, ↓Pt.gs_srcPut, ↓Pt.ox_add, ↓Pt.ox_addL, ↓Pt.ox_addT, ↓Pt.ox_sub, ↓Pt.ox_mul, ↓Pt.ox_div, ↓Pt.ox_mod, ↓Pt.ox_neg, ↓Pt.ox_lt, ↓Pt.ox_le, ↓Pt.ox_gt, ↓Pt.ox_ge, ↓Pt.ox_eq, ↓Pt.ox_ne, ↓Pt.ox_eqS, ↓Pt.ox_neS, ↓Pt.ox_eqL, ↓Pt.ox_neL, ↓Pt.ox_eqT, ↓Pt.ox_neT, ↓Pt.ox_ix0, ↓Pt.ox_ix1, ↓Pt.ox_ix2, ↓Pt.ox_ix3, ↓Pt.ox_ixT0, ↓Pt.ox_ixT1, ↓Pt.ox_ixT2, ↓Pt.ox_ixT3, ↓Pt.ox_pow20, ↓Pt.ox_lenL, ↓Pt.ox_lenT, ↓Pt.ox_int, ↓Pt.ox_abs, ↓Pt.ox_max, ↓Pt.ox_min, ↓Pt.ox_tup, ↓Pt.ox_tupT, ↓Pt.ox_list, ↓Pt.ox_listT, ↓Pt.ox_repr]
  rw [Pt.sq_nx, Pt.gs_seq]
  simp -implicitDefEqProofs (disch := (first | omega | assumption | exact Pt.mul_r (by omega) (by omega) | exact Pt.mul_l (by omega) (by omega) | exact ml _ _ | decide)) only [↓Pt.gt_ok, ↓Pt.gt_bind, ↓Pt.gt_lift, ↓Pt.at_0, ↓Pt.at_s, ↓Pt.nt_0, ↓Pt.nt_s, ↓Pt.vd_d, ↓Pt.vd_h, ↓Pt.vo_l, ↓Pt.vo_k, ↓Pt.vo_t, ↓Pt.vl_l, ↓Pt.vs_s, ↓Pt.pu_0, ↓Pt.pu_s, ↓Pt.wi_0, ↓Pt.wi_s, ↓Pt.bp_n, ↓Pt.bp_t, ↓Pt.bp_l, ↓Pt.bps_0, ↓Pt.bps_s, ↓Pt.bo_t, ↓Pt.bo_f, ↓Pt.bo_not, ↓Pt.gt_var, ↓Pt.gt_own, ↓Pt.gt_c, ↓Pt.gt_bin, ↓Pt.gt_un, ↓Pt.gt_tst, ↓Pt.gt_andT, ↓Pt.gt_orT, ↓Pt.gt_notT, ↓Pt.gt_and, ↓Pt.gt_or, ↓Pt.gt_not, ↓Pt.gt_if, ↓Pt.gt_chain, ↓Pt.gt_nil, ↓Pt.gt_cons, ↓Pt.gt_consA, ↓Pt.gt_consS, ↓Pt.gt_tup, ↓Pt.gt_lst, ↓Pt.gt_fz, ↓Pt.gt_fzD, ↓Pt.gt_call, ↓Pt.gt_callL, ↓Pt.gt_callK, ↓Pt.gt_app, ↓Pt.gt_sl, ↓Pt.gt_none, ↓Pt.gt_some, ↓Pt.ls_l, ↓Pt.gt_rev, ↓Pt.gt_sq, ↓Pt.ox_some, ↓Pt.seq_l, ↓Pt.seq_t, ↓Pt.tst_b, ↓Pt.intD_i, ↓Pt.z1_i, ↓Pt.z2_i, ↓Pt.gt_rg1, ↓Pt.gt_rg1J, ↓Pt.gt_rg2, ↓Pt.gt_srcI, ↓Pt.gt_srcLen, ↓Pt.gt_lc, ↓Pt.gt_yes, ↓Pt.gl_nil, ↓Pt.gl_cons, ↓Pt.gl_ok, ↓Pt.vh_h, ↓Pt.vt_t, ↓Pt.gt_ht, ↓Pt.gt_tupL, ↓Pt.lst_l, ↓Pt.gt_newD, ↓Pt.tag_t, ↓Pt.gt_get2T, ↓Pt.key_3, ↓Pt.zp_l, ↓Pt.zp_t, ↓Pt.gt_zip, ↓Pt.pair_0, ↓Pt.pair_s, ↓Pt.gs_seq, ↓Pt.sq_rt, ↓Pt.sq_bk, ↓Pt.sq_ct, ↓Pt.sq_ex, ↓Pt.gs_skip, ↓Pt.gs_brk, ↓Pt.gs_cnt, ↓Pt.gs_nx, ↓Pt.gs_put, ↓Pt.gs_putZ, ↓Pt.gt_map, ↓Pt.gs_ret, ↓Pt.gs_drop, ↓Pt.gs_if, ↓Pt.gs_bind, ↓Pt.gs_par, ↓Pt.gs_par3, ↓Pt.gs_for, ↓Pt.fg_nx, ↓Pt.fg_ct, ↓Pt.fg_bk, ↓Pt.fg_rt, ↓Pt.gs_frz, ↓Pt.fe_s, ↓Pt.fe_l, ↓Pt.fe_k, ↓Pt.fe_t, ↓Pt.fe_d, ↓Pt.gs_apd, ↓Pt.gs_putT, ↓Pt.gs_srcPut, ↓Pt.ox_add, ↓Pt.ox_addL, ↓Pt.ox_addT, ↓Pt.ox_sub, ↓Pt.ox_mul, ↓Pt.ox_div, ↓Pt.ox_mod, ↓Pt.ox_neg, ↓Pt.ox_lt, ↓Pt.ox_le, ↓Pt.ox_gt, ↓Pt.ox_ge, ↓Pt.ox_eq, ↓Pt.ox_ne, ↓Pt.ox_eqS, ↓Pt.ox_neS, ↓Pt.ox_eqL, ↓Pt.ox_neL, ↓Pt.ox_eqT, ↓Pt.ox_neT, ↓Pt.ox_ix0, ↓Pt.ox_ix1, ↓Pt.ox_ix2, ↓Pt.ox_ix3, ↓Pt.ox_ixT0, ↓Pt.ox_ixT1, ↓Pt.ox_ixT2, ↓Pt.ox_ixT3, ↓Pt.ox_pow20, ↓Pt.ox_lenL, ↓Pt.ox_lenT, ↓Pt.ox_int, ↓Pt.ox_abs, ↓Pt.ox_max, ↓Pt.ox_min, ↓Pt.ox_tup, ↓Pt.ox_tupT, ↓Pt.ox_list, ↓Pt.ox_listT, ↓Pt.ox_repr, sz4, true_and]
  show Sq _ (mSeq _ tCol) _
  rw [Pt.sq_nx, Pt.gs_seq]
  have sh2 : ∀ x y : Int, x.natAbs < 2147483648 → y.natAbs < 2147483648 → shB (.tuple [.int x, .int y]) = true := fun x y hx hy => sh_ok (by rw [Pt.plain, plainAll, plainAll, plainAll, Pt.plain, Pt.plain, wide_of (by omega) (by omega), wide_of (by omega) (by omega)]; rfl) (by simp [PyData.depth, PyData.depthAll])
  have s1 := sh2 (m.a - t) m.b (by omega) (by omega)
  have s2 := sh2 0 0 (by decide) (by decide)
  have ev : PyData.eqvAll [.int (m.a - t), .int m.b] [.int 0, .int 0] = (decide (m.a - t = 0) && decide (m.b = 0)) := by
    simp only [PyData.eqvAll, PyData.eqv, Bool.and_true]
    rfl
  simp -implicitDefEqProofs (disch := (first | omega | assumption | exact Pt.mul_r (by omega) (by omega) | exact Pt.mul_l (by omega) (by omega) | exact ml _ _ | decide)) only [↓Pt.gt_ok, ↓Pt.gt_bind, ↓Pt.gt_lift, ↓Pt.at_0, ↓Pt.at_s, ↓Pt.nt_0, ↓Pt.nt_s, ↓Pt.vd_d, ↓Pt.vd_h, ↓Pt.vo_l, ↓Pt.vo_k, ↓Pt.vo_t, ↓Pt.vl_l, ↓Pt.vs_s, ↓Pt.pu_0, ↓Pt.pu_s, ↓Pt.wi_0, ↓Pt.wi_s, ↓Pt.bp_n, ↓Pt.bp_t, ↓Pt.bp_l, ↓Pt.bps_0, ↓Pt.bps_s, ↓Pt.bo_t, ↓Pt.bo_f, ↓Pt.bo_not, ↓Pt.gt_var, ↓Pt.gt_own, ↓Pt.gt_c, ↓Pt.gt_bin, ↓Pt.gt_un, ↓Pt.gt_tst, ↓Pt.gt_andT, ↓Pt.gt_orT, ↓Pt.gt_notT, ↓Pt.gt_and, ↓Pt.gt_or, ↓Pt.gt_not, ↓Pt.gt_if, ↓Pt.gt_chain, ↓Pt.gt_nil, ↓Pt.gt_cons, ↓Pt.gt_consA, ↓Pt.gt_consS, ↓Pt.gt_tup, ↓Pt.gt_lst, ↓Pt.gt_fz, ↓Pt.gt_fzD, ↓Pt.gt_call, ↓Pt.gt_callL, ↓Pt.gt_callK, ↓Pt.gt_app, ↓Pt.gt_sl, ↓Pt.gt_none, ↓Pt.gt_some, ↓Pt.ls_l, ↓Pt.gt_rev, ↓Pt.gt_sq, ↓Pt.ox_some, ↓Pt.seq_l, ↓Pt.seq_t, ↓Pt.tst_b, ↓Pt.intD_i, ↓Pt.z1_i, ↓Pt.z2_i, ↓Pt.gt_rg1, ↓Pt.gt_rg1J, ↓Pt.gt_rg2, ↓Pt.gt_srcI, ↓Pt.gt_srcLen, ↓Pt.gt_lc, ↓Pt.gt_yes, ↓Pt.gl_nil, ↓Pt.gl_cons, ↓Pt.gl_ok, ↓Pt.vh_h, ↓Pt.vt_t, ↓Pt.gt_ht, ↓Pt.gt_tupL, ↓Pt.lst_l, ↓Pt.gt_newD, ↓Pt.tag_t, ↓Pt.gt_get2T, ↓Pt.key_3, ↓Pt.zp_l, ↓Pt.zp_t, ↓Pt.gt_zip, ↓Pt.pair_0, ↓Pt.pair_s, ↓Pt.gs_seq, ↓Pt.sq_rt, ↓Pt.sq_bk, ↓Pt.sq_ct, ↓Pt.sq_ex, ↓Pt.gs_skip, ↓Pt.gs_brk, ↓Pt.gs_cnt, ↓Pt.gs_nx, ↓Pt.gs_put, ↓Pt.gs_putZ, ↓Pt.gt_map, ↓Pt.gs_ret, ↓Pt.gs_drop, ↓Pt.gs_if, ↓Pt.gs_bind, ↓Pt.gs_par, ↓Pt.gs_par3, ↓Pt.gs_for, ↓Pt.fg_nx, ↓Pt.fg_ct, ↓Pt.fg_bk, ↓Pt.fg_rt, ↓Pt.gs_frz, ↓Pt.fe_s, ↓Pt.fe_l, ↓Pt.fe_k, ↓Pt.fe_t, ↓Pt.fe_d, ↓Pt.gs_apd, ↓Pt.gs_putT, ↓Pt.gs_srcPut, ↓Pt.ox_add, ↓Pt.ox_addL, ↓Pt.ox_addT, ↓Pt.ox_sub, ↓Pt.ox_mul, ↓Pt.ox_div, ↓Pt.ox_mod, ↓Pt.ox_neg, ↓Pt.ox_lt, ↓Pt.ox_le, ↓Pt.ox_gt, ↓Pt.ox_ge, ↓Pt.ox_eq, ↓Pt.ox_ne, ↓Pt.ox_eqS, ↓Pt.ox_neS, ↓Pt.ox_eqL, ↓Pt.ox_neL, ↓Pt.ox_eqT, ↓Pt.ox_neT, ↓Pt.ox_ix0, ↓Pt.ox_ix1, ↓Pt.ox_ix2, ↓Pt.ox_ix3, ↓Pt.ox_ixT0, ↓Pt.ox_ixT1, ↓Pt.ox_ixT2, ↓Pt.ox_ixT3, ↓Pt.ox_pow20, ↓Pt.ox_lenL, ↓Pt.ox_lenT, ↓Pt.ox_int, ↓Pt.ox_abs, ↓Pt.ox_max, ↓Pt.ox_min, ↓Pt.ox_tup, ↓Pt.ox_tupT, ↓Pt.ox_list, ↓Pt.ox_listT, ↓Pt.ox_repr, s1, s2, sz2, ev, Bool.and_self, true_and]
  by_cases c : m.a - t = 0 ∧ m.b = 0
  · rw [decide_eq_true c.1, decide_eq_true c.2]
    have e1 : m.col t = (t - m.d, m.c) := by unfold M4.col; rw [if_neg (by omega)]
    rw [e1] at fin hne
    simp -implicitDefEqProofs (disch := (first | omega | assumption | exact Pt.mul_r (by omega) (by omega) | exact Pt.mul_l (by omega) (by omega) | exact ml _ _ | decide)) only [↓Pt.gt_ok, ↓Pt.gt_bind, ↓Pt.gt_lift, ↓Pt.at_0, ↓Pt.at_s, ↓Pt.nt_0, ↓Pt.nt_s, ↓Pt.vd_d, ↓Pt.vd_h, ↓Pt.vo_l, ↓Pt.vo_k, ↓Pt.vo_t, ↓Pt.vl_l, ↓Pt.vs_s, ↓Pt.pu_0, ↓Pt.pu_s, ↓Pt.wi_0, ↓Pt.wi_s, ↓Pt.bp_n, ↓Pt.bp_t, ↓Pt.bp_l, ↓Pt.bps_0, ↓Pt.bps_s, ↓Pt.bo_t, ↓Pt.bo_f, ↓Pt.bo_not, ↓Pt.gt_var, ↓Pt.gt_own, ↓Pt.gt_c, ↓Pt.gt_bin, ↓Pt.gt_un, ↓Pt.gt_tst, ↓Pt.gt_andT, ↓Pt.gt_orT, ↓Pt.gt_notT, ↓Pt.gt_and, ↓Pt.gt_or, ↓Pt.gt_not, ↓Pt.gt_if, ↓Pt.gt_chain, ↓Pt.gt_nil, ↓Pt.gt_cons, ↓Pt.gt_consA, ↓Pt.gt_consS, ↓Pt.gt_tup, ↓Pt.gt_lst, ↓Pt.gt_fz, ↓Pt.gt_fzD, ↓Pt.gt_call, ↓Pt.gt_callL, ↓Pt.gt_callK, ↓Pt.gt_app, ↓Pt.gt_sl, ↓Pt.gt_none, ↓Pt.gt_some, ↓Pt.ls_l, ↓Pt.gt_rev, ↓Pt.gt_sq, ↓Pt.ox_some, ↓Pt.seq_l, ↓Pt.seq_t, ↓Pt.tst_b, ↓Pt.intD_i, ↓Pt.z1_i, ↓Pt.z2_i, ↓Pt.gt_rg1, ↓Pt.gt_rg1J, ↓Pt.gt_rg2, ↓Pt.gt_srcI, ↓Pt.gt_srcLen, ↓Pt.gt_lc, ↓Pt.gt_yes, ↓Pt.gl_nil, ↓Pt.gl_cons, ↓Pt.gl_ok, ↓Pt.vh_h, ↓Pt.vt_t, ↓Pt.gt_ht, ↓Pt.gt_tupL, ↓Pt.lst_l, ↓Pt.gt_newD, ↓Pt.tag_t, ↓Pt.gt_get2T, ↓Pt.key_3, ↓Pt.zp_l, ↓Pt.zp_t, ↓Pt.gt_zip, ↓Pt.pair_0, ↓Pt.pair_s, ↓Pt.gs_seq, ↓Pt.sq_rt, ↓Pt.sq_bk, ↓Pt.sq_ct, ↓Pt.sq_ex, ↓Pt.gs_skip, ↓Pt.gs_brk, ↓Pt.gs_cnt, ↓Pt.gs_nx, ↓Pt.gs_put, ↓Pt.gs_putZ, ↓Pt.gt_map, ↓Pt.gs_ret, ↓Pt.gs_drop, ↓Pt.gs_if, ↓Pt.gs_bind, ↓Pt.gs_par, ↓Pt.gs_par3, ↓Pt.gs_for, ↓Pt.fg_nx, ↓Pt.fg_ct, ↓Pt.fg_bk, ↓Pt.fg_rt, ↓Pt.gs_frz, ↓Pt.fe_s, ↓Pt.fe_l, ↓Pt.fe_k, ↓Pt.fe_t, ↓Pt.fe_d, ↓Pt.gs_apd, ↓Pt.gs_putT, ↓Pt.gs_srcPut, ↓Pt.ox_add, ↓Pt.ox_addL, ↓Pt.ox_addT, ↓Pt.ox_sub, ↓Pt.ox_mul, ↓Pt.ox_div, ↓Pt.ox_mod, ↓Pt.ox_neg, ↓Pt.ox_lt, ↓Pt.ox_le, ↓Pt.ox_gt, ↓Pt.ox_ge, ↓Pt.ox_eq, ↓Pt.ox_ne, ↓Pt.ox_eqS, ↓Pt.ox_neS, ↓Pt.ox_eqL, ↓Pt.ox_neL, ↓Pt.ox_eqT, ↓Pt.ox_neT, ↓Pt.ox_ix0, ↓Pt.ox_ix1, ↓Pt.ox_ix2, ↓Pt.ox_ix3, ↓Pt.ox_ixT0, ↓Pt.ox_ixT1, ↓Pt.ox_ixT2, ↓Pt.ox_ixT3, ↓Pt.ox_pow20, ↓Pt.ox_lenL, ↓Pt.ox_lenT, ↓Pt.ox_int, ↓Pt.ox_abs, ↓Pt.ox_max, ↓Pt.ox_min, ↓Pt.ox_tup, ↓Pt.ox_tupT, ↓Pt.ox_list, ↓Pt.ox_listT, ↓Pt.ox_repr, Bool.and_self]
    rw [Pt.sq_nx]
    exact fin (0 - (m.d - t)) m.c _ _ _ _ _ _ (fun z => hne ⟨by omega, z.2⟩) (by omega) (by omega) (by simp only []; grind)
  · have e1 : m.col t = (m.b, t - m.a) := by unfold M4.col; rw [if_pos (by omega)]
    have bf : (decide (m.a - t = 0) && decide (m.b = 0)) = false := by
      rw [← Bool.not_eq_true, Bool.and_eq_true, decide_eq_true_eq, decide_eq_true_eq]
      exact c
    rw [e1] at fin hne
    rw [bf]
    simp -implicitDefEqProofs (disch := (first | omega | assumption | exact Pt.mul_r (by omega) (by omega) | exact Pt.mul_l (by omega) (by omega) | exact ml _ _ | decide)) only [↓Pt.gt_ok, ↓Pt.gt_bind, ↓Pt.gt_lift, ↓Pt.at_0, ↓Pt.at_s, ↓Pt.nt_0, ↓Pt.nt_s, ↓Pt.vd_d, ↓Pt.vd_h, ↓Pt.vo_l, ↓Pt.vo_k, ↓Pt.vo_t, ↓Pt.vl_l, ↓Pt.vs_s, ↓Pt.pu_0, ↓Pt.pu_s, ↓Pt.wi_0, ↓Pt.wi_s, ↓Pt.bp_n, ↓Pt.bp_t, ↓Pt.bp_l, ↓Pt.bps_0, ↓Pt.bps_s, ↓Pt.bo_t, ↓Pt.bo_f, ↓Pt.bo_not, ↓Pt.gt_var, ↓Pt.gt_own, ↓Pt.gt_c, ↓Pt.gt_bin, ↓Pt.gt_un, ↓Pt.gt_tst, ↓Pt.gt_andT, ↓Pt.gt_orT, ↓Pt.gt_notT, ↓Pt.gt_and, ↓Pt.gt_or, ↓Pt.gt_not, ↓Pt.gt_if, ↓Pt.gt_chain, ↓Pt.gt_nil, ↓Pt.gt_cons, ↓Pt.gt_consA, ↓Pt.gt_consS, ↓Pt.gt_tup, ↓Pt.gt_lst, ↓Pt.gt_fz, ↓Pt.gt_fzD, ↓Pt.gt_call, ↓Pt.gt_callL, ↓Pt.gt_callK, ↓Pt.gt_app, ↓Pt.gt_sl, ↓Pt.gt_none, ↓Pt.gt_some, ↓Pt.ls_l, ↓Pt.gt_rev, ↓Pt.gt_sq, ↓Pt.ox_some, ↓Pt.seq_l, ↓Pt.seq_t, ↓Pt.tst_b, ↓Pt.intD_i, ↓Pt.z1_i, ↓Pt.z2_i, ↓Pt.gt_rg1, ↓Pt.gt_rg1J, ↓Pt.gt_rg2, ↓Pt.gt_srcI, ↓Pt.gt_srcLen, ↓Pt.gt_lc, ↓Pt.gt_yes, ↓Pt.gl_nil, ↓Pt.gl_cons, ↓Pt.gl_ok, ↓Pt.vh_h, ↓Pt.vt_t, ↓Pt.gt_ht, ↓Pt.gt_tupL, ↓Pt.lst_l, ↓Pt.gt_newD, ↓Pt.tag_t, ↓Pt.gt_get2T, ↓Pt.key_3, ↓Pt.zp_l, ↓Pt.zp_t, ↓Pt.gt_zip, ↓Pt.pair_0, ↓Pt.pair_s, ↓Pt.gs_seq, ↓Pt.sq_rt, ↓Pt.sq_bk, ↓Pt.sq_ct, ↓Pt.sq_ex, ↓Pt.gs_skip, ↓Pt.gs_brk, ↓Pt.gs_cnt, ↓Pt.gs_nx, ↓Pt.gs_put, ↓Pt.gs_putZ, ↓Pt.gt_map, ↓Pt.gs_ret, ↓Pt.gs_drop, ↓Pt.gs_if, ↓Pt.gs_bind, ↓Pt.gs_par, ↓Pt.gs_par3, ↓Pt.gs_for, ↓Pt.fg_nx, ↓Pt.fg_ct, ↓Pt.fg_bk, ↓Pt.fg_rt, ↓Pt.gs_frz, ↓Pt.fe_s, ↓Pt.fe_l, ↓Pt.fe_k, ↓Pt.fe_t, ↓Pt.fe_d, ↓Pt.gs_apd, ↓Pt.gs_putT, ↓Pt.gs_srcPut, ↓Pt.ox_add, ↓Pt.ox_addL, ↓Pt.ox_addT, ↓Pt.ox_sub, ↓Pt.ox_mul, ↓Pt.ox_div, ↓Pt.ox_mod, ↓Pt.ox_neg, ↓Pt.ox_lt, ↓Pt.ox_le, ↓Pt.ox_gt, ↓Pt.ox_ge, ↓Pt.ox_eq, ↓Pt.ox_ne, ↓Pt.ox_eqS, ↓Pt.ox_neS, ↓Pt.ox_eqL, ↓Pt.ox_neL, ↓Pt.ox_eqT, ↓Pt.ox_neT, ↓Pt.ox_ix0, ↓Pt.ox_ix1, ↓Pt.ox_ix2, ↓Pt.ox_ix3, ↓Pt.ox_ixT0, ↓Pt.ox_ixT1, ↓Pt.ox_ixT2, ↓Pt.ox_ixT3, ↓Pt.ox_pow20, ↓Pt.ox_lenL, ↓Pt.ox_lenT, ↓Pt.ox_int, ↓Pt.ox_abs, ↓Pt.ox_max, ↓Pt.ox_min, ↓Pt.ox_tup, ↓Pt.ox_tupT, ↓Pt.ox_list, ↓Pt.ox_listT, ↓Pt.ox_repr]
    rw [Pt.sq_nx]
    exact fin (0 - m.b) (m.a - t) _ _ _ _ _ _ (fun z => hne ⟨by simp only []; omega, by simp only []; omega⟩) (by omega) (by omega) (by simp only []; grind)

theorem abs_two {x : Int} : absI x = 2 ↔ x * x - 4 = 0 := by
  constructor
  · intro h
    unfold absI at h
    split at h
    · have : x = -2 := by omega
      subst this; decide
    · subst h; decide
  · intro h
    obtain ⟨h1, h2⟩ := tr_cases h
    rcases h2 with h2 | h2 <;> (rw [h2] at h1; subst h1; decide)
theorem F_due (m n : M4) (s : Src) (hm : m.le 1073000000) (hn : n.le 1073000000) : F_law_due [.d m.D, .d n.D] s = .ok (lineD m n) s := by
  refine run_ok (e0 := [.d m.D, .d n.D, .un, .un, .un]) ?_
  have f1 := F_triple m n s (M4.le_mono hn (by decide))
  have t1 := M4.tr_le hm
  have t2 := M4.tr_le hn
  have t3 := M4.tr_le (M4.mul_le hm hn)
  have f2 := F_lk (x := m.tr) (y := n.tr) (z := (m.mul n).tr) s (Nat.le_trans t1 (by decide)) (Nat.le_trans t2 (by decide)) (Nat.le_trans t3 (by decide))
  have hk : kk m.tr n.tr (m.mul n).tr = m.k n := rfl
  rw [hk] at f2
  unfold m_law_due
  rw [Pt.gs_seq]
  simp -implicitDefEqProofs (disch := (first | omega | assumption | exact Pt.mul_r (by omega) (by omega) | exact Pt.mul_l (by omega) (by omega) | exact ml _ _ | decide)) only [↓Pt.gt_ok, ↓Pt.gt_bind, ↓Pt.gt_lift, ↓Pt.at_0, ↓Pt.at_s, ↓Pt.nt_0, ↓Pt.nt_s, ↓Pt.vd_d, ↓Pt.vd_h, ↓Pt.vo_l, ↓Pt.vo_k, ↓Pt.vo_t, ↓Pt.vl_l, ↓Pt.vs_s, ↓Pt.pu_0, ↓Pt.pu_s, ↓Pt.wi_0, ↓Pt.wi_s, ↓Pt.bp_n, ↓Pt.bp_t, ↓Pt.bp_l, ↓Pt.bps_0, ↓Pt.bps_s, ↓Pt.bo_t, ↓Pt.bo_f, ↓Pt.bo_not, ↓Pt.gt_var, ↓Pt.gt_own, ↓Pt.gt_c, ↓Pt.gt_bin, ↓Pt.gt_un, ↓Pt.gt_tst, ↓Pt.gt_andT, ↓Pt.gt_orT, ↓Pt.gt_notT, ↓Pt.gt_and, ↓Pt.gt_or, ↓Pt.gt_not, ↓Pt.gt_if, ↓Pt.gt_chain, ↓Pt.gt_nil, ↓Pt.gt_cons, ↓Pt.gt_consA, ↓Pt.gt_consS, ↓Pt.gt_tup, ↓Pt.gt_lst, ↓Pt.gt_fz, ↓Pt.gt_fzD, ↓Pt.gt_call, ↓Pt.gt_callL, ↓Pt.gt_callK, ↓Pt.gt_app, ↓Pt.gt_sl, ↓Pt.gt_none, ↓Pt.gt_some, ↓Pt.ls_l, ↓Pt.gt_rev, ↓Pt.gt_sq, ↓Pt.ox_some, ↓Pt.seq_l, ↓Pt.seq_t, ↓Pt.tst_b, ↓Pt.intD_i, ↓Pt.z1_i, ↓Pt.z2_i, ↓Pt.gt_rg1, ↓Pt.gt_rg1J, ↓Pt.gt_rg2, ↓Pt.gt_srcI, ↓Pt.gt_srcLen, ↓Pt.gt_lc, ↓Pt.gt_yes, ↓Pt.gl_nil, ↓Pt.gl_cons, ↓Pt.gl_ok, ↓Pt.vh_h, ↓Pt.vt_t, ↓Pt.gt_ht, ↓Pt.gt_tupL, ↓Pt.lst_l, ↓Pt.gt_newD, ↓Pt.tag_t, ↓Pt.gt_get2T, ↓Pt.key_3, ↓Pt.zp_l, ↓Pt.zp_t, ↓Pt.gt_zip, ↓Pt.pair_0, ↓Pt.pair_s, ↓Pt.gs_seq, ↓Pt.sq_rt, ↓Pt.sq_bk, ↓Pt.sq_ct, ↓Pt.sq_ex, ↓Pt.gs_skip, ↓Pt.gs_brk, ↓Pt.gs_cnt, ↓Pt.gs_nx, ↓Pt.gs_put, ↓Pt.gs_putZ, ↓Pt.gt_map, ↓Pt.gs_ret, ↓Pt.gs_drop, ↓Pt.gs_if, ↓Pt.gs_bind, ↓Pt.gs_par, ↓Pt.gs_par3, ↓Pt.gs_for, ↓Pt.fg_nx, ↓Pt.fg_ct, ↓Pt.fg_bk, ↓Pt.fg_rt, ↓Pt.gs_frz, ↓Pt.fe_s, ↓Pt.fe_l, ↓Pt.fe_k, ↓Pt.fe_t, ↓Pt.fe_d, ↓Pt.gs_apd, ↓Pt.gs_putT, ↓Pt.gs_srcPut, ↓Pt.ox_add, ↓Pt.ox_addL, ↓Pt.ox_addT, ↓Pt.ox_sub, ↓Pt.ox_mul, ↓Pt.ox_div, ↓Pt.ox_mod, ↓Pt.ox_neg, ↓Pt.ox_lt, ↓Pt.ox_le, ↓Pt.ox_gt, ↓Pt.ox_ge, ↓Pt.ox_eq, ↓Pt.ox_ne, ↓Pt.ox_eqS, ↓Pt.ox_neS, ↓Pt.ox_eqL, ↓Pt.ox_neL, ↓Pt.ox_eqT, ↓Pt.ox_neT, ↓Pt.ox_ix0, ↓Pt.ox_ix1, ↓Pt.ox_ix2, ↓Pt.ox_ix3, ↓Pt.ox_ixT0, ↓Pt.ox_ixT1, ↓Pt.ox_ixT2, ↓Pt.ox_ixT3, ↓Pt.ox_pow20, ↓Pt.ox_lenL, ↓Pt.ox_lenT, ↓Pt.ox_int, ↓Pt.ox_abs, ↓Pt.ox_max, ↓Pt.ox_min, ↓Pt.ox_tup, ↓Pt.ox_tupT, ↓Pt.ox_list, ↓Pt.ox_listT, ↓Pt.ox_repr, ↓gt_eq f1, ↓gt_eq f2]
  by_cases ck : m.k n = 2
  · rw [ck]
    simp -implicitDefEqProofs (disch := (first | omega | assumption | exact Pt.mul_r (by omega) (by omega) | exact Pt.mul_l (by omega) (by omega) | exact ml _ _ | decide)) only [↓Pt.gt_ok, ↓Pt.gt_bind, ↓Pt.gt_lift, ↓Pt.at_0, ↓Pt.at_s, ↓Pt.nt_0, ↓Pt.nt_s, ↓Pt.vd_d, ↓Pt.vd_h, ↓Pt.vo_l, ↓Pt.vo_k, ↓Pt.vo_t, ↓Pt.vl_l, ↓Pt.vs_s, ↓Pt.pu_0, ↓Pt.pu_s, ↓Pt.wi_0, ↓Pt.wi_s, ↓Pt.bp_n, ↓Pt.bp_t, ↓Pt.bp_l, ↓Pt.bps_0, ↓Pt.bps_s, ↓Pt.bo_t, ↓Pt.bo_f, ↓Pt.bo_not, ↓Pt.gt_var, ↓Pt.gt_own, ↓Pt.gt_c, ↓Pt.gt_bin, ↓Pt.gt_un, ↓Pt.gt_tst, ↓Pt.gt_andT, ↓Pt.gt_orT, ↓Pt.gt_notT, ↓Pt.gt_and, ↓Pt.gt_or, ↓Pt.gt_not, ↓Pt.gt_if, ↓Pt.gt_chain, ↓Pt.gt_nil, ↓Pt.gt_cons, ↓Pt.gt_consA, ↓Pt.gt_consS, ↓Pt.gt_tup, ↓Pt.gt_lst, ↓Pt.gt_fz, ↓Pt.gt_fzD, ↓Pt.gt_call, ↓Pt.gt_callL, ↓Pt.gt_callK, ↓Pt.gt_app, ↓Pt.gt_sl, ↓Pt.gt_none, ↓Pt.gt_some, ↓Pt.ls_l, ↓Pt.gt_rev, ↓Pt.gt_sq, ↓Pt.ox_some, ↓Pt.seq_l, ↓Pt.seq_t, ↓Pt.tst_b, ↓Pt.intD_i, ↓Pt.z1_i, ↓Pt.z2_i, ↓Pt.gt_rg1, ↓Pt.gt_rg1J, ↓Pt.gt_rg2, ↓Pt.gt_srcI, ↓Pt.gt_srcLen, ↓Pt.gt_lc, ↓Pt.gt_yes, ↓Pt.gl_nil, ↓Pt.gl_cons, ↓Pt.gl_ok, ↓Pt.vh_h, ↓Pt.vt_t, ↓Pt.gt_ht, ↓Pt.gt_tupL, ↓Pt.lst_l, ↓Pt.gt_newD, ↓Pt.tag_t, ↓Pt.gt_get2T, ↓Pt.key_3, ↓Pt.zp_l, ↓Pt.zp_t, ↓Pt.gt_zip, ↓Pt.pair_0, ↓Pt.pair_s, ↓Pt.gs_seq, ↓Pt.sq_rt, ↓Pt.sq_bk, ↓Pt.sq_ct, ↓Pt.sq_ex, ↓Pt.gs_skip, ↓Pt.gs_brk, ↓Pt.gs_cnt, ↓Pt.gs_nx, ↓Pt.gs_put, ↓Pt.gs_putZ, ↓Pt.gt_map, ↓Pt.gs_ret, ↓Pt.gs_drop, ↓Pt.gs_if, ↓Pt.gs_bind, ↓Pt.gs_par, ↓Pt.gs_par3, ↓Pt.gs_for, ↓Pt.fg_nx, ↓Pt.fg_ct, ↓Pt.fg_bk, ↓Pt.fg_rt, ↓Pt.gs_frz, ↓Pt.fe_s, ↓Pt.fe_l, ↓Pt.fe_k, ↓Pt.fe_t, ↓Pt.fe_d, ↓Pt.gs_apd, ↓Pt.gs_putT, ↓Pt.gs_srcPut, ↓Pt.ox_add, ↓Pt.ox_addL, ↓Pt.ox_addT, ↓Pt.ox_sub, ↓Pt.ox_mul, ↓Pt.ox_div, ↓Pt.ox_mod, ↓Pt.ox_neg, ↓Pt.ox_lt, ↓Pt.ox_le, ↓Pt.ox_gt, ↓Pt.ox_ge, ↓Pt.ox_eq, ↓Pt.ox_ne, ↓Pt.ox_eqS, ↓Pt.ox_neS, ↓Pt.ox_eqL, ↓Pt.ox_neL, ↓Pt.ox_eqT, ↓Pt.ox_neT, ↓Pt.ox_ix0, ↓Pt.ox_ix1, ↓Pt.ox_ix2, ↓Pt.ox_ix3, ↓Pt.ox_ixT0, ↓Pt.ox_ixT1, ↓Pt.ox_ixT2, ↓Pt.ox_ixT3, ↓Pt.ox_pow20, ↓Pt.ox_lenL, ↓Pt.ox_lenT, ↓Pt.ox_int, ↓Pt.ox_abs, ↓Pt.ox_max, ↓Pt.ox_min, ↓Pt.ox_tup, ↓Pt.ox_tupT, ↓Pt.ox_list, ↓Pt.ox_listT, ↓Pt.ox_repr, decide_true, Bool.not_true]
    have e1 : ∀ s : Src, (mTup (mCons (mTup (mCons (mC (.int 1)) (mCons (mC (.int 0)) (mCons (mC (.int 0)) (mCons (mC (.int 1)) mNil))))) (mCons (mTup (mCons (mUn dNeg (mC (.int 1))) (mCons (mC (.int 0)) (mCons (mC (.int 0)) (mCons (mUn dNeg (mC (.int 1))) mNil))))) mNil))) [.d m.D, .d n.D, .un, .un, .un] s = .ok (.tuple eachOne) s := fun s => rfl
    obtain ⟨L, hL, shL, cs⟩ := lines_some m n hm hn
    have go : lcGo (.n 4) (mTst (mBin (dIn true) (mVar 4) (mTup (mCons (mTup (mCons (mC (.int 1)) (mCons (mC (.int 0)) (mCons (mC (.int 0)) (mCons (mC (.int 1)) mNil))))) (mCons (mTup (mCons (mUn dNeg (mC (.int 1))) (mCons (mC (.int 0)) (mCons (mC (.int 0)) (mCons (mUn dNeg (mC (.int 1))) mNil))))) mNil))))) (mVar 4) [m.D, n.D] [.d m.D, .d n.D, .un, .un, .un] s = .ok (([m.D, n.D].filter fun d => !(eachOne.any fun z => PyData.eqv z d)).map id) s := by
      refine lc_pure _ _ _ fun x hx => ?_
      obtain ⟨z, hz, rfl⟩ := two_M4 hm hn hx
      have q := fun (K : Pt.D → Prop) => ox_notInM (K := K) hz
      have s2 : ∀ x y : Pt.D, szB [x, y].length = true := fun _ _ => rfl
      have s4 : ∀ x y z u : Pt.D, szB [x, y, z, u].length = true := fun _ _ _ _ => rfl
      unfold eachOne at q
      simp -implicitDefEqProofs (disch := (first | omega | assumption | exact Pt.mul_r (by omega) (by omega) | exact Pt.mul_l (by omega) (by omega) | exact ml _ _ | decide)) only [↓Pt.gt_ok, ↓Pt.gt_bind, ↓Pt.gt_lift, ↓Pt.at_0, ↓Pt.at_s, ↓Pt.nt_0, ↓Pt.nt_s, ↓Pt.vd_d, ↓Pt.vd_h, ↓Pt.vo_l, ↓Pt.vo_k, ↓Pt.vo_t, ↓Pt.vl_l, ↓Pt.vs_s, ↓Pt.pu_0, ↓Pt.pu_s, ↓Pt.wi_0, ↓Pt.wi_s, ↓Pt.bp_n, ↓Pt.bp_t, ↓Pt.bp_l, ↓Pt.bps_0, ↓Pt.bps_s, ↓Pt.bo_t, ↓Pt.bo_f, ↓Pt.bo_not, ↓Pt.gt_var, ↓Pt.gt_own, ↓Pt.gt_c, ↓Pt.gt_bin, ↓Pt.gt_un, ↓Pt.gt_tst, ↓Pt.gt_andT, ↓Pt.gt_orT, ↓Pt.gt_notT, ↓Pt.gt_and, ↓Pt.gt_or, ↓Pt.gt_not, ↓Pt.gt_if, ↓Pt.gt_chain, ↓Pt.gt_nil, ↓Pt.gt_cons, ↓Pt.gt_consA, ↓Pt.gt_consS, ↓Pt.gt_tup, ↓Pt.gt_lst, ↓Pt.gt_fz, ↓Pt.gt_fzD, ↓Pt.gt_call, ↓Pt.gt_callL, ↓Pt.gt_callK, ↓Pt.gt_app, ↓Pt.gt_sl, ↓Pt.gt_none, ↓Pt.gt_some, ↓Pt.ls_l, ↓Pt.gt_rev, ↓Pt.gt_sq, ↓Pt.ox_some, ↓Pt.seq_l, ↓Pt.seq_t, ↓Pt.tst_b, ↓Pt.intD_i, ↓Pt.z1_i, ↓Pt.z2_i, ↓Pt.gt_rg1, ↓Pt.gt_rg1J, ↓Pt.gt_rg2, ↓Pt.gt_srcI, ↓Pt.gt_srcLen, ↓Pt.gt_lc, ↓Pt.gt_yes, ↓Pt.gl_nil, ↓Pt.gl_cons, ↓Pt.gl_ok, ↓Pt.vh_h, ↓Pt.vt_t, ↓Pt.gt_ht, ↓Pt.gt_tupL, ↓Pt.lst_l, ↓Pt.gt_newD, ↓Pt.tag_t, ↓Pt.gt_get2T, ↓Pt.key_3, ↓Pt.zp_l, ↓Pt.zp_t, ↓Pt.gt_zip, ↓Pt.pair_0, ↓Pt.pair_s, ↓Pt.gs_seq, ↓Pt.sq_nx, ↓Pt.sq_rt, ↓Pt.sq_bk, ↓Pt.sq_ct, ↓Pt.sq_ex, ↓Pt.gs_skip, ↓Pt.gs_brk, ↓Pt.gs_cnt, ↓Pt.gs_nx, ↓Pt.gs_put, ↓Pt.gs_putZ, ↓Pt.gt_map, ↓Pt.gs_ret, ↓Pt.gs_drop, ↓Pt.gs_if, ↓Pt.gs_bind, ↓Pt.gs_par, ↓Pt.gs_par3, ↓Pt.gs_for, ↓Pt.fg_nx, ↓Pt.fg_ct, ↓Pt.fg_bk, ↓Pt.fg_rt, ↓Pt.gs_frz, ↓Pt.fe_s, ↓Pt.fe_l, ↓Pt.fe_k, ↓Pt.fe_t, ↓Pt.fe_d, ↓Pt.gs_apd, ↓Pt.gs_putT, ↓Pt.gs_srcPut, ↓Pt.ox_add, ↓Pt.ox_addL, ↓Pt.ox_addT, ↓Pt.ox_sub, ↓Pt.ox_mul, ↓Pt.ox_div, ↓Pt.ox_mod, ↓Pt.ox_neg, ↓Pt.ox_lt, ↓Pt.ox_le, ↓Pt.ox_gt, ↓Pt.ox_ge, ↓Pt.ox_eq, ↓Pt.ox_ne, ↓Pt.ox_eqS, ↓Pt.ox_neS, ↓Pt.ox_eqL, ↓Pt.ox_neL, ↓Pt.ox_eqT, ↓Pt.ox_neT, ↓Pt.ox_ix0, ↓Pt.ox_ix1, ↓Pt.ox_ix2, ↓Pt.ox_ix3, ↓Pt.ox_ixT0, ↓Pt.ox_ixT1, ↓Pt.ox_ixT2, ↓Pt.ox_ixT3, ↓Pt.ox_pow20, ↓Pt.ox_lenL, ↓Pt.ox_lenT, ↓Pt.ox_int, ↓Pt.ox_abs, ↓Pt.ox_max, ↓Pt.ox_min, ↓Pt.ox_tup, ↓Pt.ox_tupT, ↓Pt.ox_list, ↓Pt.ox_listT, ↓Pt.ox_repr, s2, s4, true_and, q, each_any, id, and_self, implies_true]
    rw [hL] at go
    have z0 : szB 0 = true := rfl
    have sh2 : shB (.list []) = true := by decide
    have ld : lineD m n = lineM (firstNU m n) := by unfold lineD; rw [if_pos ck]
    rw [ld, Pt.sq_nx, Pt.gs_seq]
    simp -implicitDefEqProofs (disch := (first | omega | assumption | exact Pt.mul_r (by omega) (by omega) | exact Pt.mul_l (by omega) (by omega) | exact ml _ _ | decide)) only [↓Pt.gt_ok, ↓Pt.gt_bind, ↓Pt.gt_lift, ↓Pt.at_0, ↓Pt.at_s, ↓Pt.nt_0, ↓Pt.nt_s, ↓Pt.vd_d, ↓Pt.vd_h, ↓Pt.vo_l, ↓Pt.vo_k, ↓Pt.vo_t, ↓Pt.vl_l, ↓Pt.vs_s, ↓Pt.pu_0, ↓Pt.pu_s, ↓Pt.wi_0, ↓Pt.wi_s, ↓Pt.bp_n, ↓Pt.bp_t, ↓Pt.bp_l, ↓Pt.bps_0, ↓Pt.bps_s, ↓Pt.bo_t, ↓Pt.bo_f, ↓Pt.bo_not, ↓Pt.gt_var, ↓Pt.gt_own, ↓Pt.gt_c, ↓Pt.gt_bin, ↓Pt.gt_un, ↓Pt.gt_tst, ↓Pt.gt_andT, ↓Pt.gt_orT, ↓Pt.gt_notT, ↓Pt.gt_and, ↓Pt.gt_or, ↓Pt.gt_not, ↓Pt.gt_if, ↓Pt.gt_chain, ↓Pt.gt_nil, ↓Pt.gt_cons, ↓Pt.gt_consA, ↓Pt.gt_consS, ↓Pt.gt_tup, ↓Pt.gt_lst, ↓Pt.gt_fz, ↓Pt.gt_fzD, ↓Pt.gt_call, ↓Pt.gt_callL, ↓Pt.gt_callK, ↓Pt.gt_app, ↓Pt.gt_sl, ↓Pt.gt_none, ↓Pt.gt_some, ↓Pt.ls_l, ↓Pt.gt_rev, ↓Pt.gt_sq, ↓Pt.ox_some, ↓Pt.seq_l, ↓Pt.seq_t, ↓Pt.tst_b, ↓Pt.intD_i, ↓Pt.z1_i, ↓Pt.z2_i, ↓Pt.gt_rg1, ↓Pt.gt_rg1J, ↓Pt.gt_rg2, ↓Pt.gt_srcI, ↓Pt.gt_srcLen, ↓Pt.gt_lc, ↓Pt.gt_yes, ↓Pt.gl_ok, ↓Pt.vh_h, ↓Pt.vt_t, ↓Pt.gt_ht, ↓Pt.gt_tupL, ↓Pt.lst_l, ↓Pt.gt_newD, ↓Pt.tag_t, ↓Pt.gt_get2T, ↓Pt.key_3, ↓Pt.zp_l, ↓Pt.zp_t, ↓Pt.gt_zip, ↓Pt.pair_0, ↓Pt.pair_s, ↓Pt.gs_seq, ↓Pt.sq_rt, ↓Pt.sq_bk, ↓Pt.sq_ct, ↓Pt.sq_ex, ↓Pt.gs_skip, ↓Pt.gs_brk, ↓Pt.gs_cnt, ↓Pt.gs_nx, ↓Pt.gs_put, ↓Pt.gs_putZ, ↓Pt.gt_map, ↓Pt.gs_ret, ↓Pt.gs_drop, ↓Pt.gs_if, ↓Pt.gs_bind, ↓Pt.gs_par, ↓Pt.gs_par3, ↓Pt.gs_for, ↓Pt.fg_nx, ↓Pt.fg_ct, ↓Pt.fg_bk, ↓Pt.fg_rt, ↓Pt.gs_frz, ↓Pt.fe_s, ↓Pt.fe_l, ↓Pt.fe_k, ↓Pt.fe_t, ↓Pt.fe_d, ↓Pt.gs_apd, ↓Pt.gs_putT, ↓Pt.gs_srcPut, ↓Pt.ox_add, ↓Pt.ox_addL, ↓Pt.ox_addT, ↓Pt.ox_sub, ↓Pt.ox_mul, ↓Pt.ox_div, ↓Pt.ox_mod, ↓Pt.ox_neg, ↓Pt.ox_lt, ↓Pt.ox_le, ↓Pt.ox_gt, ↓Pt.ox_ge, ↓Pt.ox_eq, ↓Pt.ox_ne, ↓Pt.ox_eqS, ↓Pt.ox_neS, ↓Pt.ox_eqL, ↓Pt.ox_neL, ↓Pt.ox_eqT, ↓Pt.ox_neT, ↓Pt.ox_ix0, ↓Pt.ox_ix1, ↓Pt.ox_ix2, ↓Pt.ox_ix3, ↓Pt.ox_ixT0, ↓Pt.ox_ixT1, ↓Pt.ox_ixT2, ↓Pt.ox_ixT3, ↓Pt.ox_pow20, ↓Pt.ox_lenL, ↓Pt.ox_lenT, ↓Pt.ox_int, ↓Pt.ox_abs, ↓Pt.ox_max, ↓Pt.ox_min, ↓Pt.ox_tup, ↓Pt.ox_tupT, ↓Pt.ox_list, ↓Pt.ox_listT, ↓Pt.ox_repr, go, sz2, true_and]
    rcases cs with ⟨rfl, hf⟩ | ⟨z, r, rfl, hf, hu, hz⟩
    · rw [hf]
      unfold lineM
      simp -implicitDefEqProofs (disch := (first | omega | assumption | exact Pt.mul_r (by omega) (by omega) | exact Pt.mul_l (by omega) (by omega) | exact ml _ _ | decide)) only [↓Pt.gt_ok, ↓Pt.gt_bind, ↓Pt.gt_lift, ↓Pt.at_0, ↓Pt.at_s, ↓Pt.nt_0, ↓Pt.nt_s, ↓Pt.vd_d, ↓Pt.vd_h, ↓Pt.vo_l, ↓Pt.vo_k, ↓Pt.vo_t, ↓Pt.vl_l, ↓Pt.vs_s, ↓Pt.pu_0, ↓Pt.pu_s, ↓Pt.wi_0, ↓Pt.wi_s, ↓Pt.bp_n, ↓Pt.bp_t, ↓Pt.bp_l, ↓Pt.bps_0, ↓Pt.bps_s, ↓Pt.bo_t, ↓Pt.bo_f, ↓Pt.bo_not, ↓Pt.gt_var, ↓Pt.gt_own, ↓Pt.gt_c, ↓Pt.gt_bin, ↓Pt.gt_un, ↓Pt.gt_tst, ↓Pt.gt_andT, ↓Pt.gt_orT, ↓Pt.gt_notT, ↓Pt.gt_and, ↓Pt.gt_or, ↓Pt.gt_not, ↓Pt.gt_if, ↓Pt.gt_chain, ↓Pt.gt_nil, ↓Pt.gt_cons, ↓Pt.gt_consA, ↓Pt.gt_consS, ↓Pt.gt_tup, ↓Pt.gt_lst, ↓Pt.gt_fz, ↓Pt.gt_fzD, ↓Pt.gt_call, ↓Pt.gt_callL, ↓Pt.gt_callK, ↓Pt.gt_app, ↓Pt.gt_sl, ↓Pt.gt_none, ↓Pt.gt_some, ↓Pt.ls_l, ↓Pt.gt_rev, ↓Pt.gt_sq, ↓Pt.ox_some, ↓Pt.seq_l, ↓Pt.seq_t, ↓Pt.tst_b, ↓Pt.intD_i, ↓Pt.z1_i, ↓Pt.z2_i, ↓Pt.gt_rg1, ↓Pt.gt_rg1J, ↓Pt.gt_rg2, ↓Pt.gt_srcI, ↓Pt.gt_srcLen, ↓Pt.gt_lc, ↓Pt.gt_yes, ↓Pt.gl_nil, ↓Pt.gl_cons, ↓Pt.gl_ok, ↓Pt.vh_h, ↓Pt.vt_t, ↓Pt.gt_ht, ↓Pt.gt_tupL, ↓Pt.lst_l, ↓Pt.gt_newD, ↓Pt.tag_t, ↓Pt.gt_get2T, ↓Pt.key_3, ↓Pt.zp_l, ↓Pt.zp_t, ↓Pt.gt_zip, ↓Pt.pair_0, ↓Pt.pair_s, ↓Pt.gs_seq, ↓Pt.sq_nx, ↓Pt.sq_rt, ↓Pt.sq_bk, ↓Pt.sq_ct, ↓Pt.sq_ex, ↓Pt.gs_skip, ↓Pt.gs_brk, ↓Pt.gs_cnt, ↓Pt.gs_nx, ↓Pt.gs_put, ↓Pt.gs_putZ, ↓Pt.gt_map, ↓Pt.gs_ret, ↓Pt.gs_drop, ↓Pt.gs_if, ↓Pt.gs_bind, ↓Pt.gs_par, ↓Pt.gs_par3, ↓Pt.gs_for, ↓Pt.fg_nx, ↓Pt.fg_ct, ↓Pt.fg_bk, ↓Pt.fg_rt, ↓Pt.gs_frz, ↓Pt.fe_s, ↓Pt.fe_l, ↓Pt.fe_k, ↓Pt.fe_t, ↓Pt.fe_d, ↓Pt.gs_apd, ↓Pt.gs_putT, ↓Pt.gs_srcPut, ↓Pt.ox_add, ↓Pt.ox_addL, ↓Pt.ox_addT, ↓Pt.ox_sub, ↓Pt.ox_mul, ↓Pt.ox_div, ↓Pt.ox_mod, ↓Pt.ox_neg, ↓Pt.ox_lt, ↓Pt.ox_le, ↓Pt.ox_gt, ↓Pt.ox_ge, ↓Pt.ox_eq, ↓Pt.ox_ne, ↓Pt.ox_eqS, ↓Pt.ox_neS, ↓Pt.ox_eqL, ↓Pt.ox_neL, ↓Pt.ox_eqT, ↓Pt.ox_neT, ↓Pt.ox_ix0, ↓Pt.ox_ix1, ↓Pt.ox_ix2, ↓Pt.ox_ix3, ↓Pt.ox_ixT0, ↓Pt.ox_ixT1, ↓Pt.ox_ixT2, ↓Pt.ox_ixT3, ↓Pt.ox_pow20, ↓Pt.ox_lenL, ↓Pt.ox_lenT, ↓Pt.ox_int, ↓Pt.ox_abs, ↓Pt.ox_max, ↓Pt.ox_min, ↓Pt.ox_tup, ↓Pt.ox_tupT, ↓Pt.ox_list, ↓Pt.ox_listT, ↓Pt.ox_repr, List.length_nil, z0, sh2, Bool.and_self, true_and, PyData.eqvAll, show szB [PyData.str "every"].length = true from rfl]
    · rw [hf]
      have tb := M4.tr_le hz
      have mo : mulB z.tr z.tr = true := mul_r (by omega) (by omega)
      have s1 : ∀ x : Pt.D, szB [x].length = true := fun _ => rfl
      simp -implicitDefEqProofs (disch := (first | assumption | decide)) only [↓Pt.gt_ok, ↓Pt.gt_bind, ↓Pt.gt_lift, ↓Pt.at_0, ↓Pt.at_s, ↓Pt.nt_0, ↓Pt.nt_s, ↓Pt.vd_d, ↓Pt.vd_h, ↓Pt.vo_l, ↓Pt.vo_k, ↓Pt.vo_t, ↓Pt.vl_l, ↓Pt.vs_s, ↓Pt.pu_0, ↓Pt.pu_s, ↓Pt.wi_0, ↓Pt.wi_s, ↓Pt.bp_n, ↓Pt.bp_t, ↓Pt.bp_l, ↓Pt.bps_0, ↓Pt.bps_s, ↓Pt.bo_t, ↓Pt.bo_f, ↓Pt.bo_not, ↓Pt.gt_var, ↓Pt.gt_own, ↓Pt.gt_c, ↓Pt.gt_bin, ↓Pt.gt_un, ↓Pt.gt_tst, ↓Pt.gt_andT, ↓Pt.gt_orT, ↓Pt.gt_notT, ↓Pt.gt_and, ↓Pt.gt_or, ↓Pt.gt_not, ↓Pt.gt_if, ↓Pt.gt_chain, ↓Pt.gt_nil, ↓Pt.gt_cons, ↓Pt.gt_consA, ↓Pt.gt_consS, ↓Pt.gt_tup, ↓Pt.gt_lst, ↓Pt.gt_fz, ↓Pt.gt_fzD, ↓Pt.gt_call, ↓Pt.gt_callL, ↓Pt.gt_callK, ↓Pt.gt_app, ↓Pt.gt_sl, ↓Pt.gt_none, ↓Pt.gt_some, ↓Pt.ls_l, ↓Pt.gt_rev, ↓Pt.gt_sq, ↓Pt.ox_some, ↓Pt.seq_l, ↓Pt.seq_t, ↓Pt.tst_b, ↓Pt.intD_i, ↓Pt.z1_i, ↓Pt.z2_i, ↓Pt.gt_rg1, ↓Pt.gt_rg1J, ↓Pt.gt_rg2, ↓Pt.gt_srcI, ↓Pt.gt_srcLen, ↓Pt.gt_lc, ↓Pt.gt_yes, ↓Pt.gl_ok, ↓Pt.vh_h, ↓Pt.vt_t, ↓Pt.gt_ht, ↓Pt.gt_tupL, ↓Pt.lst_l, ↓Pt.gt_newD, ↓Pt.tag_t, ↓Pt.gt_get2T, ↓Pt.key_3, ↓Pt.zp_l, ↓Pt.zp_t, ↓Pt.gt_zip, ↓Pt.pair_0, ↓Pt.pair_s, ↓Pt.gs_seq, ↓Pt.sq_rt, ↓Pt.sq_bk, ↓Pt.sq_ct, ↓Pt.sq_ex, ↓Pt.gs_skip, ↓Pt.gs_brk, ↓Pt.gs_cnt, ↓Pt.gs_nx, ↓Pt.gs_put, ↓Pt.gs_putZ, ↓Pt.gt_map, ↓Pt.gs_ret, ↓Pt.gs_drop, ↓Pt.gs_if, ↓Pt.gs_bind, ↓Pt.gs_par, ↓Pt.gs_par3, ↓Pt.gs_for, ↓Pt.fg_nx, ↓Pt.fg_ct, ↓Pt.fg_bk, ↓Pt.fg_rt, ↓Pt.gs_frz, ↓Pt.fe_s, ↓Pt.fe_l, ↓Pt.fe_k, ↓Pt.fe_t, ↓Pt.fe_d, ↓Pt.gs_apd, ↓Pt.gs_putT, ↓Pt.gs_srcPut, ↓Pt.ox_add, ↓Pt.ox_addL, ↓Pt.ox_addT, ↓Pt.ox_sub, ↓Pt.ox_mul, ↓Pt.ox_div, ↓Pt.ox_mod, ↓Pt.ox_neg, ↓Pt.ox_lt, ↓Pt.ox_le, ↓Pt.ox_gt, ↓Pt.ox_ge, ↓Pt.ox_eq, ↓Pt.ox_ne, ↓Pt.ox_eqS, ↓Pt.ox_neS, ↓Pt.ox_eqL, ↓Pt.ox_neL, ↓Pt.ox_eqT, ↓Pt.ox_neT, ↓Pt.ox_ix0, ↓Pt.ox_ix1, ↓Pt.ox_ix2, ↓Pt.ox_ix3, ↓Pt.ox_ixT0, ↓Pt.ox_ixT1, ↓Pt.ox_ixT2, ↓Pt.ox_ixT3, ↓Pt.ox_pow20, ↓Pt.ox_lenL, ↓Pt.ox_lenT, ↓Pt.ox_int, ↓Pt.ox_abs, ↓Pt.ox_max, ↓Pt.ox_min, ↓Pt.ox_tup, ↓Pt.ox_tupT, ↓Pt.ox_list, ↓Pt.ox_listT, ↓Pt.ox_repr, ↓Pt.sq_nx, List.length_nil, z0, shL, sh2, Bool.and_self, true_and, PyData.eqvAll]
      have d0 : ∀ K : Pt.D → Prop, Ox (dIx z.D (.int 0)) K = K (.int z.a) := fun K => by unfold M4.D; exact ox_ixT0
      have d3 : ∀ K : Pt.D → Prop, Ox (dIx z.D (.int 3)) K = K (.int z.d) := fun K => by unfold M4.D; exact ox_ixT3
      have ze : z.a + z.d = z.tr := rfl
      simp -implicitDefEqProofs (disch := (first | assumption | decide)) only [↓Pt.gt_ok, ↓Pt.gt_bind, ↓Pt.gt_lift, ↓Pt.at_0, ↓Pt.at_s, ↓Pt.nt_0, ↓Pt.nt_s, ↓Pt.vd_d, ↓Pt.vd_h, ↓Pt.vo_l, ↓Pt.vo_k, ↓Pt.vo_t, ↓Pt.vl_l, ↓Pt.vs_s, ↓Pt.pu_0, ↓Pt.pu_s, ↓Pt.wi_0, ↓Pt.wi_s, ↓Pt.bp_n, ↓Pt.bp_t, ↓Pt.bp_l, ↓Pt.bps_0, ↓Pt.bps_s, ↓Pt.bo_t, ↓Pt.bo_f, ↓Pt.bo_not, ↓Pt.gt_var, ↓Pt.gt_own, ↓Pt.gt_c, ↓Pt.gt_bin, ↓Pt.gt_un, ↓Pt.gt_tst, ↓Pt.gt_andT, ↓Pt.gt_orT, ↓Pt.gt_notT, ↓Pt.gt_and, ↓Pt.gt_or, ↓Pt.gt_not, ↓Pt.gt_if, ↓Pt.gt_chain, ↓Pt.gt_nil, ↓Pt.gt_cons, ↓Pt.gt_consA, ↓Pt.gt_consS, ↓Pt.gt_tup, ↓Pt.gt_lst, ↓Pt.gt_fz, ↓Pt.gt_fzD, ↓Pt.gt_call, ↓Pt.gt_callL, ↓Pt.gt_callK, ↓Pt.gt_app, ↓Pt.gt_sl, ↓Pt.gt_none, ↓Pt.gt_some, ↓Pt.ls_l, ↓Pt.gt_rev, ↓Pt.gt_sq, ↓Pt.ox_some, ↓Pt.seq_l, ↓Pt.seq_t, ↓Pt.tst_b, ↓Pt.intD_i, ↓Pt.z1_i, ↓Pt.z2_i, ↓Pt.gt_rg1, ↓Pt.gt_rg1J, ↓Pt.gt_rg2, ↓Pt.gt_srcI, ↓Pt.gt_srcLen, ↓Pt.gt_lc, ↓Pt.gt_yes, ↓Pt.gl_nil, ↓Pt.gl_cons, ↓Pt.gl_ok, ↓Pt.vh_h, ↓Pt.vt_t, ↓Pt.gt_ht, ↓Pt.gt_tupL, ↓Pt.lst_l, ↓Pt.gt_newD, ↓Pt.tag_t, ↓Pt.gt_get2T, ↓Pt.key_3, ↓Pt.zp_l, ↓Pt.zp_t, ↓Pt.gt_zip, ↓Pt.pair_0, ↓Pt.pair_s, ↓Pt.gs_seq, ↓Pt.sq_nx, ↓Pt.sq_rt, ↓Pt.sq_bk, ↓Pt.sq_ct, ↓Pt.sq_ex, ↓Pt.gs_skip, ↓Pt.gs_brk, ↓Pt.gs_cnt, ↓Pt.gs_nx, ↓Pt.gs_put, ↓Pt.gs_putZ, ↓Pt.gt_map, ↓Pt.gs_ret, ↓Pt.gs_drop, ↓Pt.gs_if, ↓Pt.gs_bind, ↓Pt.gs_par, ↓Pt.gs_par3, ↓Pt.gs_for, ↓Pt.fg_nx, ↓Pt.fg_ct, ↓Pt.fg_bk, ↓Pt.fg_rt, ↓Pt.gs_frz, ↓Pt.fe_s, ↓Pt.fe_l, ↓Pt.fe_k, ↓Pt.fe_t, ↓Pt.fe_d, ↓Pt.gs_apd, ↓Pt.gs_putT, ↓Pt.gs_srcPut, ↓Pt.ox_add, ↓Pt.ox_addL, ↓Pt.ox_addT, ↓Pt.ox_sub, ↓Pt.ox_mul, ↓Pt.ox_div, ↓Pt.ox_mod, ↓Pt.ox_neg, ↓Pt.ox_lt, ↓Pt.ox_le, ↓Pt.ox_gt, ↓Pt.ox_ge, ↓Pt.ox_eq, ↓Pt.ox_ne, ↓Pt.ox_eqS, ↓Pt.ox_neS, ↓Pt.ox_eqL, ↓Pt.ox_neL, ↓Pt.ox_eqT, ↓Pt.ox_neT, ↓Pt.ox_ix0, ↓Pt.ox_ix1, ↓Pt.ox_ix2, ↓Pt.ox_ix3, ↓Pt.ox_ixT0, ↓Pt.ox_ixT1, ↓Pt.ox_ixT2, ↓Pt.ox_ixT3, ↓Pt.ox_pow20, ↓Pt.ox_lenL, ↓Pt.ox_lenT, ↓Pt.ox_int, ↓Pt.ox_abs, ↓Pt.ox_max, ↓Pt.ox_min, ↓Pt.ox_tup, ↓Pt.ox_tupT, ↓Pt.ox_list, ↓Pt.ox_listT, ↓Pt.ox_repr, d0, d3, ze]
      rw [lineM_some]
      unfold lineOf
      refine bo_mk (fun h0 => ?_) fun h0 => ?_
      · have h0 := abs_two.mp (of_decide_eq_true h0)
        obtain ⟨c1, c2⟩ := tr_cases h0
        have fk := F_col z (z.tr / 2) s c1 c2 hu hz
        rw [if_pos h0]
        simp -implicitDefEqProofs (disch := (first | assumption | decide)) only [↓Pt.gt_ok, ↓Pt.gt_bind, ↓Pt.gt_lift, ↓Pt.at_0, ↓Pt.at_s, ↓Pt.nt_0, ↓Pt.nt_s, ↓Pt.vd_d, ↓Pt.vd_h, ↓Pt.vo_l, ↓Pt.vo_k, ↓Pt.vo_t, ↓Pt.vl_l, ↓Pt.vs_s, ↓Pt.pu_0, ↓Pt.pu_s, ↓Pt.wi_0, ↓Pt.wi_s, ↓Pt.bp_n, ↓Pt.bp_t, ↓Pt.bp_l, ↓Pt.bps_0, ↓Pt.bps_s, ↓Pt.bo_t, ↓Pt.bo_f, ↓Pt.bo_not, ↓Pt.gt_var, ↓Pt.gt_own, ↓Pt.gt_c, ↓Pt.gt_bin, ↓Pt.gt_un, ↓Pt.gt_tst, ↓Pt.gt_andT, ↓Pt.gt_orT, ↓Pt.gt_notT, ↓Pt.gt_and, ↓Pt.gt_or, ↓Pt.gt_not, ↓Pt.gt_if, ↓Pt.gt_chain, ↓Pt.gt_nil, ↓Pt.gt_cons, ↓Pt.gt_consA, ↓Pt.gt_consS, ↓Pt.gt_tup, ↓Pt.gt_lst, ↓Pt.gt_fz, ↓Pt.gt_fzD, ↓Pt.gt_call, ↓Pt.gt_callL, ↓Pt.gt_callK, ↓Pt.gt_app, ↓Pt.gt_sl, ↓Pt.gt_none, ↓Pt.gt_some, ↓Pt.ls_l, ↓Pt.gt_rev, ↓Pt.gt_sq, ↓Pt.ox_some, ↓Pt.seq_l, ↓Pt.seq_t, ↓Pt.tst_b, ↓Pt.intD_i, ↓Pt.z1_i, ↓Pt.z2_i, ↓Pt.gt_rg1, ↓Pt.gt_rg1J, ↓Pt.gt_rg2, ↓Pt.gt_srcI, ↓Pt.gt_srcLen, ↓Pt.gt_lc, ↓Pt.gt_yes, ↓Pt.gl_nil, ↓Pt.gl_cons, ↓Pt.gl_ok, ↓Pt.vh_h, ↓Pt.vt_t, ↓Pt.gt_ht, ↓Pt.gt_tupL, ↓Pt.lst_l, ↓Pt.gt_newD, ↓Pt.tag_t, ↓Pt.gt_get2T, ↓Pt.key_3, ↓Pt.zp_l, ↓Pt.zp_t, ↓Pt.gt_zip, ↓Pt.pair_0, ↓Pt.pair_s, ↓Pt.gs_seq, ↓Pt.sq_nx, ↓Pt.sq_rt, ↓Pt.sq_bk, ↓Pt.sq_ct, ↓Pt.sq_ex, ↓Pt.gs_skip, ↓Pt.gs_brk, ↓Pt.gs_cnt, ↓Pt.gs_nx, ↓Pt.gs_put, ↓Pt.gs_putZ, ↓Pt.gt_map, ↓Pt.gs_ret, ↓Pt.gs_drop, ↓Pt.gs_if, ↓Pt.gs_bind, ↓Pt.gs_par, ↓Pt.gs_par3, ↓Pt.gs_for, ↓Pt.fg_nx, ↓Pt.fg_ct, ↓Pt.fg_bk, ↓Pt.fg_rt, ↓Pt.gs_frz, ↓Pt.fe_s, ↓Pt.fe_l, ↓Pt.fe_k, ↓Pt.fe_t, ↓Pt.fe_d, ↓Pt.gs_apd, ↓Pt.gs_putT, ↓Pt.gs_srcPut, ↓Pt.ox_add, ↓Pt.ox_addL, ↓Pt.ox_addT, ↓Pt.ox_sub, ↓Pt.ox_mul, ↓Pt.ox_div, ↓Pt.ox_mod, ↓Pt.ox_neg, ↓Pt.ox_lt, ↓Pt.ox_le, ↓Pt.ox_gt, ↓Pt.ox_ge, ↓Pt.ox_eq, ↓Pt.ox_ne, ↓Pt.ox_eqS, ↓Pt.ox_neS, ↓Pt.ox_eqL, ↓Pt.ox_neL, ↓Pt.ox_eqT, ↓Pt.ox_neT, ↓Pt.ox_ix0, ↓Pt.ox_ix1, ↓Pt.ox_ix2, ↓Pt.ox_ix3, ↓Pt.ox_ixT0, ↓Pt.ox_ixT1, ↓Pt.ox_ixT2, ↓Pt.ox_ixT3, ↓Pt.ox_pow20, ↓Pt.ox_lenL, ↓Pt.ox_lenT, ↓Pt.ox_int, ↓Pt.ox_abs, ↓Pt.ox_max, ↓Pt.ox_min, ↓Pt.ox_tup, ↓Pt.ox_tupT, ↓Pt.ox_list, ↓Pt.ox_listT, ↓Pt.ox_repr, ↓gt_eq fk, sz2, true_and]
      · have h0 : ¬ z.tr * z.tr - 4 = 0 := fun z1 => of_decide_eq_false h0 (abs_two.mpr z1)
        rw [if_neg h0]
        simp -implicitDefEqProofs (disch := (first | assumption | decide)) only [↓Pt.gt_ok, ↓Pt.gt_bind, ↓Pt.gt_lift, ↓Pt.at_0, ↓Pt.at_s, ↓Pt.nt_0, ↓Pt.nt_s, ↓Pt.vd_d, ↓Pt.vd_h, ↓Pt.vo_l, ↓Pt.vo_k, ↓Pt.vo_t, ↓Pt.vl_l, ↓Pt.vs_s, ↓Pt.pu_0, ↓Pt.pu_s, ↓Pt.wi_0, ↓Pt.wi_s, ↓Pt.bp_n, ↓Pt.bp_t, ↓Pt.bp_l, ↓Pt.bps_0, ↓Pt.bps_s, ↓Pt.bo_t, ↓Pt.bo_f, ↓Pt.bo_not, ↓Pt.gt_var, ↓Pt.gt_own, ↓Pt.gt_c, ↓Pt.gt_bin, ↓Pt.gt_un, ↓Pt.gt_tst, ↓Pt.gt_andT, ↓Pt.gt_orT, ↓Pt.gt_notT, ↓Pt.gt_and, ↓Pt.gt_or, ↓Pt.gt_not, ↓Pt.gt_if, ↓Pt.gt_chain, ↓Pt.gt_nil, ↓Pt.gt_cons, ↓Pt.gt_consA, ↓Pt.gt_consS, ↓Pt.gt_tup, ↓Pt.gt_lst, ↓Pt.gt_fz, ↓Pt.gt_fzD, ↓Pt.gt_call, ↓Pt.gt_callL, ↓Pt.gt_callK, ↓Pt.gt_app, ↓Pt.gt_sl, ↓Pt.gt_none, ↓Pt.gt_some, ↓Pt.ls_l, ↓Pt.gt_rev, ↓Pt.gt_sq, ↓Pt.ox_some, ↓Pt.seq_l, ↓Pt.seq_t, ↓Pt.tst_b, ↓Pt.intD_i, ↓Pt.z1_i, ↓Pt.z2_i, ↓Pt.gt_rg1, ↓Pt.gt_rg1J, ↓Pt.gt_rg2, ↓Pt.gt_srcI, ↓Pt.gt_srcLen, ↓Pt.gt_lc, ↓Pt.gt_yes, ↓Pt.gl_nil, ↓Pt.gl_cons, ↓Pt.gl_ok, ↓Pt.vh_h, ↓Pt.vt_t, ↓Pt.gt_ht, ↓Pt.gt_tupL, ↓Pt.lst_l, ↓Pt.gt_newD, ↓Pt.tag_t, ↓Pt.gt_get2T, ↓Pt.key_3, ↓Pt.zp_l, ↓Pt.zp_t, ↓Pt.gt_zip, ↓Pt.pair_0, ↓Pt.pair_s, ↓Pt.gs_seq, ↓Pt.sq_nx, ↓Pt.sq_rt, ↓Pt.sq_bk, ↓Pt.sq_ct, ↓Pt.sq_ex, ↓Pt.gs_skip, ↓Pt.gs_brk, ↓Pt.gs_cnt, ↓Pt.gs_nx, ↓Pt.gs_put, ↓Pt.gs_putZ, ↓Pt.gt_map, ↓Pt.gs_ret, ↓Pt.gs_drop, ↓Pt.gs_if, ↓Pt.gs_bind, ↓Pt.gs_par, ↓Pt.gs_par3, ↓Pt.gs_for, ↓Pt.fg_nx, ↓Pt.fg_ct, ↓Pt.fg_bk, ↓Pt.fg_rt, ↓Pt.gs_frz, ↓Pt.fe_s, ↓Pt.fe_l, ↓Pt.fe_k, ↓Pt.fe_t, ↓Pt.fe_d, ↓Pt.gs_apd, ↓Pt.gs_putT, ↓Pt.gs_srcPut, ↓Pt.ox_add, ↓Pt.ox_addL, ↓Pt.ox_addT, ↓Pt.ox_sub, ↓Pt.ox_mul, ↓Pt.ox_div, ↓Pt.ox_mod, ↓Pt.ox_neg, ↓Pt.ox_lt, ↓Pt.ox_le, ↓Pt.ox_gt, ↓Pt.ox_ge, ↓Pt.ox_eq, ↓Pt.ox_ne, ↓Pt.ox_eqS, ↓Pt.ox_neS, ↓Pt.ox_eqL, ↓Pt.ox_neL, ↓Pt.ox_eqT, ↓Pt.ox_neT, ↓Pt.ox_ix0, ↓Pt.ox_ix1, ↓Pt.ox_ix2, ↓Pt.ox_ix3, ↓Pt.ox_ixT0, ↓Pt.ox_ixT1, ↓Pt.ox_ixT2, ↓Pt.ox_ixT3, ↓Pt.ox_pow20, ↓Pt.ox_lenL, ↓Pt.ox_lenT, ↓Pt.ox_int, ↓Pt.ox_abs, ↓Pt.ox_max, ↓Pt.ox_min, ↓Pt.ox_tup, ↓Pt.ox_tupT, ↓Pt.ox_list, ↓Pt.ox_listT, ↓Pt.ox_repr, sz2, true_and]
  · rw [decide_eq_false ck]
    have ld : lineD m n = .tuple [.str "none"] := by unfold lineD; rw [if_neg ck]
    rw [ld]
    simp -implicitDefEqProofs (disch := (first | omega | assumption | exact Pt.mul_r (by omega) (by omega) | exact Pt.mul_l (by omega) (by omega) | exact ml _ _ | decide)) only [↓Pt.gt_ok, ↓Pt.gt_bind, ↓Pt.gt_lift, ↓Pt.at_0, ↓Pt.at_s, ↓Pt.nt_0, ↓Pt.nt_s, ↓Pt.vd_d, ↓Pt.vd_h, ↓Pt.vo_l, ↓Pt.vo_k, ↓Pt.vo_t, ↓Pt.vl_l, ↓Pt.vs_s, ↓Pt.pu_0, ↓Pt.pu_s, ↓Pt.wi_0, ↓Pt.wi_s, ↓Pt.bp_n, ↓Pt.bp_t, ↓Pt.bp_l, ↓Pt.bps_0, ↓Pt.bps_s, ↓Pt.bo_t, ↓Pt.bo_f, ↓Pt.bo_not, ↓Pt.gt_var, ↓Pt.gt_own, ↓Pt.gt_c, ↓Pt.gt_bin, ↓Pt.gt_un, ↓Pt.gt_tst, ↓Pt.gt_andT, ↓Pt.gt_orT, ↓Pt.gt_notT, ↓Pt.gt_and, ↓Pt.gt_or, ↓Pt.gt_not, ↓Pt.gt_if, ↓Pt.gt_chain, ↓Pt.gt_nil, ↓Pt.gt_cons, ↓Pt.gt_consA, ↓Pt.gt_consS, ↓Pt.gt_tup, ↓Pt.gt_lst, ↓Pt.gt_fz, ↓Pt.gt_fzD, ↓Pt.gt_call, ↓Pt.gt_callL, ↓Pt.gt_callK, ↓Pt.gt_app, ↓Pt.gt_sl, ↓Pt.gt_none, ↓Pt.gt_some, ↓Pt.ls_l, ↓Pt.gt_rev, ↓Pt.gt_sq, ↓Pt.ox_some, ↓Pt.seq_l, ↓Pt.seq_t, ↓Pt.tst_b, ↓Pt.intD_i, ↓Pt.z1_i, ↓Pt.z2_i, ↓Pt.gt_rg1, ↓Pt.gt_rg1J, ↓Pt.gt_rg2, ↓Pt.gt_srcI, ↓Pt.gt_srcLen, ↓Pt.gt_lc, ↓Pt.gt_yes, ↓Pt.gl_nil, ↓Pt.gl_cons, ↓Pt.gl_ok, ↓Pt.vh_h, ↓Pt.vt_t, ↓Pt.gt_ht, ↓Pt.gt_tupL, ↓Pt.lst_l, ↓Pt.gt_newD, ↓Pt.tag_t, ↓Pt.gt_get2T, ↓Pt.key_3, ↓Pt.zp_l, ↓Pt.zp_t, ↓Pt.gt_zip, ↓Pt.pair_0, ↓Pt.pair_s, ↓Pt.gs_seq, ↓Pt.sq_nx, ↓Pt.sq_rt, ↓Pt.sq_bk, ↓Pt.sq_ct, ↓Pt.sq_ex, ↓Pt.gs_skip, ↓Pt.gs_brk, ↓Pt.gs_cnt, ↓Pt.gs_nx, ↓Pt.gs_put, ↓Pt.gs_putZ, ↓Pt.gt_map, ↓Pt.gs_ret, ↓Pt.gs_drop, ↓Pt.gs_if, ↓Pt.gs_bind, ↓Pt.gs_par, ↓Pt.gs_par3, ↓Pt.gs_for, ↓Pt.fg_nx, ↓Pt.fg_ct, ↓Pt.fg_bk, ↓Pt.fg_rt, ↓Pt.gs_frz, ↓Pt.fe_s, ↓Pt.fe_l, ↓Pt.fe_k, ↓Pt.fe_t, ↓Pt.fe_d, ↓Pt.gs_apd, ↓Pt.gs_putT, ↓Pt.gs_srcPut, ↓Pt.ox_add, ↓Pt.ox_addL, ↓Pt.ox_addT, ↓Pt.ox_sub, ↓Pt.ox_mul, ↓Pt.ox_div, ↓Pt.ox_mod, ↓Pt.ox_neg, ↓Pt.ox_lt, ↓Pt.ox_le, ↓Pt.ox_gt, ↓Pt.ox_ge, ↓Pt.ox_eq, ↓Pt.ox_ne, ↓Pt.ox_eqS, ↓Pt.ox_neS, ↓Pt.ox_eqL, ↓Pt.ox_neL, ↓Pt.ox_eqT, ↓Pt.ox_neT, ↓Pt.ox_ix0, ↓Pt.ox_ix1, ↓Pt.ox_ix2, ↓Pt.ox_ix3, ↓Pt.ox_ixT0, ↓Pt.ox_ixT1, ↓Pt.ox_ixT2, ↓Pt.ox_ixT3, ↓Pt.ox_pow20, ↓Pt.ox_lenL, ↓Pt.ox_lenT, ↓Pt.ox_int, ↓Pt.ox_abs, ↓Pt.ox_max, ↓Pt.ox_min, ↓Pt.ox_tup, ↓Pt.ox_tupT, ↓Pt.ox_list, ↓Pt.ox_listT, ↓Pt.ox_repr, show szB [PyData.str "none"].length = true from rfl, true_and]

/-! ### what is drawn -/
theorem F_drawn2 (s : Src) : Gt (F_law_drawn_table [.src, .d (.int ((2 : Nat) : Int))] s) (fun d _ => ∃ m : M4, d = m.D ∧ m.det = 1 ∧ m.le (3 ^ 2)) F0 := by
  refine run_gt (e0 := [.src, .d (.int ((2 : Nat) : Int)), .un, .un, .un]) ?_ rfl
  have rk : rgB ((2 : Nat) : Int) = true := by decide
  have z3 : ∀ a b c : Pt.D, szB [a, b, c].length = true := fun _ _ _ => rfl
  unfold m_law_drawn_table
  rw [Pt.gs_seq]
  simp -implicitDefEqProofs (disch := (first | omega | assumption | exact Pt.mul_r (by omega) (by omega) | exact Pt.mul_l (by omega) (by omega) | exact ml _ _ | decide)) only [↓Pt.gt_ok, ↓Pt.gt_bind, ↓Pt.gt_lift, ↓Pt.at_0, ↓Pt.at_s, ↓Pt.nt_0, ↓Pt.nt_s, ↓Pt.vd_d, ↓Pt.vd_h, ↓Pt.vo_l, ↓Pt.vo_k, ↓Pt.vo_t, ↓Pt.vl_l, ↓Pt.vs_s, ↓Pt.pu_0, ↓Pt.pu_s, ↓Pt.wi_0, ↓Pt.wi_s, ↓Pt.bp_n, ↓Pt.bp_t, ↓Pt.bp_l, ↓Pt.bps_0, ↓Pt.bps_s, ↓Pt.bo_t, ↓Pt.bo_f, ↓Pt.bo_not, ↓Pt.gt_var, ↓Pt.gt_own, ↓Pt.gt_c, ↓Pt.gt_bin, ↓Pt.gt_un, ↓Pt.gt_tst, ↓Pt.gt_andT, ↓Pt.gt_orT, ↓Pt.gt_notT, ↓Pt.gt_and, ↓Pt.gt_or, ↓Pt.gt_not, ↓Pt.gt_if, ↓Pt.gt_chain, ↓Pt.gt_nil, ↓Pt.gt_cons, ↓Pt.gt_consA, ↓Pt.gt_consS, ↓Pt.gt_tup, ↓Pt.gt_lst, ↓Pt.gt_fz, ↓Pt.gt_fzD, ↓Pt.gt_call, ↓Pt.gt_callL, ↓Pt.gt_callK, ↓Pt.gt_app, ↓Pt.gt_sl, ↓Pt.gt_none, ↓Pt.gt_some, ↓Pt.ls_l, ↓Pt.gt_rev, ↓Pt.gt_sq, ↓Pt.ox_some, ↓Pt.seq_l, ↓Pt.seq_t, ↓Pt.tst_b, ↓Pt.intD_i, ↓Pt.z1_i, ↓Pt.z2_i, ↓Pt.gt_rg1, ↓Pt.gt_rg1J, ↓Pt.gt_rg2, ↓Pt.gt_srcI, ↓Pt.gt_srcLen, ↓Pt.gt_lc, ↓Pt.gt_yes, ↓Pt.gl_nil, ↓Pt.gl_cons, ↓Pt.gl_ok, ↓Pt.vh_h, ↓Pt.vt_t, ↓Pt.gt_ht, ↓Pt.gt_tupL, ↓Pt.lst_l, ↓Pt.gt_newD, ↓Pt.tag_t, ↓Pt.gt_get2T, ↓Pt.key_3, ↓Pt.zp_l, ↓Pt.zp_t, ↓Pt.gt_zip, ↓Pt.pair_0, ↓Pt.pair_s, ↓Pt.gs_seq, ↓Pt.sq_rt, ↓Pt.sq_bk, ↓Pt.sq_ct, ↓Pt.sq_ex, ↓Pt.gs_skip, ↓Pt.gs_brk, ↓Pt.gs_cnt, ↓Pt.gs_nx, ↓Pt.gs_put, ↓Pt.gs_putZ, ↓Pt.gt_map, ↓Pt.gs_ret, ↓Pt.gs_drop, ↓Pt.gs_if, ↓Pt.gs_bind, ↓Pt.gs_par, ↓Pt.gs_par3, ↓Pt.gs_for, ↓Pt.fg_nx, ↓Pt.fg_ct, ↓Pt.fg_bk, ↓Pt.fg_rt, ↓Pt.gs_frz, ↓Pt.fe_s, ↓Pt.fe_l, ↓Pt.fe_k, ↓Pt.fe_t, ↓Pt.fe_d, ↓Pt.gs_apd, ↓Pt.gs_putT, ↓Pt.gs_srcPut, ↓Pt.ox_add, ↓Pt.ox_addL, ↓Pt.ox_addT, ↓Pt.ox_sub, ↓Pt.ox_mul, ↓Pt.ox_div, ↓Pt.ox_mod, ↓Pt.ox_neg, ↓Pt.ox_lt, ↓Pt.ox_le, ↓Pt.ox_gt, ↓Pt.ox_ge, ↓Pt.ox_eq, ↓Pt.ox_ne, ↓Pt.ox_eqS, ↓Pt.ox_neS, ↓Pt.ox_eqL, ↓Pt.ox_neL, ↓Pt.ox_eqT, ↓Pt.ox_neT, ↓Pt.ox_ix0, ↓Pt.ox_ix1, ↓Pt.ox_ix2, ↓Pt.ox_ix3, ↓Pt.ox_ixT0, ↓Pt.ox_ixT1, ↓Pt.ox_ixT2, ↓Pt.ox_ixT3, ↓Pt.ox_pow20, ↓Pt.ox_lenL, ↓Pt.ox_lenT, ↓Pt.ox_int, ↓Pt.ox_abs, ↓Pt.ox_max, ↓Pt.ox_min, ↓Pt.ox_tup, ↓Pt.ox_tupT, ↓Pt.ox_list, ↓Pt.ox_listT, ↓Pt.ox_repr, sz4, true_and]
  rw [Pt.sq_nx, Pt.gs_seq]
  simp -implicitDefEqProofs (disch := (first | omega | assumption | exact Pt.mul_r (by omega) (by omega) | exact Pt.mul_l (by omega) (by omega) | exact ml _ _ | decide)) only [↓Pt.gt_ok, ↓Pt.gt_bind, ↓Pt.gt_lift, ↓Pt.at_0, ↓Pt.at_s, ↓Pt.nt_0, ↓Pt.nt_s, ↓Pt.vd_d, ↓Pt.vd_h, ↓Pt.vo_l, ↓Pt.vo_k, ↓Pt.vo_t, ↓Pt.vl_l, ↓Pt.vs_s, ↓Pt.pu_0, ↓Pt.pu_s, ↓Pt.wi_0, ↓Pt.wi_s, ↓Pt.bp_n, ↓Pt.bp_t, ↓Pt.bp_l, ↓Pt.bps_0, ↓Pt.bps_s, ↓Pt.bo_t, ↓Pt.bo_f, ↓Pt.bo_not, ↓Pt.gt_var, ↓Pt.gt_own, ↓Pt.gt_c, ↓Pt.gt_bin, ↓Pt.gt_un, ↓Pt.gt_tst, ↓Pt.gt_andT, ↓Pt.gt_orT, ↓Pt.gt_notT, ↓Pt.gt_and, ↓Pt.gt_or, ↓Pt.gt_not, ↓Pt.gt_if, ↓Pt.gt_chain, ↓Pt.gt_nil, ↓Pt.gt_cons, ↓Pt.gt_consA, ↓Pt.gt_consS, ↓Pt.gt_tup, ↓Pt.gt_lst, ↓Pt.gt_fz, ↓Pt.gt_fzD, ↓Pt.gt_call, ↓Pt.gt_callL, ↓Pt.gt_callK, ↓Pt.gt_app, ↓Pt.gt_sl, ↓Pt.gt_none, ↓Pt.gt_some, ↓Pt.ls_l, ↓Pt.gt_rev, ↓Pt.gt_sq, ↓Pt.ox_some, ↓Pt.seq_l, ↓Pt.seq_t, ↓Pt.tst_b, ↓Pt.intD_i, ↓Pt.z1_i, ↓Pt.z2_i, ↓Pt.gt_rg1, ↓Pt.gt_rg1J, ↓Pt.gt_rg2, ↓Pt.gt_srcI, ↓Pt.gt_srcLen, ↓Pt.gt_lc, ↓Pt.gt_yes, ↓Pt.gl_nil, ↓Pt.gl_cons, ↓Pt.gl_ok, ↓Pt.vh_h, ↓Pt.vt_t, ↓Pt.gt_ht, ↓Pt.gt_tupL, ↓Pt.lst_l, ↓Pt.gt_newD, ↓Pt.tag_t, ↓Pt.gt_get2T, ↓Pt.key_3, ↓Pt.zp_l, ↓Pt.zp_t, ↓Pt.gt_zip, ↓Pt.pair_0, ↓Pt.pair_s, ↓Pt.gs_seq, ↓Pt.sq_rt, ↓Pt.sq_bk, ↓Pt.sq_ct, ↓Pt.sq_ex, ↓Pt.gs_skip, ↓Pt.gs_brk, ↓Pt.gs_cnt, ↓Pt.gs_nx, ↓Pt.gs_put, ↓Pt.gs_putZ, ↓Pt.gt_map, ↓Pt.gs_ret, ↓Pt.gs_drop, ↓Pt.gs_if, ↓Pt.gs_bind, ↓Pt.gs_par, ↓Pt.gs_par3, ↓Pt.gs_for, ↓Pt.fg_nx, ↓Pt.fg_ct, ↓Pt.fg_bk, ↓Pt.fg_rt, ↓Pt.gs_frz, ↓Pt.fe_s, ↓Pt.fe_l, ↓Pt.fe_k, ↓Pt.fe_t, ↓Pt.fe_d, ↓Pt.gs_apd, ↓Pt.gs_putT, ↓Pt.gs_srcPut, ↓Pt.ox_add, ↓Pt.ox_addL, ↓Pt.ox_addT, ↓Pt.ox_sub, ↓Pt.ox_mul, ↓Pt.ox_div, ↓Pt.ox_mod, ↓Pt.ox_neg, ↓Pt.ox_lt, ↓Pt.ox_le, ↓Pt.ox_gt, ↓Pt.ox_ge, ↓Pt.ox_eq, ↓Pt.ox_ne, ↓Pt.ox_eqS, ↓Pt.ox_neS, ↓Pt.ox_eqL, ↓Pt.ox_neL, ↓Pt.ox_eqT, ↓Pt.ox_neT, ↓Pt.ox_ix0, ↓Pt.ox_ix1, ↓Pt.ox_ix2, ↓Pt.ox_ix3, ↓Pt.ox_ixT0, ↓Pt.ox_ixT1, ↓Pt.ox_ixT2, ↓Pt.ox_ixT3, ↓Pt.ox_pow20, ↓Pt.ox_lenL, ↓Pt.ox_lenT, ↓Pt.ox_int, ↓Pt.ox_abs, ↓Pt.ox_max, ↓Pt.ox_min, ↓Pt.ox_tup, ↓Pt.ox_tupT, ↓Pt.ox_list, ↓Pt.ox_listT, ↓Pt.ox_repr, rk, true_and, Int.toNat_natCast]
  refine Pt.gs_goI (fun i e s => ∃ (m : M4) (x y : Sl), e = [.src, .d (.int ((2 : Nat) : Int)), .d m.D, x, y] ∧ m.det = 1 ∧ m.le (3 ^ i)) _ 0 _ _ ⟨M4.one, _, _, rfl, rfl, by refine ⟨?_, ?_, ?_, ?_⟩ <;> decide⟩ (fun i x e s1 hx hI => ?_) fun e s1 hI => ?_
  · obtain ⟨m, x1, y1, rfl, hd, hl⟩ := hI
    rw [Nat.zero_add] at hl ⊢
    have i5 : i < 5 := by have := (rng_at hx).1; omega
    have big : ∀ n : M4, n.le 2 → sm n := fun n h => M4.le_mono h (by decide)
    simp -implicitDefEqProofs (disch := (first | omega | assumption | rfl | decide | simp)) only [↓Pt.gt_ok, ↓Pt.gt_bind, ↓Pt.gt_lift, ↓Pt.at_0, ↓Pt.at_s, ↓Pt.nt_0, ↓Pt.nt_s, ↓Pt.vd_d, ↓Pt.vd_h, ↓Pt.vo_l, ↓Pt.vo_k, ↓Pt.vo_t, ↓Pt.vl_l, ↓Pt.vs_s, ↓Pt.pu_0, ↓Pt.pu_s, ↓Pt.wi_0, ↓Pt.wi_s, ↓Pt.bp_n, ↓Pt.bp_t, ↓Pt.bp_l, ↓Pt.bps_0, ↓Pt.bps_s, ↓Pt.bo_t, ↓Pt.bo_f, ↓Pt.bo_not, ↓Pt.gt_var, ↓Pt.gt_own, ↓Pt.gt_c, ↓Pt.gt_bin, ↓Pt.gt_un, ↓Pt.gt_tst, ↓Pt.gt_andT, ↓Pt.gt_orT, ↓Pt.gt_notT, ↓Pt.gt_and, ↓Pt.gt_or, ↓Pt.gt_not, ↓Pt.gt_if, ↓Pt.gt_chain, ↓Pt.gt_nil, ↓Pt.gt_cons, ↓Pt.gt_consA, ↓Pt.gt_consS, ↓Pt.gt_tup, ↓Pt.gt_lst, ↓Pt.gt_fz, ↓Pt.gt_fzD, ↓Pt.gt_call, ↓Pt.gt_callL, ↓Pt.gt_callK, ↓Pt.gt_app, ↓Pt.gt_sl, ↓Pt.gt_none, ↓Pt.gt_some, ↓Pt.ls_l, ↓Pt.gt_rev, ↓Pt.gt_sq, ↓Pt.ox_some, ↓Pt.seq_l, ↓Pt.seq_t, ↓Pt.tst_b, ↓Pt.intD_i, ↓Pt.z1_i, ↓Pt.z2_i, ↓Pt.gt_rg1, ↓Pt.gt_rg1J, ↓Pt.gt_rg2, ↓Pt.gt_srcI, ↓Pt.gt_srcLen, ↓Pt.gt_lc, ↓Pt.gt_yes, ↓Pt.gl_nil, ↓Pt.gl_cons, ↓Pt.gl_ok, ↓Pt.vh_h, ↓Pt.vt_t, ↓Pt.gt_ht, ↓Pt.gt_tupL, ↓Pt.lst_l, ↓Pt.gt_newD, ↓Pt.tag_t, ↓Pt.gt_get2T, ↓Pt.key_3, ↓Pt.zp_l, ↓Pt.zp_t, ↓Pt.gt_zip, ↓Pt.pair_0, ↓Pt.pair_s, ↓Pt.gs_seq, ↓Pt.sq_rt, ↓Pt.sq_bk, ↓Pt.sq_ct, ↓Pt.sq_ex, ↓Pt.gs_skip, ↓Pt.gs_brk, ↓Pt.gs_cnt, ↓Pt.gs_nx, ↓Pt.gs_put, ↓Pt.gs_putZ, ↓Pt.gt_map, ↓Pt.gs_ret, ↓Pt.gs_drop, ↓Pt.gs_if, ↓Pt.gs_bind, ↓Pt.gs_par, ↓Pt.gs_par3, ↓Pt.gs_for, ↓Pt.fg_nx, ↓Pt.fg_ct, ↓Pt.fg_bk, ↓Pt.fg_rt, ↓Pt.gs_frz, ↓Pt.fe_s, ↓Pt.fe_l, ↓Pt.fe_k, ↓Pt.fe_t, ↓Pt.fe_d, ↓Pt.gs_apd, ↓Pt.gs_putT, ↓Pt.gs_srcPut, ↓Pt.ox_add, ↓Pt.ox_addL, ↓Pt.ox_addT, ↓Pt.ox_sub, ↓Pt.ox_mul, ↓Pt.ox_div, ↓Pt.ox_mod, ↓Pt.ox_neg, ↓Pt.ox_lt, ↓Pt.ox_le, ↓Pt.ox_gt, ↓Pt.ox_ge, ↓Pt.ox_eq, ↓Pt.ox_ne, ↓Pt.ox_eqS, ↓Pt.ox_neS, ↓Pt.ox_eqL, ↓Pt.ox_neL, ↓Pt.ox_eqT, ↓Pt.ox_neT, ↓Pt.ox_ix0, ↓Pt.ox_ix1, ↓Pt.ox_ix2, ↓Pt.ox_ix3, ↓Pt.ox_ixT0, ↓Pt.ox_ixT1, ↓Pt.ox_ixT2, ↓Pt.ox_ixT3, ↓Pt.ox_pow20, ↓Pt.ox_lenL, ↓Pt.ox_lenT, ↓Pt.ox_int, ↓Pt.ox_abs, ↓Pt.ox_max, ↓Pt.ox_min, ↓Pt.ox_tup, ↓Pt.ox_tupT, ↓Pt.ox_list, ↓Pt.ox_listT, ↓Pt.ox_repr, z3, true_and, e_of, ↓gt_of]
    have mb := of_mem [PyData.int 1, .int (-1), .int 2] s1 rfl
    generalize ofV [PyData.int 1, .int (-1), .int 2] s1 = v at mb ⊢
    generalize ofS [PyData.int 1, .int (-1), .int 2] s1 = s2
    obtain ⟨b, rfl, hb⟩ : ∃ b : Int, v = .int b ∧ b.natAbs ≤ 2 := by
      simp only [List.mem_cons, List.not_mem_nil, or_false] at mb
      rcases mb with rfl | rfl | rfl
      · exact ⟨_, rfl, by decide⟩
      · exact ⟨_, rfl, by decide⟩
      · exact ⟨_, rfl, by decide⟩
    rw [Pt.sq_nx]
    have l1 := big ⟨1, b, 0, 1⟩ ⟨by simp, by simpa using hb, by simp, by simp⟩
    have l2 := big ⟨1, 0, b, 1⟩ ⟨by simp, by simp, by simpa using hb, by simp⟩
    have f1 := fun s => F_ltimes m ⟨1, b, 0, 1⟩ s l1
    have f2 := fun s => F_ltimes m ⟨1, 0, b, 1⟩ s l2
    unfold M4.D at f1 f2
    simp -implicitDefEqProofs (disch := (first | omega | assumption | rfl | decide | simp)) only [↓Pt.gt_ok, ↓Pt.gt_bind, ↓Pt.gt_lift, ↓Pt.at_0, ↓Pt.at_s, ↓Pt.nt_0, ↓Pt.nt_s, ↓Pt.vd_d, ↓Pt.vd_h, ↓Pt.vo_l, ↓Pt.vo_k, ↓Pt.vo_t, ↓Pt.vl_l, ↓Pt.vs_s, ↓Pt.pu_0, ↓Pt.pu_s, ↓Pt.wi_0, ↓Pt.wi_s, ↓Pt.bp_n, ↓Pt.bp_t, ↓Pt.bp_l, ↓Pt.bps_0, ↓Pt.bps_s, ↓Pt.bo_t, ↓Pt.bo_f, ↓Pt.bo_not, ↓Pt.gt_var, ↓Pt.gt_own, ↓Pt.gt_c, ↓Pt.gt_bin, ↓Pt.gt_un, ↓Pt.gt_tst, ↓Pt.gt_andT, ↓Pt.gt_orT, ↓Pt.gt_notT, ↓Pt.gt_and, ↓Pt.gt_or, ↓Pt.gt_not, ↓Pt.gt_if, ↓Pt.gt_chain, ↓Pt.gt_nil, ↓Pt.gt_cons, ↓Pt.gt_consA, ↓Pt.gt_consS, ↓Pt.gt_tup, ↓Pt.gt_lst, ↓Pt.gt_fz, ↓Pt.gt_fzD, ↓Pt.gt_call, ↓Pt.gt_callL, ↓Pt.gt_callK, ↓Pt.gt_app, ↓Pt.gt_sl, ↓Pt.gt_none, ↓Pt.gt_some, ↓Pt.ls_l, ↓Pt.gt_rev, ↓Pt.gt_sq, ↓Pt.ox_some, ↓Pt.seq_l, ↓Pt.seq_t, ↓Pt.tst_b, ↓Pt.intD_i, ↓Pt.z1_i, ↓Pt.z2_i, ↓Pt.gt_rg1, ↓Pt.gt_rg1J, ↓Pt.gt_rg2, ↓Pt.gt_srcI, ↓Pt.gt_srcLen, ↓Pt.gt_lc, ↓Pt.gt_yes, ↓Pt.gl_nil, ↓Pt.gl_cons, ↓Pt.gl_ok, ↓Pt.vh_h, ↓Pt.vt_t, ↓Pt.gt_ht, ↓Pt.gt_tupL, ↓Pt.lst_l, ↓Pt.gt_newD, ↓Pt.tag_t, ↓Pt.gt_get2T, ↓Pt.key_3, ↓Pt.zp_l, ↓Pt.zp_t, ↓Pt.gt_zip, ↓Pt.pair_0, ↓Pt.pair_s, ↓Pt.gs_seq, ↓Pt.sq_rt, ↓Pt.sq_bk, ↓Pt.sq_ct, ↓Pt.sq_ex, ↓Pt.gs_skip, ↓Pt.gs_brk, ↓Pt.gs_cnt, ↓Pt.gs_nx, ↓Pt.gs_put, ↓Pt.gs_putZ, ↓Pt.gt_map, ↓Pt.gs_ret, ↓Pt.gs_drop, ↓Pt.gs_if, ↓Pt.gs_bind, ↓Pt.gs_par, ↓Pt.gs_par3, ↓Pt.gs_for, ↓Pt.fg_nx, ↓Pt.fg_ct, ↓Pt.fg_bk, ↓Pt.fg_rt, ↓Pt.gs_frz, ↓Pt.fe_s, ↓Pt.fe_l, ↓Pt.fe_k, ↓Pt.fe_t, ↓Pt.fe_d, ↓Pt.gs_apd, ↓Pt.gs_putT, ↓Pt.gs_srcPut, ↓Pt.ox_add, ↓Pt.ox_addL, ↓Pt.ox_addT, ↓Pt.ox_sub, ↓Pt.ox_mul, ↓Pt.ox_div, ↓Pt.ox_mod, ↓Pt.ox_neg, ↓Pt.ox_lt, ↓Pt.ox_le, ↓Pt.ox_gt, ↓Pt.ox_ge, ↓Pt.ox_eq, ↓Pt.ox_ne, ↓Pt.ox_eqS, ↓Pt.ox_neS, ↓Pt.ox_eqL, ↓Pt.ox_neL, ↓Pt.ox_eqT, ↓Pt.ox_neT, ↓Pt.ox_ix0, ↓Pt.ox_ix1, ↓Pt.ox_ix2, ↓Pt.ox_ix3, ↓Pt.ox_ixT0, ↓Pt.ox_ixT1, ↓Pt.ox_ixT2, ↓Pt.ox_ixT3, ↓Pt.ox_pow20, ↓Pt.ox_lenL, ↓Pt.ox_lenT, ↓Pt.ox_int, ↓Pt.ox_abs, ↓Pt.ox_max, ↓Pt.ox_min, ↓Pt.ox_tup, ↓Pt.ox_tupT, ↓Pt.ox_list, ↓Pt.ox_listT, ↓Pt.ox_repr, sz4, true_and, e_pick, ↓gt_pick]
    obtain ⟨h1, h2, h3, h4⟩ := hl
    have ab : ∀ x y : Int, x.natAbs ≤ 3 ^ i → y.natAbs ≤ 3 ^ i → (x * b + y).natAbs ≤ 3 ^ (i + 1) := fun x y hx hy => by
      have := mul_le' hx hb
      have : 3 ^ (i + 1) = 3 * 3 ^ i := by rw [Nat.pow_succ, Nat.mul_comm]
      omega
    have up : ∀ x : Int, x.natAbs ≤ 3 ^ i → x.natAbs ≤ 3 ^ (i + 1) := fun x hx => by
      have : 3 ^ (i + 1) = 3 * 3 ^ i := by rw [Nat.pow_succ, Nat.mul_comm]
      omega
    refine bo_mk (fun _ => ?_) fun _ => ?_
    · unfold M4.D
      rw [Pt.gt_eq (f1 _)]
      refine ⟨m.mul ⟨1, b, 0, 1⟩, _, _, rfl, by rw [M4.det_mul, hd]; simp [M4.det], ?_⟩
      simp only [M4.mul, M4.le]
      refine ⟨?_, ?_, ?_, ?_⟩
      · simpa using up _ h1
      · simpa using ab _ _ h1 h2
      · simpa using up _ h3
      · simpa using ab _ _ h3 h4
    · unfold M4.D
      rw [Pt.gt_eq (f2 _)]
      refine ⟨m.mul ⟨1, 0, b, 1⟩, _, _, rfl, by rw [M4.det_mul, hd]; simp [M4.det], ?_⟩
      simp only [M4.mul, M4.le]
      refine ⟨?_, ?_, ?_, ?_⟩
      · have := ab _ _ h2 h1; rw [Int.add_comm] at this; simpa using this
      · simpa using up _ h2
      · have := ab _ _ h4 h3; rw [Int.add_comm] at this; simpa using this
      · simpa using up _ h4
  · obtain ⟨m, x1, y1, rfl, hd, hl⟩ := hI
    rw [rangeL_len, Nat.zero_add] at hl
    simp -implicitDefEqProofs (disch := (first | omega | assumption | exact Pt.mul_r (by omega) (by omega) | exact Pt.mul_l (by omega) (by omega) | exact ml _ _ | decide)) only [↓Pt.gt_ok, ↓Pt.gt_bind, ↓Pt.gt_lift, ↓Pt.at_0, ↓Pt.at_s, ↓Pt.nt_0, ↓Pt.nt_s, ↓Pt.vd_d, ↓Pt.vd_h, ↓Pt.vo_l, ↓Pt.vo_k, ↓Pt.vo_t, ↓Pt.vl_l, ↓Pt.vs_s, ↓Pt.pu_0, ↓Pt.pu_s, ↓Pt.wi_0, ↓Pt.wi_s, ↓Pt.bp_n, ↓Pt.bp_t, ↓Pt.bp_l, ↓Pt.bps_0, ↓Pt.bps_s, ↓Pt.bo_t, ↓Pt.bo_f, ↓Pt.bo_not, ↓Pt.gt_var, ↓Pt.gt_own, ↓Pt.gt_c, ↓Pt.gt_bin, ↓Pt.gt_un, ↓Pt.gt_tst, ↓Pt.gt_andT, ↓Pt.gt_orT, ↓Pt.gt_notT, ↓Pt.gt_and, ↓Pt.gt_or, ↓Pt.gt_not, ↓Pt.gt_if, ↓Pt.gt_chain, ↓Pt.gt_nil, ↓Pt.gt_cons, ↓Pt.gt_consA, ↓Pt.gt_consS, ↓Pt.gt_tup, ↓Pt.gt_lst, ↓Pt.gt_fz, ↓Pt.gt_fzD, ↓Pt.gt_call, ↓Pt.gt_callL, ↓Pt.gt_callK, ↓Pt.gt_app, ↓Pt.gt_sl, ↓Pt.gt_none, ↓Pt.gt_some, ↓Pt.ls_l, ↓Pt.gt_rev, ↓Pt.gt_sq, ↓Pt.ox_some, ↓Pt.seq_l, ↓Pt.seq_t, ↓Pt.tst_b, ↓Pt.intD_i, ↓Pt.z1_i, ↓Pt.z2_i, ↓Pt.gt_rg1, ↓Pt.gt_rg1J, ↓Pt.gt_rg2, ↓Pt.gt_srcI, ↓Pt.gt_srcLen, ↓Pt.gt_lc, ↓Pt.gt_yes, ↓Pt.gl_nil, ↓Pt.gl_cons, ↓Pt.gl_ok, ↓Pt.vh_h, ↓Pt.vt_t, ↓Pt.gt_ht, ↓Pt.gt_tupL, ↓Pt.lst_l, ↓Pt.gt_newD, ↓Pt.tag_t, ↓Pt.gt_get2T, ↓Pt.key_3, ↓Pt.zp_l, ↓Pt.zp_t, ↓Pt.gt_zip, ↓Pt.pair_0, ↓Pt.pair_s, ↓Pt.gs_seq, ↓Pt.sq_nx, ↓Pt.sq_rt, ↓Pt.sq_bk, ↓Pt.sq_ct, ↓Pt.sq_ex, ↓Pt.gs_skip, ↓Pt.gs_brk, ↓Pt.gs_cnt, ↓Pt.gs_nx, ↓Pt.gs_put, ↓Pt.gs_putZ, ↓Pt.gt_map, ↓Pt.gs_ret, ↓Pt.gs_drop, ↓Pt.gs_if, ↓Pt.gs_bind, ↓Pt.gs_par, ↓Pt.gs_par3, ↓Pt.gs_for, ↓Pt.fg_nx, ↓Pt.fg_ct, ↓Pt.fg_bk, ↓Pt.fg_rt, ↓Pt.gs_frz, ↓Pt.fe_s, ↓Pt.fe_l, ↓Pt.fe_k, ↓Pt.fe_t, ↓Pt.fe_d, ↓Pt.gs_apd, ↓Pt.gs_putT, ↓Pt.gs_srcPut, ↓Pt.ox_add, ↓Pt.ox_addL, ↓Pt.ox_addT, ↓Pt.ox_sub, ↓Pt.ox_mul, ↓Pt.ox_div, ↓Pt.ox_mod, ↓Pt.ox_neg, ↓Pt.ox_lt, ↓Pt.ox_le, ↓Pt.ox_gt, ↓Pt.ox_ge, ↓Pt.ox_eq, ↓Pt.ox_ne, ↓Pt.ox_eqS, ↓Pt.ox_neS, ↓Pt.ox_eqL, ↓Pt.ox_neL, ↓Pt.ox_eqT, ↓Pt.ox_neT, ↓Pt.ox_ix0, ↓Pt.ox_ix1, ↓Pt.ox_ix2, ↓Pt.ox_ix3, ↓Pt.ox_ixT0, ↓Pt.ox_ixT1, ↓Pt.ox_ixT2, ↓Pt.ox_ixT3, ↓Pt.ox_pow20, ↓Pt.ox_lenL, ↓Pt.ox_lenT, ↓Pt.ox_int, ↓Pt.ox_abs, ↓Pt.ox_max, ↓Pt.ox_min, ↓Pt.ox_tup, ↓Pt.ox_tupT, ↓Pt.ox_list, ↓Pt.ox_listT, ↓Pt.ox_repr]
    exact ⟨_, _, rfl, m, rfl, hd, hl⟩

theorem F_drawn3 (s : Src) : Gt (F_law_drawn_table [.src, .d (.int ((3 : Nat) : Int))] s) (fun d _ => ∃ m : M4, d = m.D ∧ m.det = 1 ∧ m.le (3 ^ 3)) F0 := by
  refine run_gt (e0 := [.src, .d (.int ((3 : Nat) : Int)), .un, .un, .un]) ?_ rfl
  have rk : rgB ((3 : Nat) : Int) = true := by decide
  have z3 : ∀ a b c : Pt.D, szB [a, b, c].length = true := fun _ _ _ => rfl
  unfold m_law_drawn_table
  rw [Pt.gs_seq]
  simp -implicitDefEqProofs (disch := (first | omega | assumption | exact Pt.mul_r (by omega) (by omega) | exact Pt.mul_l (by omega) (by omega) | exact ml _ _ | decide)) only [↓Pt.gt_ok, ↓Pt.gt_bind, ↓Pt.gt_lift, ↓Pt.at_0, ↓Pt.at_s, ↓Pt.nt_0, ↓Pt.nt_s, ↓Pt.vd_d, ↓Pt.vd_h, ↓Pt.vo_l, ↓Pt.vo_k, ↓Pt.vo_t, ↓Pt.vl_l, ↓Pt.vs_s, ↓Pt.pu_0, ↓Pt.pu_s, ↓Pt.wi_0, ↓Pt.wi_s, ↓Pt.bp_n, ↓Pt.bp_t, ↓Pt.bp_l, ↓Pt.bps_0, ↓Pt.bps_s, ↓Pt.bo_t, ↓Pt.bo_f, ↓Pt.bo_not, ↓Pt.gt_var, ↓Pt.gt_own, ↓Pt.gt_c, ↓Pt.gt_bin, ↓Pt.gt_un, ↓Pt.gt_tst, ↓Pt.gt_andT, ↓Pt.gt_orT, ↓Pt.gt_notT, ↓Pt.gt_and, ↓Pt.gt_or, ↓Pt.gt_not, ↓Pt.gt_if, ↓Pt.gt_chain, ↓Pt.gt_nil, ↓Pt.gt_cons, ↓Pt.gt_consA, ↓Pt.gt_consS, ↓Pt.gt_tup, ↓Pt.gt_lst, ↓Pt.gt_fz, ↓Pt.gt_fzD, ↓Pt.gt_call, ↓Pt.gt_callL, ↓Pt.gt_callK, ↓Pt.gt_app, ↓Pt.gt_sl, ↓Pt.gt_none, ↓Pt.gt_some, ↓Pt.ls_l, ↓Pt.gt_rev, ↓Pt.gt_sq, ↓Pt.ox_some, ↓Pt.seq_l, ↓Pt.seq_t, ↓Pt.tst_b, ↓Pt.intD_i, ↓Pt.z1_i, ↓Pt.z2_i, ↓Pt.gt_rg1, ↓Pt.gt_rg1J, ↓Pt.gt_rg2, ↓Pt.gt_srcI, ↓Pt.gt_srcLen, ↓Pt.gt_lc, ↓Pt.gt_yes, ↓Pt.gl_nil, ↓Pt.gl_cons, ↓Pt.gl_ok, ↓Pt.vh_h, ↓Pt.vt_t, ↓Pt.gt_ht, ↓Pt.gt_tupL, ↓Pt.lst_l, ↓Pt.gt_newD, ↓Pt.tag_t, ↓Pt.gt_get2T, ↓Pt.key_3, ↓Pt.zp_l, ↓Pt.zp_t, ↓Pt.gt_zip, ↓Pt.pair_0, ↓Pt.pair_s, ↓Pt.gs_seq, ↓Pt.sq_rt, ↓Pt.sq_bk, ↓Pt.sq_ct, ↓Pt.sq_ex, ↓Pt.gs_skip, ↓Pt.gs_brk, ↓Pt.gs_cnt, ↓Pt.gs_nx, ↓Pt.gs_put, ↓Pt.gs_putZ, ↓Pt.gt_map, ↓Pt.gs_ret, ↓Pt.gs_drop, ↓Pt.gs_if, ↓Pt.gs_bind, ↓Pt.gs_par, ↓Pt.gs_par3, ↓Pt.gs_for, ↓Pt.fg_nx, ↓Pt.fg_ct, ↓Pt.fg_bk, ↓Pt.fg_rt, ↓Pt.gs_frz, ↓Pt.fe_s, ↓Pt.fe_l, ↓Pt.fe_k, ↓Pt.fe_t, ↓Pt.fe_d, ↓Pt.gs_apd, ↓Pt.gs_putT, ↓Pt.gs_srcPut, ↓Pt.ox_add, ↓Pt.ox_addL, ↓Pt.ox_addT, ↓Pt.ox_sub, ↓Pt.ox_mul, ↓Pt.ox_div, ↓Pt.ox_mod, ↓Pt.ox_neg, ↓Pt.ox_lt, ↓Pt.ox_le, ↓Pt.ox_gt, ↓Pt.ox_ge, ↓Pt.ox_eq, ↓Pt.ox_ne, ↓Pt.ox_eqS, ↓Pt.ox_neS, ↓Pt.ox_eqL, ↓Pt.ox_neL, ↓Pt.ox_eqT, ↓Pt.ox_neT, ↓Pt.ox_ix0, ↓Pt.ox_ix1, ↓Pt.ox_ix2, ↓Pt.ox_ix3, ↓Pt.ox_ixT0, ↓Pt.ox_ixT1, ↓Pt.ox_ixT2, ↓Pt.ox_ixT3, ↓Pt.ox_pow20, ↓Pt.ox_lenL, ↓Pt.ox_lenT, ↓Pt.ox_int, ↓Pt.ox_abs, ↓Pt.ox_max, ↓Pt.ox_min, ↓Pt.ox_tup, ↓Pt.ox_tupT, ↓Pt.ox_list, ↓Pt.ox_listT, ↓Pt.ox_repr, sz4, true_and]
  rw [Pt.sq_nx, Pt.gs_seq]
  simp -implicitDefEqProofs (disch := (first | omega | assumption | exact Pt.mul_r (by omega) (by omega) | exact Pt.mul_l (by omega) (by omega) | exact ml _ _ | decide)) only [↓Pt.gt_ok, ↓Pt.gt_bind, ↓Pt.gt_lift, ↓Pt.at_0, ↓Pt.at_s, ↓Pt.nt_0, ↓Pt.nt_s, ↓Pt.vd_d, ↓Pt.vd_h, ↓Pt.vo_l, ↓Pt.vo_k, ↓Pt.vo_t, ↓Pt.vl_l, ↓Pt.vs_s, ↓Pt.pu_0, ↓Pt.pu_s, ↓Pt.wi_0, ↓Pt.wi_s, ↓Pt.bp_n, ↓Pt.bp_t, ↓Pt.bp_l, ↓Pt.bps_0, ↓Pt.bps_s, ↓Pt.bo_t, ↓Pt.bo_f, ↓Pt.bo_not, ↓Pt.gt_var, ↓Pt.gt_own, ↓Pt.gt_c, ↓Pt.gt_bin, ↓Pt.gt_un, ↓Pt.gt_tst, ↓Pt.gt_andT, ↓Pt.gt_orT, ↓Pt.gt_notT, ↓Pt.gt_and, ↓Pt.gt_or, ↓Pt.gt_not, ↓Pt.gt_if, ↓Pt.gt_chain, ↓Pt.gt_nil, ↓Pt.gt_cons, ↓Pt.gt_consA, ↓Pt.gt_consS, ↓Pt.gt_tup, ↓Pt.gt_lst, ↓Pt.gt_fz, ↓Pt.gt_fzD, ↓Pt.gt_call, ↓Pt.gt_callL, ↓Pt.gt_callK, ↓Pt.gt_app, ↓Pt.gt_sl, ↓Pt.gt_none, ↓Pt.gt_some, ↓Pt.ls_l, ↓Pt.gt_rev, ↓Pt.gt_sq, ↓Pt.ox_some, ↓Pt.seq_l, ↓Pt.seq_t, ↓Pt.tst_b, ↓Pt.intD_i, ↓Pt.z1_i, ↓Pt.z2_i, ↓Pt.gt_rg1, ↓Pt.gt_rg1J, ↓Pt.gt_rg2, ↓Pt.gt_srcI, ↓Pt.gt_srcLen, ↓Pt.gt_lc, ↓Pt.gt_yes, ↓Pt.gl_nil, ↓Pt.gl_cons, ↓Pt.gl_ok, ↓Pt.vh_h, ↓Pt.vt_t, ↓Pt.gt_ht, ↓Pt.gt_tupL, ↓Pt.lst_l, ↓Pt.gt_newD, ↓Pt.tag_t, ↓Pt.gt_get2T, ↓Pt.key_3, ↓Pt.zp_l, ↓Pt.zp_t, ↓Pt.gt_zip, ↓Pt.pair_0, ↓Pt.pair_s, ↓Pt.gs_seq, ↓Pt.sq_rt, ↓Pt.sq_bk, ↓Pt.sq_ct, ↓Pt.sq_ex, ↓Pt.gs_skip, ↓Pt.gs_brk, ↓Pt.gs_cnt, ↓Pt.gs_nx, ↓Pt.gs_put, ↓Pt.gs_putZ, ↓Pt.gt_map, ↓Pt.gs_ret, ↓Pt.gs_drop, ↓Pt.gs_if, ↓Pt.gs_bind, ↓Pt.gs_par, ↓Pt.gs_par3, ↓Pt.gs_for, ↓Pt.fg_nx, ↓Pt.fg_ct, ↓Pt.fg_bk, ↓Pt.fg_rt, ↓Pt.gs_frz, ↓Pt.fe_s, ↓Pt.fe_l, ↓Pt.fe_k, ↓Pt.fe_t, ↓Pt.fe_d, ↓Pt.gs_apd, ↓Pt.gs_putT, ↓Pt.gs_srcPut, ↓Pt.ox_add, ↓Pt.ox_addL, ↓Pt.ox_addT, ↓Pt.ox_sub, ↓Pt.ox_mul, ↓Pt.ox_div, ↓Pt.ox_mod, ↓Pt.ox_neg, ↓Pt.ox_lt, ↓Pt.ox_le, ↓Pt.ox_gt, ↓Pt.ox_ge, ↓Pt.ox_eq, ↓Pt.ox_ne, ↓Pt.ox_eqS, ↓Pt.ox_neS, ↓Pt.ox_eqL, ↓Pt.ox_neL, ↓Pt.ox_eqT, ↓Pt.ox_neT, ↓Pt.ox_ix0, ↓Pt.ox_ix1, ↓Pt.ox_ix2, ↓Pt.ox_ix3, ↓Pt.ox_ixT0, ↓Pt.ox_ixT1, ↓Pt.ox_ixT2, ↓Pt.ox_ixT3, ↓Pt.ox_pow20, ↓Pt.ox_lenL, ↓Pt.ox_lenT, ↓Pt.ox_int, ↓Pt.ox_abs, ↓Pt.ox_max, ↓Pt.ox_min, ↓Pt.ox_tup, ↓Pt.ox_tupT, ↓Pt.ox_list, ↓Pt.ox_listT, ↓Pt.ox_repr, rk, true_and, Int.toNat_natCast]
  refine Pt.gs_goI (fun i e s => ∃ (m : M4) (x y : Sl), e = [.src, .d (.int ((3 : Nat) : Int)), .d m.D, x, y] ∧ m.det = 1 ∧ m.le (3 ^ i)) _ 0 _ _ ⟨M4.one, _, _, rfl, rfl, by refine ⟨?_, ?_, ?_, ?_⟩ <;> decide⟩ (fun i x e s1 hx hI => ?_) fun e s1 hI => ?_
  · obtain ⟨m, x1, y1, rfl, hd, hl⟩ := hI
    rw [Nat.zero_add] at hl ⊢
    have i5 : i < 5 := by have := (rng_at hx).1; omega
    have big : ∀ n : M4, n.le 2 → sm n := fun n h => M4.le_mono h (by decide)
    simp -implicitDefEqProofs (disch := (first | omega | assumption | rfl | decide | simp)) only [↓Pt.gt_ok, ↓Pt.gt_bind, ↓Pt.gt_lift, ↓Pt.at_0, ↓Pt.at_s, ↓Pt.nt_0, ↓Pt.nt_s, ↓Pt.vd_d, ↓Pt.vd_h, ↓Pt.vo_l, ↓Pt.vo_k, ↓Pt.vo_t, ↓Pt.vl_l, ↓Pt.vs_s, ↓Pt.pu_0, ↓Pt.pu_s, ↓Pt.wi_0, ↓Pt.wi_s, ↓Pt.bp_n, ↓Pt.bp_t, ↓Pt.bp_l, ↓Pt.bps_0, ↓Pt.bps_s, ↓Pt.bo_t, ↓Pt.bo_f, ↓Pt.bo_not, ↓Pt.gt_var, ↓Pt.gt_own, ↓Pt.gt_c, ↓Pt.gt_bin, ↓Pt.gt_un, ↓Pt.gt_tst, ↓Pt.gt_andT, ↓Pt.gt_orT, ↓Pt.gt_notT, ↓Pt.gt_and, ↓Pt.gt_or, ↓Pt.gt_not, ↓Pt.gt_if, ↓Pt.gt_chain, ↓Pt.gt_nil, ↓Pt.gt_cons, ↓Pt.gt_consA, ↓Pt.gt_consS, ↓Pt.gt_tup, ↓Pt.gt_lst, ↓Pt.gt_fz, ↓Pt.gt_fzD, ↓Pt.gt_call, ↓Pt.gt_callL, ↓Pt.gt_callK, ↓Pt.gt_app, ↓Pt.gt_sl, ↓Pt.gt_none, ↓Pt.gt_some, ↓Pt.ls_l, ↓Pt.gt_rev, ↓Pt.gt_sq, ↓Pt.ox_some, ↓Pt.seq_l, ↓Pt.seq_t, ↓Pt.tst_b, ↓Pt.intD_i, ↓Pt.z1_i, ↓Pt.z2_i, ↓Pt.gt_rg1, ↓Pt.gt_rg1J, ↓Pt.gt_rg2, ↓Pt.gt_srcI, ↓Pt.gt_srcLen, ↓Pt.gt_lc, ↓Pt.gt_yes, ↓Pt.gl_nil, ↓Pt.gl_cons, ↓Pt.gl_ok, ↓Pt.vh_h, ↓Pt.vt_t, ↓Pt.gt_ht, ↓Pt.gt_tupL, ↓Pt.lst_l, ↓Pt.gt_newD, ↓Pt.tag_t, ↓Pt.gt_get2T, ↓Pt.key_3, ↓Pt.zp_l, ↓Pt.zp_t, ↓Pt.gt_zip, ↓Pt.pair_0, ↓Pt.pair_s, ↓Pt.gs_seq, ↓Pt.sq_rt, ↓Pt.sq_bk, ↓Pt.sq_ct, ↓Pt.sq_ex, ↓Pt.gs_skip, ↓Pt.gs_brk, ↓Pt.gs_cnt, ↓Pt.gs_nx, ↓Pt.gs_put, ↓Pt.gs_putZ, ↓Pt.gt_map, ↓Pt.gs_ret, ↓Pt.gs_drop, ↓Pt.gs_if, ↓Pt.gs_bind, ↓Pt.gs_par, ↓Pt.gs_par3, ↓Pt.gs_for, ↓Pt.fg_nx, ↓Pt.fg_ct, ↓Pt.fg_bk, ↓Pt.fg_rt, ↓Pt.gs_frz, ↓Pt.fe_s, ↓Pt.fe_l, ↓Pt.fe_k, ↓Pt.fe_t, ↓Pt.fe_d, ↓Pt.gs_apd, ↓Pt.gs_putT, ↓Pt.gs_srcPut, ↓Pt.ox_add, ↓Pt.ox_addL, ↓Pt.ox_addT, ↓Pt.ox_sub, ↓Pt.ox_mul, ↓Pt.ox_div, ↓Pt.ox_mod, ↓Pt.ox_neg, ↓Pt.ox_lt, ↓Pt.ox_le, ↓Pt.ox_gt, ↓Pt.ox_ge, ↓Pt.ox_eq, ↓Pt.ox_ne, ↓Pt.ox_eqS, ↓Pt.ox_neS, ↓Pt.ox_eqL, ↓Pt.ox_neL, ↓Pt.ox_eqT, ↓Pt.ox_neT, ↓Pt.ox_ix0, ↓Pt.ox_ix1, ↓Pt.ox_ix2, ↓Pt.ox_ix3, ↓Pt.ox_ixT0, ↓Pt.ox_ixT1, ↓Pt.ox_ixT2, ↓Pt.ox_ixT3, ↓Pt.ox_pow20, ↓Pt.ox_lenL, ↓Pt.ox_lenT, ↓Pt.ox_int, ↓Pt.ox_abs, ↓Pt.ox_max, ↓Pt.ox_min, ↓Pt.ox_tup, ↓Pt.ox_tupT, ↓Pt.ox_list, ↓Pt.ox_listT, ↓Pt.ox_repr, z3, true_and, e_of, ↓gt_of]
    have mb := of_mem [PyData.int 1, .int (-1), .int 2] s1 rfl
    generalize ofV [PyData.int 1, .int (-1), .int 2] s1 = v at mb ⊢
    generalize ofS [PyData.int 1, .int (-1), .int 2] s1 = s2
    obtain ⟨b, rfl, hb⟩ : ∃ b : Int, v = .int b ∧ b.natAbs ≤ 2 := by
      simp only [List.mem_cons, List.not_mem_nil, or_false] at mb
      rcases mb with rfl | rfl | rfl
      · exact ⟨_, rfl, by decide⟩
      · exact ⟨_, rfl, by decide⟩
      · exact ⟨_, rfl, by decide⟩
    rw [Pt.sq_nx]
    have l1 := big ⟨1, b, 0, 1⟩ ⟨by simp, by simpa using hb, by simp, by simp⟩
    have l2 := big ⟨1, 0, b, 1⟩ ⟨by simp, by simp, by simpa using hb, by simp⟩
    have f1 := fun s => F_ltimes m ⟨1, b, 0, 1⟩ s l1
    have f2 := fun s => F_ltimes m ⟨1, 0, b, 1⟩ s l2
    unfold M4.D at f1 f2
    simp -implicitDefEqProofs (disch := (first | omega | assumption | rfl | decide | simp)) only [↓Pt.gt_ok, ↓Pt.gt_bind, ↓Pt.gt_lift, ↓Pt.at_0, ↓Pt.at_s, ↓Pt.nt_0, ↓Pt.nt_s, ↓Pt.vd_d, ↓Pt.vd_h, ↓Pt.vo_l, ↓Pt.vo_k, ↓Pt.vo_t, ↓Pt.vl_l, ↓Pt.vs_s, ↓Pt.pu_0, ↓Pt.pu_s, ↓Pt.wi_0, ↓Pt.wi_s, ↓Pt.bp_n, ↓Pt.bp_t, ↓Pt.bp_l, ↓Pt.bps_0, ↓Pt.bps_s, ↓Pt.bo_t, ↓Pt.bo_f, ↓Pt.bo_not, ↓Pt.gt_var, ↓Pt.gt_own, ↓Pt.gt_c, ↓Pt.gt_bin, ↓Pt.gt_un, ↓Pt.gt_tst, ↓Pt.gt_andT, ↓Pt.gt_orT, ↓Pt.gt_notT, ↓Pt.gt_and, ↓Pt.gt_or, ↓Pt.gt_not, ↓Pt.gt_if, ↓Pt.gt_chain, ↓Pt.gt_nil, ↓Pt.gt_cons, ↓Pt.gt_consA, ↓Pt.gt_consS, ↓Pt.gt_tup, ↓Pt.gt_lst, ↓Pt.gt_fz, ↓Pt.gt_fzD, ↓Pt.gt_call, ↓Pt.gt_callL, ↓Pt.gt_callK, ↓Pt.gt_app, ↓Pt.gt_sl, ↓Pt.gt_none, ↓Pt.gt_some, ↓Pt.ls_l, ↓Pt.gt_rev, ↓Pt.gt_sq, ↓Pt.ox_some, ↓Pt.seq_l, ↓Pt.seq_t, ↓Pt.tst_b, ↓Pt.intD_i, ↓Pt.z1_i, ↓Pt.z2_i, ↓Pt.gt_rg1, ↓Pt.gt_rg1J, ↓Pt.gt_rg2, ↓Pt.gt_srcI, ↓Pt.gt_srcLen, ↓Pt.gt_lc, ↓Pt.gt_yes, ↓Pt.gl_nil, ↓Pt.gl_cons, ↓Pt.gl_ok, ↓Pt.vh_h, ↓Pt.vt_t, ↓Pt.gt_ht, ↓Pt.gt_tupL, ↓Pt.lst_l, ↓Pt.gt_newD, ↓Pt.tag_t, ↓Pt.gt_get2T, ↓Pt.key_3, ↓Pt.zp_l, ↓Pt.zp_t, ↓Pt.gt_zip, ↓Pt.pair_0, ↓Pt.pair_s, ↓Pt.gs_seq, ↓Pt.sq_rt, ↓Pt.sq_bk, ↓Pt.sq_ct, ↓Pt.sq_ex, ↓Pt.gs_skip, ↓Pt.gs_brk, ↓Pt.gs_cnt, ↓Pt.gs_nx, ↓Pt.gs_put, ↓Pt.gs_putZ, ↓Pt.gt_map, ↓Pt.gs_ret, ↓Pt.gs_drop, ↓Pt.gs_if, ↓Pt.gs_bind, ↓Pt.gs_par, ↓Pt.gs_par3, ↓Pt.gs_for, ↓Pt.fg_nx, ↓Pt.fg_ct, ↓Pt.fg_bk, ↓Pt.fg_rt, ↓Pt.gs_frz, ↓Pt.fe_s, ↓Pt.fe_l, ↓Pt.fe_k, ↓Pt.fe_t, ↓Pt.fe_d, ↓Pt.gs_apd, ↓Pt.gs_putT, ↓Pt.gs_srcPut, ↓Pt.ox_add, ↓Pt.ox_addL, ↓Pt.ox_addT, ↓Pt.ox_sub, ↓Pt.ox_mul, ↓Pt.ox_div, ↓Pt.ox_mod, ↓Pt.ox_neg, ↓Pt.ox_lt, ↓Pt.ox_le, ↓Pt.ox_gt, ↓Pt.ox_ge, ↓Pt.ox_eq, ↓Pt.ox_ne, ↓Pt.ox_eqS, ↓Pt.ox_neS, ↓Pt.ox_eqL, ↓Pt.ox_neL, ↓Pt.ox_eqT, ↓Pt.ox_neT, ↓Pt.ox_ix0, ↓Pt.ox_ix1, ↓Pt.ox_ix2, ↓Pt.ox_ix3, ↓Pt.ox_ixT0, ↓Pt.ox_ixT1, ↓Pt.ox_ixT2, ↓Pt.ox_ixT3, ↓Pt.ox_pow20, ↓Pt.ox_lenL, ↓Pt.ox_lenT, ↓Pt.ox_int, ↓Pt.ox_abs, ↓Pt.ox_max, ↓Pt.ox_min, ↓Pt.ox_tup, ↓Pt.ox_tupT, ↓Pt.ox_list, ↓Pt.ox_listT, ↓Pt.ox_repr, sz4, true_and, e_pick, ↓gt_pick]
    obtain ⟨h1, h2, h3, h4⟩ := hl
    have ab : ∀ x y : Int, x.natAbs ≤ 3 ^ i → y.natAbs ≤ 3 ^ i → (x * b + y).natAbs ≤ 3 ^ (i + 1) := fun x y hx hy => by
      have := mul_le' hx hb
      have : 3 ^ (i + 1) = 3 * 3 ^ i := by rw [Nat.pow_succ, Nat.mul_comm]
      omega
    have up : ∀ x : Int, x.natAbs ≤ 3 ^ i → x.natAbs ≤ 3 ^ (i + 1) := fun x hx => by
      have : 3 ^ (i + 1) = 3 * 3 ^ i := by rw [Nat.pow_succ, Nat.mul_comm]
      omega
    refine bo_mk (fun _ => ?_) fun _ => ?_
    · unfold M4.D
      rw [Pt.gt_eq (f1 _)]
      refine ⟨m.mul ⟨1, b, 0, 1⟩, _, _, rfl, by rw [M4.det_mul, hd]; simp [M4.det], ?_⟩
      simp only [M4.mul, M4.le]
      refine ⟨?_, ?_, ?_, ?_⟩
      · simpa using up _ h1
      · simpa using ab _ _ h1 h2
      · simpa using up _ h3
      · simpa using ab _ _ h3 h4
    · unfold M4.D
      rw [Pt.gt_eq (f2 _)]
      refine ⟨m.mul ⟨1, 0, b, 1⟩, _, _, rfl, by rw [M4.det_mul, hd]; simp [M4.det], ?_⟩
      simp only [M4.mul, M4.le]
      refine ⟨?_, ?_, ?_, ?_⟩
      · have := ab _ _ h2 h1; rw [Int.add_comm] at this; simpa using this
      · simpa using up _ h2
      · have := ab _ _ h4 h3; rw [Int.add_comm] at this; simpa using this
      · simpa using up _ h4
  · obtain ⟨m, x1, y1, rfl, hd, hl⟩ := hI
    rw [rangeL_len, Nat.zero_add] at hl
    simp -implicitDefEqProofs (disch := (first | omega | assumption | exact Pt.mul_r (by omega) (by omega) | exact Pt.mul_l (by omega) (by omega) | exact ml _ _ | decide)) only [↓Pt.gt_ok, ↓Pt.gt_bind, ↓Pt.gt_lift, ↓Pt.at_0, ↓Pt.at_s, ↓Pt.nt_0, ↓Pt.nt_s, ↓Pt.vd_d, ↓Pt.vd_h, ↓Pt.vo_l, ↓Pt.vo_k, ↓Pt.vo_t, ↓Pt.vl_l, ↓Pt.vs_s, ↓Pt.pu_0, ↓Pt.pu_s, ↓Pt.wi_0, ↓Pt.wi_s, ↓Pt.bp_n, ↓Pt.bp_t, ↓Pt.bp_l, ↓Pt.bps_0, ↓Pt.bps_s, ↓Pt.bo_t, ↓Pt.bo_f, ↓Pt.bo_not, ↓Pt.gt_var, ↓Pt.gt_own, ↓Pt.gt_c, ↓Pt.gt_bin, ↓Pt.gt_un, ↓Pt.gt_tst, ↓Pt.gt_andT, ↓Pt.gt_orT, ↓Pt.gt_notT, ↓Pt.gt_and, ↓Pt.gt_or, ↓Pt.gt_not, ↓Pt.gt_if, ↓Pt.gt_chain, ↓Pt.gt_nil, ↓Pt.gt_cons, ↓Pt.gt_consA, ↓Pt.gt_consS, ↓Pt.gt_tup, ↓Pt.gt_lst, ↓Pt.gt_fz, ↓Pt.gt_fzD, ↓Pt.gt_call, ↓Pt.gt_callL, ↓Pt.gt_callK, ↓Pt.gt_app, ↓Pt.gt_sl, ↓Pt.gt_none, ↓Pt.gt_some, ↓Pt.ls_l, ↓Pt.gt_rev, ↓Pt.gt_sq, ↓Pt.ox_some, ↓Pt.seq_l, ↓Pt.seq_t, ↓Pt.tst_b, ↓Pt.intD_i, ↓Pt.z1_i, ↓Pt.z2_i, ↓Pt.gt_rg1, ↓Pt.gt_rg1J, ↓Pt.gt_rg2, ↓Pt.gt_srcI, ↓Pt.gt_srcLen, ↓Pt.gt_lc, ↓Pt.gt_yes, ↓Pt.gl_nil, ↓Pt.gl_cons, ↓Pt.gl_ok, ↓Pt.vh_h, ↓Pt.vt_t, ↓Pt.gt_ht, ↓Pt.gt_tupL, ↓Pt.lst_l, ↓Pt.gt_newD, ↓Pt.tag_t, ↓Pt.gt_get2T, ↓Pt.key_3, ↓Pt.zp_l, ↓Pt.zp_t, ↓Pt.gt_zip, ↓Pt.pair_0, ↓Pt.pair_s, ↓Pt.gs_seq, ↓Pt.sq_nx, ↓Pt.sq_rt, ↓Pt.sq_bk, ↓Pt.sq_ct, ↓Pt.sq_ex, ↓Pt.gs_skip, ↓Pt.gs_brk, ↓Pt.gs_cnt, ↓Pt.gs_nx, ↓Pt.gs_put, ↓Pt.gs_putZ, ↓Pt.gt_map, ↓Pt.gs_ret, ↓Pt.gs_drop, ↓Pt.gs_if, ↓Pt.gs_bind, ↓Pt.gs_par, ↓Pt.gs_par3, ↓Pt.gs_for, ↓Pt.fg_nx, ↓Pt.fg_ct, ↓Pt.fg_bk, ↓Pt.fg_rt, ↓Pt.gs_frz, ↓Pt.fe_s, ↓Pt.fe_l, ↓Pt.fe_k, ↓Pt.fe_t, ↓Pt.fe_d, ↓Pt.gs_apd, ↓Pt.gs_putT, ↓Pt.gs_srcPut, ↓Pt.ox_add, ↓Pt.ox_addL, ↓Pt.ox_addT, ↓Pt.ox_sub, ↓Pt.ox_mul, ↓Pt.ox_div, ↓Pt.ox_mod, ↓Pt.ox_neg, ↓Pt.ox_lt, ↓Pt.ox_le, ↓Pt.ox_gt, ↓Pt.ox_ge, ↓Pt.ox_eq, ↓Pt.ox_ne, ↓Pt.ox_eqS, ↓Pt.ox_neS, ↓Pt.ox_eqL, ↓Pt.ox_neL, ↓Pt.ox_eqT, ↓Pt.ox_neT, ↓Pt.ox_ix0, ↓Pt.ox_ix1, ↓Pt.ox_ix2, ↓Pt.ox_ix3, ↓Pt.ox_ixT0, ↓Pt.ox_ixT1, ↓Pt.ox_ixT2, ↓Pt.ox_ixT3, ↓Pt.ox_pow20, ↓Pt.ox_lenL, ↓Pt.ox_lenT, ↓Pt.ox_int, ↓Pt.ox_abs, ↓Pt.ox_max, ↓Pt.ox_min, ↓Pt.ox_tup, ↓Pt.ox_tupT, ↓Pt.ox_list, ↓Pt.ox_listT, ↓Pt.ox_repr]
    exact ⟨_, _, rfl, m, rfl, hd, hl⟩

theorem F_drawn4 (s : Src) : Gt (F_law_drawn_table [.src, .d (.int ((4 : Nat) : Int))] s) (fun d _ => ∃ m : M4, d = m.D ∧ m.det = 1 ∧ m.le (3 ^ 4)) F0 := by
  refine run_gt (e0 := [.src, .d (.int ((4 : Nat) : Int)), .un, .un, .un]) ?_ rfl
  have rk : rgB ((4 : Nat) : Int) = true := by decide
  have z3 : ∀ a b c : Pt.D, szB [a, b, c].length = true := fun _ _ _ => rfl
  unfold m_law_drawn_table
  rw [Pt.gs_seq]
  simp -implicitDefEqProofs (disch := (first | omega | assumption | exact Pt.mul_r (by omega) (by omega) | exact Pt.mul_l (by omega) (by omega) | exact ml _ _ | decide)) only [↓Pt.gt_ok, ↓Pt.gt_bind, ↓Pt.gt_lift, ↓Pt.at_0, ↓Pt.at_s, ↓Pt.nt_0, ↓Pt.nt_s, ↓Pt.vd_d, ↓Pt.vd_h, ↓Pt.vo_l, ↓Pt.vo_k, ↓Pt.vo_t, ↓Pt.vl_l, ↓Pt.vs_s, ↓Pt.pu_0, ↓Pt.pu_s, ↓Pt.wi_0, ↓Pt.wi_s, ↓Pt.bp_n, ↓Pt.bp_t, ↓Pt.bp_l, ↓Pt.bps_0, ↓Pt.bps_s, ↓Pt.bo_t, ↓Pt.bo_f, ↓Pt.bo_not, ↓Pt.gt_var, ↓Pt.gt_own, ↓Pt.gt_c, ↓Pt.gt_bin, ↓Pt.gt_un, ↓Pt.gt_tst, ↓Pt.gt_andT, ↓Pt.gt_orT, ↓Pt.gt_notT, ↓Pt.gt_and, ↓Pt.gt_or, ↓Pt.gt_not, ↓Pt.gt_if, ↓Pt.gt_chain, ↓Pt.gt_nil, ↓Pt.gt_cons, ↓Pt.gt_consA, ↓Pt.gt_consS, ↓Pt.gt_tup, ↓Pt.gt_lst, ↓Pt.gt_fz, ↓Pt.gt_fzD, ↓Pt.gt_call, ↓Pt.gt_callL, ↓Pt.gt_callK, ↓Pt.gt_app, ↓Pt.gt_sl, ↓Pt.gt_none, ↓Pt.gt_some, ↓Pt.ls_l, ↓Pt.gt_rev, ↓Pt.gt_sq, ↓Pt.ox_some, ↓Pt.seq_l, ↓Pt.seq_t, ↓Pt.tst_b, ↓Pt.intD_i, ↓Pt.z1_i, ↓Pt.z2_i, ↓Pt.gt_rg1, ↓Pt.gt_rg1J, ↓Pt.gt_rg2, ↓Pt.gt_srcI, ↓Pt.gt_srcLen, ↓Pt.gt_lc, ↓Pt.gt_yes, ↓Pt.gl_nil, ↓Pt.gl_cons, ↓Pt.gl_ok, ↓Pt.vh_h, ↓Pt.vt_t, ↓Pt.gt_ht, ↓Pt.gt_tupL, ↓Pt.lst_l, ↓Pt.gt_newD, ↓Pt.tag_t, ↓Pt.gt_get2T, ↓Pt.key_3, ↓Pt.zp_l, ↓Pt.zp_t, ↓Pt.gt_zip, ↓Pt.pair_0, ↓Pt.pair_s, ↓Pt.gs_seq, ↓Pt.sq_rt, ↓Pt.sq_bk, ↓Pt.sq_ct, ↓Pt.sq_ex, ↓Pt.gs_skip, ↓Pt.gs_brk, ↓Pt.gs_cnt, ↓Pt.gs_nx, ↓Pt.gs_put, ↓Pt.gs_putZ, ↓Pt.gt_map, ↓Pt.gs_ret, ↓Pt.gs_drop, ↓Pt.gs_if, ↓Pt.gs_bind, ↓Pt.gs_par, ↓Pt.gs_par3, ↓Pt.gs_for, ↓Pt.fg_nx, ↓Pt.fg_ct, ↓Pt.fg_bk, ↓Pt.fg_rt, ↓Pt.gs_frz, ↓Pt.fe_s, ↓Pt.fe_l, ↓Pt.fe_k, ↓Pt.fe_t, ↓Pt.fe_d, ↓Pt.gs_apd, ↓Pt.gs_putT, ↓Pt.gs_srcPut, ↓Pt.ox_add, ↓Pt.ox_addL, ↓Pt.ox_addT, ↓Pt.ox_sub, ↓Pt.ox_mul, ↓Pt.ox_div, ↓Pt.ox_mod, ↓Pt.ox_neg, ↓Pt.ox_lt, ↓Pt.ox_le, ↓Pt.ox_gt, ↓Pt.ox_ge, ↓Pt.ox_eq, ↓Pt.ox_ne, ↓Pt.ox_eqS, ↓Pt.ox_neS, ↓Pt.ox_eqL, ↓Pt.ox_neL, ↓Pt.ox_eqT, ↓Pt.ox_neT, ↓Pt.ox_ix0, ↓Pt.ox_ix1, ↓Pt.ox_ix2, ↓Pt.ox_ix3, ↓Pt.ox_ixT0, ↓Pt.ox_ixT1, ↓Pt.ox_ixT2, ↓Pt.ox_ixT3, ↓Pt.ox_pow20, ↓Pt.ox_lenL, ↓Pt.ox_lenT, ↓Pt.ox_int, ↓Pt.ox_abs, ↓Pt.ox_max, ↓Pt.ox_min, ↓Pt.ox_tup, ↓Pt.ox_tupT, ↓Pt.ox_list, ↓Pt.ox_listT, ↓Pt.ox_repr, sz4, true_and]
  rw [Pt.sq_nx, Pt.gs_seq]
  simp -implicitDefEqProofs (disch := (first | omega | assumption | exact Pt.mul_r (by omega) (by omega) | exact Pt.mul_l (by omega) (by omega) | exact ml _ _ | decide)) only [↓Pt.gt_ok, ↓Pt.gt_bind, ↓Pt.gt_lift, ↓Pt.at_0, ↓Pt.at_s, ↓Pt.nt_0, ↓Pt.nt_s, ↓Pt.vd_d, ↓Pt.vd_h, ↓Pt.vo_l, ↓Pt.vo_k, ↓Pt.vo_t, ↓Pt.vl_l, ↓Pt.vs_s, ↓Pt.pu_0, ↓Pt.pu_s, ↓Pt.wi_0, ↓Pt.wi_s, ↓Pt.bp_n, ↓Pt.bp_t, ↓Pt.bp_l, ↓Pt.bps_0, ↓Pt.bps_s, ↓Pt.bo_t, ↓Pt.bo_f, ↓Pt.bo_not, ↓Pt.gt_var, ↓Pt.gt_own, ↓Pt.gt_c, ↓Pt.gt_bin, ↓Pt.gt_un, ↓Pt.gt_tst, ↓Pt.gt_andT, ↓Pt.gt_orT, ↓Pt.gt_notT, ↓Pt.gt_and, ↓Pt.gt_or, ↓Pt.gt_not, ↓Pt.gt_if, ↓Pt.gt_chain, ↓Pt.gt_nil, ↓Pt.gt_cons, ↓Pt.gt_consA, ↓Pt.gt_consS, ↓Pt.gt_tup, ↓Pt.gt_lst, ↓Pt.gt_fz, ↓Pt.gt_fzD, ↓Pt.gt_call, ↓Pt.gt_callL, ↓Pt.gt_callK, ↓Pt.gt_app, ↓Pt.gt_sl, ↓Pt.gt_none, ↓Pt.gt_some, ↓Pt.ls_l, ↓Pt.gt_rev, ↓Pt.gt_sq, ↓Pt.ox_some, ↓Pt.seq_l, ↓Pt.seq_t, ↓Pt.tst_b, ↓Pt.intD_i, ↓Pt.z1_i, ↓Pt.z2_i, ↓Pt.gt_rg1, ↓Pt.gt_rg1J, ↓Pt.gt_rg2, ↓Pt.gt_srcI, ↓Pt.gt_srcLen, ↓Pt.gt_lc, ↓Pt.gt_yes, ↓Pt.gl_nil, ↓Pt.gl_cons, ↓Pt.gl_ok, ↓Pt.vh_h, ↓Pt.vt_t, ↓Pt.gt_ht, ↓Pt.gt_tupL, ↓Pt.lst_l, ↓Pt.gt_newD, ↓Pt.tag_t, ↓Pt.gt_get2T, ↓Pt.key_3, ↓Pt.zp_l, ↓Pt.zp_t, ↓Pt.gt_zip, ↓Pt.pair_0, ↓Pt.pair_s, ↓Pt.gs_seq, ↓Pt.sq_rt, ↓Pt.sq_bk, ↓Pt.sq_ct, ↓Pt.sq_ex, ↓Pt.gs_skip, ↓Pt.gs_brk, ↓Pt.gs_cnt, ↓Pt.gs_nx, ↓Pt.gs_put, ↓Pt.gs_putZ, ↓Pt.gt_map, ↓Pt.gs_ret, ↓Pt.gs_drop, ↓Pt.gs_if, ↓Pt.gs_bind, ↓Pt.gs_par, ↓Pt.gs_par3, ↓Pt.gs_for, ↓Pt.fg_nx, ↓Pt.fg_ct, ↓Pt.fg_bk, ↓Pt.fg_rt, ↓Pt.gs_frz, ↓Pt.fe_s, ↓Pt.fe_l, ↓Pt.fe_k, ↓Pt.fe_t, ↓Pt.fe_d, ↓Pt.gs_apd, ↓Pt.gs_putT, ↓Pt.gs_srcPut, ↓Pt.ox_add, ↓Pt.ox_addL, ↓Pt.ox_addT, ↓Pt.ox_sub, ↓Pt.ox_mul, ↓Pt.ox_div, ↓Pt.ox_mod, ↓Pt.ox_neg, ↓Pt.ox_lt, ↓Pt.ox_le, ↓Pt.ox_gt, ↓Pt.ox_ge, ↓Pt.ox_eq, ↓Pt.ox_ne, ↓Pt.ox_eqS, ↓Pt.ox_neS, ↓Pt.ox_eqL, ↓Pt.ox_neL, ↓Pt.ox_eqT, ↓Pt.ox_neT, ↓Pt.ox_ix0, ↓Pt.ox_ix1, ↓Pt.ox_ix2, ↓Pt.ox_ix3, ↓Pt.ox_ixT0, ↓Pt.ox_ixT1, ↓Pt.ox_ixT2, ↓Pt.ox_ixT3, ↓Pt.ox_pow20, ↓Pt.ox_lenL, ↓Pt.ox_lenT, ↓Pt.ox_int, ↓Pt.ox_abs, ↓Pt.ox_max, ↓Pt.ox_min, ↓Pt.ox_tup, ↓Pt.ox_tupT, ↓Pt.ox_list, ↓Pt.ox_listT, ↓Pt.ox_repr, rk, true_and, Int.toNat_natCast]
  refine Pt.gs_goI (fun i e s => ∃ (m : M4) (x y : Sl), e = [.src, .d (.int ((4 : Nat) : Int)), .d m.D, x, y] ∧ m.det = 1 ∧ m.le (3 ^ i)) _ 0 _ _ ⟨M4.one, _, _, rfl, rfl, by refine ⟨?_, ?_, ?_, ?_⟩ <;> decide⟩ (fun i x e s1 hx hI => ?_) fun e s1 hI => ?_
  · obtain ⟨m, x1, y1, rfl, hd, hl⟩ := hI
    rw [Nat.zero_add] at hl ⊢
    have i5 : i < 5 := by have := (rng_at hx).1; omega
    have big : ∀ n : M4, n.le 2 → sm n := fun n h => M4.le_mono h (by decide)
    simp -implicitDefEqProofs (disch := (first | omega | assumption | rfl | decide | simp)) only [↓Pt.gt_ok, ↓Pt.gt_bind, ↓Pt.gt_lift, ↓Pt.at_0, ↓Pt.at_s, ↓Pt.nt_0, ↓Pt.nt_s, ↓Pt.vd_d, ↓Pt.vd_h, ↓Pt.vo_l, ↓Pt.vo_k, ↓Pt.vo_t, ↓Pt.vl_l, ↓Pt.vs_s, ↓Pt.pu_0, ↓Pt.pu_s, ↓Pt.wi_0, ↓Pt.wi_s, ↓Pt.bp_n, ↓Pt.bp_t, ↓Pt.bp_l, ↓Pt.bps_0, ↓Pt.bps_s, ↓Pt.bo_t, ↓Pt.bo_f, ↓Pt.bo_not, ↓Pt.gt_var, ↓Pt.gt_own, ↓Pt.gt_c, ↓Pt.gt_bin, ↓Pt.gt_un, ↓Pt.gt_tst, ↓Pt.gt_andT, ↓Pt.gt_orT, ↓Pt.gt_notT, ↓Pt.gt_and, ↓Pt.gt_or, ↓Pt.gt_not, ↓Pt.gt_if, ↓Pt.gt_chain, ↓Pt.gt_nil, ↓Pt.gt_cons, ↓Pt.gt_consA, ↓Pt.gt_consS, ↓Pt.gt_tup, ↓Pt.gt_lst, ↓Pt.gt_fz, ↓Pt.gt_fzD, ↓Pt.gt_call, ↓Pt.gt_callL, ↓Pt.gt_callK, ↓Pt.gt_app, ↓Pt.gt_sl, ↓Pt.gt_none, ↓Pt.gt_some, ↓Pt.ls_l, ↓Pt.gt_rev, ↓Pt.gt_sq, ↓Pt.ox_some, ↓Pt.seq_l, ↓Pt.seq_t, ↓Pt.tst_b, ↓Pt.intD_i, ↓Pt.z1_i, ↓Pt.z2_i, ↓Pt.gt_rg1, ↓Pt.gt_rg1J, ↓Pt.gt_rg2, ↓Pt.gt_srcI, ↓Pt.gt_srcLen, ↓Pt.gt_lc, ↓Pt.gt_yes, ↓Pt.gl_nil, ↓Pt.gl_cons, ↓Pt.gl_ok, ↓Pt.vh_h, ↓Pt.vt_t, ↓Pt.gt_ht, ↓Pt.gt_tupL, ↓Pt.lst_l, ↓Pt.gt_newD, ↓Pt.tag_t, ↓Pt.gt_get2T, ↓Pt.key_3, ↓Pt.zp_l, ↓Pt.zp_t, ↓Pt.gt_zip, ↓Pt.pair_0, ↓Pt.pair_s, ↓Pt.gs_seq, ↓Pt.sq_rt, ↓Pt.sq_bk, ↓Pt.sq_ct, ↓Pt.sq_ex, ↓Pt.gs_skip, ↓Pt.gs_brk, ↓Pt.gs_cnt, ↓Pt.gs_nx, ↓Pt.gs_put, ↓Pt.gs_putZ, ↓Pt.gt_map, ↓Pt.gs_ret, ↓Pt.gs_drop, ↓Pt.gs_if, ↓Pt.gs_bind, ↓Pt.gs_par, ↓Pt.gs_par3, ↓Pt.gs_for, ↓Pt.fg_nx, ↓Pt.fg_ct, ↓Pt.fg_bk, ↓Pt.fg_rt, ↓Pt.gs_frz, ↓Pt.fe_s, ↓Pt.fe_l, ↓Pt.fe_k, ↓Pt.fe_t, ↓Pt.fe_d, ↓Pt.gs_apd, ↓Pt.gs_putT, ↓Pt.gs_srcPut, ↓Pt.ox_add, ↓Pt.ox_addL, ↓Pt.ox_addT, ↓Pt.ox_sub, ↓Pt.ox_mul, ↓Pt.ox_div, ↓Pt.ox_mod, ↓Pt.ox_neg, ↓Pt.ox_lt, ↓Pt.ox_le, ↓Pt.ox_gt, ↓Pt.ox_ge, ↓Pt.ox_eq, ↓Pt.ox_ne, ↓Pt.ox_eqS, ↓Pt.ox_neS, ↓Pt.ox_eqL, ↓Pt.ox_neL, ↓Pt.ox_eqT, ↓Pt.ox_neT, ↓Pt.ox_ix0, ↓Pt.ox_ix1, ↓Pt.ox_ix2, ↓Pt.ox_ix3, ↓Pt.ox_ixT0, ↓Pt.ox_ixT1, ↓Pt.ox_ixT2, ↓Pt.ox_ixT3, ↓Pt.ox_pow20, ↓Pt.ox_lenL, ↓Pt.ox_lenT, ↓Pt.ox_int, ↓Pt.ox_abs, ↓Pt.ox_max, ↓Pt.ox_min, ↓Pt.ox_tup, ↓Pt.ox_tupT, ↓Pt.ox_list, ↓Pt.ox_listT, ↓Pt.ox_repr, z3, true_and, e_of, ↓gt_of]
    have mb := of_mem [PyData.int 1, .int (-1), .int 2] s1 rfl
    generalize ofV [PyData.int 1, .int (-1), .int 2] s1 = v at mb ⊢
    generalize ofS [PyData.int 1, .int (-1), .int 2] s1 = s2
    obtain ⟨b, rfl, hb⟩ : ∃ b : Int, v = .int b ∧ b.natAbs ≤ 2 := by
      simp only [List.mem_cons, List.not_mem_nil, or_false] at mb
      rcases mb with rfl | rfl | rfl
      · exact ⟨_, rfl, by decide⟩
      · exact ⟨_, rfl, by decide⟩
      · exact ⟨_, rfl, by decide⟩
    rw [Pt.sq_nx]
    have l1 := big ⟨1, b, 0, 1⟩ ⟨by simp, by simpa using hb, by simp, by simp⟩
    have l2 := big ⟨1, 0, b, 1⟩ ⟨by simp, by simp, by simpa using hb, by simp⟩
    have f1 := fun s => F_ltimes m ⟨1, b, 0, 1⟩ s l1
    have f2 := fun s => F_ltimes m ⟨1, 0, b, 1⟩ s l2
    unfold M4.D at f1 f2
    simp -implicitDefEqProofs (disch := (first | omega | assumption | rfl | decide | simp)) only [↓Pt.gt_ok, ↓Pt.gt_bind, ↓Pt.gt_lift, ↓Pt.at_0, ↓Pt.at_s, ↓Pt.nt_0, ↓Pt.nt_s, ↓Pt.vd_d, ↓Pt.vd_h, ↓Pt.vo_l, ↓Pt.vo_k, ↓Pt.vo_t, ↓Pt.vl_l, ↓Pt.vs_s, ↓Pt.pu_0, ↓Pt.pu_s, ↓Pt.wi_0, ↓Pt.wi_s, ↓Pt.bp_n, ↓Pt.bp_t, ↓Pt.bp_l, ↓Pt.bps_0, ↓Pt.bps_s, ↓Pt.bo_t, ↓Pt.bo_f, ↓Pt.bo_not, ↓Pt.gt_var, ↓Pt.gt_own, ↓Pt.gt_c, ↓Pt.gt_bin, ↓Pt.gt_un, ↓Pt.gt_tst, ↓Pt.gt_andT, ↓Pt.gt_orT, ↓Pt.gt_notT, ↓Pt.gt_and, ↓Pt.gt_or, ↓Pt.gt_not, ↓Pt.gt_if, ↓Pt.gt_chain, ↓Pt.gt_nil, ↓Pt.gt_cons, ↓Pt.gt_consA, ↓Pt.gt_consS, ↓Pt.gt_tup, ↓Pt.gt_lst, ↓Pt.gt_fz, ↓Pt.gt_fzD, ↓Pt.gt_call, ↓Pt.gt_callL, ↓Pt.gt_callK, ↓Pt.gt_app, ↓Pt.gt_sl, ↓Pt.gt_none, ↓Pt.gt_some, ↓Pt.ls_l, ↓Pt.gt_rev, ↓Pt.gt_sq, ↓Pt.ox_some, ↓Pt.seq_l, ↓Pt.seq_t, ↓Pt.tst_b, ↓Pt.intD_i, ↓Pt.z1_i, ↓Pt.z2_i, ↓Pt.gt_rg1, ↓Pt.gt_rg1J, ↓Pt.gt_rg2, ↓Pt.gt_srcI, ↓Pt.gt_srcLen, ↓Pt.gt_lc, ↓Pt.gt_yes, ↓Pt.gl_nil, ↓Pt.gl_cons, ↓Pt.gl_ok, ↓Pt.vh_h, ↓Pt.vt_t, ↓Pt.gt_ht, ↓Pt.gt_tupL, ↓Pt.lst_l, ↓Pt.gt_newD, ↓Pt.tag_t, ↓Pt.gt_get2T, ↓Pt.key_3, ↓Pt.zp_l, ↓Pt.zp_t, ↓Pt.gt_zip, ↓Pt.pair_0, ↓Pt.pair_s, ↓Pt.gs_seq, ↓Pt.sq_rt, ↓Pt.sq_bk, ↓Pt.sq_ct, ↓Pt.sq_ex, ↓Pt.gs_skip, ↓Pt.gs_brk, ↓Pt.gs_cnt, ↓Pt.gs_nx, ↓Pt.gs_put, ↓Pt.gs_putZ, ↓Pt.gt_map, ↓Pt.gs_ret, ↓Pt.gs_drop, ↓Pt.gs_if, ↓Pt.gs_bind, ↓Pt.gs_par, ↓Pt.gs_par3, ↓Pt.gs_for, ↓Pt.fg_nx, ↓Pt.fg_ct, ↓Pt.fg_bk, ↓Pt.fg_rt, ↓Pt.gs_frz, ↓Pt.fe_s, ↓Pt.fe_l, ↓Pt.fe_k, ↓Pt.fe_t, ↓Pt.fe_d, ↓Pt.gs_apd, ↓Pt.gs_putT, ↓Pt.gs_srcPut, ↓Pt.ox_add, ↓Pt.ox_addL, ↓Pt.ox_addT, ↓Pt.ox_sub, ↓Pt.ox_mul, ↓Pt.ox_div, ↓Pt.ox_mod, ↓Pt.ox_neg, ↓Pt.ox_lt, ↓Pt.ox_le, ↓Pt.ox_gt, ↓Pt.ox_ge, ↓Pt.ox_eq, ↓Pt.ox_ne, ↓Pt.ox_eqS, ↓Pt.ox_neS, ↓Pt.ox_eqL, ↓Pt.ox_neL, ↓Pt.ox_eqT, ↓Pt.ox_neT, ↓Pt.ox_ix0, ↓Pt.ox_ix1, ↓Pt.ox_ix2, ↓Pt.ox_ix3, ↓Pt.ox_ixT0, ↓Pt.ox_ixT1, ↓Pt.ox_ixT2, ↓Pt.ox_ixT3, ↓Pt.ox_pow20, ↓Pt.ox_lenL, ↓Pt.ox_lenT, ↓Pt.ox_int, ↓Pt.ox_abs, ↓Pt.ox_max, ↓Pt.ox_min, ↓Pt.ox_tup, ↓Pt.ox_tupT, ↓Pt.ox_list, ↓Pt.ox_listT, ↓Pt.ox_repr, sz4, true_and, e_pick, ↓gt_pick]
    obtain ⟨h1, h2, h3, h4⟩ := hl
    have ab : ∀ x y : Int, x.natAbs ≤ 3 ^ i → y.natAbs ≤ 3 ^ i → (x * b + y).natAbs ≤ 3 ^ (i + 1) := fun x y hx hy => by
      have := mul_le' hx hb
      have : 3 ^ (i + 1) = 3 * 3 ^ i := by rw [Nat.pow_succ, Nat.mul_comm]
      omega
    have up : ∀ x : Int, x.natAbs ≤ 3 ^ i → x.natAbs ≤ 3 ^ (i + 1) := fun x hx => by
      have : 3 ^ (i + 1) = 3 * 3 ^ i := by rw [Nat.pow_succ, Nat.mul_comm]
      omega
    refine bo_mk (fun _ => ?_) fun _ => ?_
    · unfold M4.D
      rw [Pt.gt_eq (f1 _)]
      refine ⟨m.mul ⟨1, b, 0, 1⟩, _, _, rfl, by rw [M4.det_mul, hd]; simp [M4.det], ?_⟩
      simp only [M4.mul, M4.le]
      refine ⟨?_, ?_, ?_, ?_⟩
      · simpa using up _ h1
      · simpa using ab _ _ h1 h2
      · simpa using up _ h3
      · simpa using ab _ _ h3 h4
    · unfold M4.D
      rw [Pt.gt_eq (f2 _)]
      refine ⟨m.mul ⟨1, 0, b, 1⟩, _, _, rfl, by rw [M4.det_mul, hd]; simp [M4.det], ?_⟩
      simp only [M4.mul, M4.le]
      refine ⟨?_, ?_, ?_, ?_⟩
      · have := ab _ _ h2 h1; rw [Int.add_comm] at this; simpa using this
      · simpa using up _ h2
      · have := ab _ _ h4 h3; rw [Int.add_comm] at this; simpa using this
      · simpa using up _ h4
  · obtain ⟨m, x1, y1, rfl, hd, hl⟩ := hI
    rw [rangeL_len, Nat.zero_add] at hl
    simp -implicitDefEqProofs (disch := (first | omega | assumption | exact Pt.mul_r (by omega) (by omega) | exact Pt.mul_l (by omega) (by omega) | exact ml _ _ | decide)) only [↓Pt.gt_ok, ↓Pt.gt_bind, ↓Pt.gt_lift, ↓Pt.at_0, ↓Pt.at_s, ↓Pt.nt_0, ↓Pt.nt_s, ↓Pt.vd_d, ↓Pt.vd_h, ↓Pt.vo_l, ↓Pt.vo_k, ↓Pt.vo_t, ↓Pt.vl_l, ↓Pt.vs_s, ↓Pt.pu_0, ↓Pt.pu_s, ↓Pt.wi_0, ↓Pt.wi_s, ↓Pt.bp_n, ↓Pt.bp_t, ↓Pt.bp_l, ↓Pt.bps_0, ↓Pt.bps_s, ↓Pt.bo_t, ↓Pt.bo_f, ↓Pt.bo_not, ↓Pt.gt_var, ↓Pt.gt_own, ↓Pt.gt_c, ↓Pt.gt_bin, ↓Pt.gt_un, ↓Pt.gt_tst, ↓Pt.gt_andT, ↓Pt.gt_orT, ↓Pt.gt_notT, ↓Pt.gt_and, ↓Pt.gt_or, ↓Pt.gt_not, ↓Pt.gt_if, ↓Pt.gt_chain, ↓Pt.gt_nil, ↓Pt.gt_cons, ↓Pt.gt_consA, ↓Pt.gt_consS, ↓Pt.gt_tup, ↓Pt.gt_lst, ↓Pt.gt_fz, ↓Pt.gt_fzD, ↓Pt.gt_call, ↓Pt.gt_callL, ↓Pt.gt_callK, ↓Pt.gt_app, ↓Pt.gt_sl, ↓Pt.gt_none, ↓Pt.gt_some, ↓Pt.ls_l, ↓Pt.gt_rev, ↓Pt.gt_sq, ↓Pt.ox_some, ↓Pt.seq_l, ↓Pt.seq_t, ↓Pt.tst_b, ↓Pt.intD_i, ↓Pt.z1_i, ↓Pt.z2_i, ↓Pt.gt_rg1, ↓Pt.gt_rg1J, ↓Pt.gt_rg2, ↓Pt.gt_srcI, ↓Pt.gt_srcLen, ↓Pt.gt_lc, ↓Pt.gt_yes, ↓Pt.gl_nil, ↓Pt.gl_cons, ↓Pt.gl_ok, ↓Pt.vh_h, ↓Pt.vt_t, ↓Pt.gt_ht, ↓Pt.gt_tupL, ↓Pt.lst_l, ↓Pt.gt_newD, ↓Pt.tag_t, ↓Pt.gt_get2T, ↓Pt.key_3, ↓Pt.zp_l, ↓Pt.zp_t, ↓Pt.gt_zip, ↓Pt.pair_0, ↓Pt.pair_s, ↓Pt.gs_seq, ↓Pt.sq_nx, ↓Pt.sq_rt, ↓Pt.sq_bk, ↓Pt.sq_ct, ↓Pt.sq_ex, ↓Pt.gs_skip, ↓Pt.gs_brk, ↓Pt.gs_cnt, ↓Pt.gs_nx, ↓Pt.gs_put, ↓Pt.gs_putZ, ↓Pt.gt_map, ↓Pt.gs_ret, ↓Pt.gs_drop, ↓Pt.gs_if, ↓Pt.gs_bind, ↓Pt.gs_par, ↓Pt.gs_par3, ↓Pt.gs_for, ↓Pt.fg_nx, ↓Pt.fg_ct, ↓Pt.fg_bk, ↓Pt.fg_rt, ↓Pt.gs_frz, ↓Pt.fe_s, ↓Pt.fe_l, ↓Pt.fe_k, ↓Pt.fe_t, ↓Pt.fe_d, ↓Pt.gs_apd, ↓Pt.gs_putT, ↓Pt.gs_srcPut, ↓Pt.ox_add, ↓Pt.ox_addL, ↓Pt.ox_addT, ↓Pt.ox_sub, ↓Pt.ox_mul, ↓Pt.ox_div, ↓Pt.ox_mod, ↓Pt.ox_neg, ↓Pt.ox_lt, ↓Pt.ox_le, ↓Pt.ox_gt, ↓Pt.ox_ge, ↓Pt.ox_eq, ↓Pt.ox_ne, ↓Pt.ox_eqS, ↓Pt.ox_neS, ↓Pt.ox_eqL, ↓Pt.ox_neL, ↓Pt.ox_eqT, ↓Pt.ox_neT, ↓Pt.ox_ix0, ↓Pt.ox_ix1, ↓Pt.ox_ix2, ↓Pt.ox_ix3, ↓Pt.ox_ixT0, ↓Pt.ox_ixT1, ↓Pt.ox_ixT2, ↓Pt.ox_ixT3, ↓Pt.ox_pow20, ↓Pt.ox_lenL, ↓Pt.ox_lenT, ↓Pt.ox_int, ↓Pt.ox_abs, ↓Pt.ox_max, ↓Pt.ox_min, ↓Pt.ox_tup, ↓Pt.ox_tupT, ↓Pt.ox_list, ↓Pt.ox_listT, ↓Pt.ox_repr]
    exact ⟨_, _, rfl, m, rfl, hd, hl⟩

def okM (m : M4) : Prop := m.det = 1 ∧ m.le 2125764
theorem sg_mem (s : Src) : ∃ a : Int, ofV [PyData.int 1, .int 1, .int (-1)] s = .int a ∧ (a = 1 ∨ a = -1) := by
  have m := of_mem [PyData.int 1, .int 1, .int (-1)] s rfl
  simp only [List.mem_cons, List.not_mem_nil, or_false] at m
  rcases m with m | m | m
  · exact ⟨1, m, .inl rfl⟩
  · exact ⟨1, m, .inl rfl⟩
  · exact ⟨-1, m, .inr rfl⟩
theorem F_pair (s : Src) : Gt (F_law_pair [.src] s) (fun d _ => ∃ m n : M4, d = .list [m.D, n.D] ∧ okM m ∧ okM n) F0 := by
  refine run_gt (e0 := [.src, .un, .un, .un, .un, .un, .un, .un, .un, .un, .un]) ?_
  have z2 : ∀ a b : Pt.D, szB [a, b].length = true := fun _ _ => rfl
  have z3 : ∀ a b c : Pt.D, szB [a, b, c].length = true := fun _ _ _ => rfl
  have z0 : szB ([] : List Pt.D).length = true := rfl
  have r2 : (szB (2 : Int).toNat && rgB 2) = true := by decide
  have rg2 : rangeL 0 1 (2 : Int).toNat = [.int 0, .int 1] := rfl
  unfold m_law_pair
  rw [Pt.gs_seq]
  simp -implicitDefEqProofs (disch := (first | omega | assumption | exact Pt.mul_r (by omega) (by omega) | exact Pt.mul_l (by omega) (by omega) | exact ml _ _ | decide)) only [↓Pt.gt_ok, ↓Pt.gt_bind, ↓Pt.gt_lift, ↓Pt.at_0, ↓Pt.at_s, ↓Pt.nt_0, ↓Pt.nt_s, ↓Pt.vd_d, ↓Pt.vd_h, ↓Pt.vo_l, ↓Pt.vo_k, ↓Pt.vo_t, ↓Pt.vl_l, ↓Pt.vs_s, ↓Pt.pu_0, ↓Pt.pu_s, ↓Pt.wi_0, ↓Pt.wi_s, ↓Pt.bp_n, ↓Pt.bp_t, ↓Pt.bp_l, ↓Pt.bps_0, ↓Pt.bps_s, ↓Pt.bo_t, ↓Pt.bo_f, ↓Pt.bo_not, ↓Pt.gt_var, ↓Pt.gt_own, ↓Pt.gt_c, ↓Pt.gt_bin, ↓Pt.gt_un, ↓Pt.gt_tst, ↓Pt.gt_andT, ↓Pt.gt_orT, ↓Pt.gt_notT, ↓Pt.gt_and, ↓Pt.gt_or, ↓Pt.gt_not, ↓Pt.gt_if, ↓Pt.gt_chain, ↓Pt.gt_nil, ↓Pt.gt_cons, ↓Pt.gt_consA, ↓Pt.gt_consS, ↓Pt.gt_tup, ↓Pt.gt_lst, ↓Pt.gt_fz, ↓Pt.gt_fzD, ↓Pt.gt_call, ↓Pt.gt_callL, ↓Pt.gt_callK, ↓Pt.gt_app, ↓Pt.gt_sl, ↓Pt.gt_none, ↓Pt.gt_some, ↓Pt.ls_l, ↓Pt.gt_rev, ↓Pt.gt_sq, ↓Pt.ox_some, ↓Pt.seq_l, ↓Pt.seq_t, ↓Pt.tst_b, ↓Pt.intD_i, ↓Pt.z1_i, ↓Pt.z2_i, ↓Pt.gt_rg1, ↓Pt.gt_rg1J, ↓Pt.gt_rg2, ↓Pt.gt_srcI, ↓Pt.gt_srcLen, ↓Pt.gt_lc, ↓Pt.gt_yes, ↓Pt.gl_nil, ↓Pt.gl_cons, ↓Pt.gl_ok, ↓Pt.vh_h, ↓Pt.vt_t, ↓Pt.gt_ht, ↓Pt.gt_tupL, ↓Pt.lst_l, ↓Pt.gt_newD, ↓Pt.tag_t, ↓Pt.gt_get2T, ↓Pt.key_3, ↓Pt.zp_l, ↓Pt.zp_t, ↓Pt.gt_zip, ↓Pt.pair_0, ↓Pt.pair_s, ↓Pt.gs_seq, ↓Pt.sq_rt, ↓Pt.sq_bk, ↓Pt.sq_ct, ↓Pt.sq_ex, ↓Pt.gs_skip, ↓Pt.gs_brk, ↓Pt.gs_cnt, ↓Pt.gs_nx, ↓Pt.gs_put, ↓Pt.gs_putZ, ↓Pt.gt_map, ↓Pt.gs_ret, ↓Pt.gs_drop, ↓Pt.gs_if, ↓Pt.gs_bind, ↓Pt.gs_par, ↓Pt.gs_par3, ↓Pt.gs_for, ↓Pt.fg_nx, ↓Pt.fg_ct, ↓Pt.fg_bk, ↓Pt.fg_rt, ↓Pt.gs_frz, ↓Pt.fe_s, ↓Pt.fe_l, ↓Pt.fe_k, ↓Pt.fe_t, ↓Pt.fe_d, ↓Pt.gs_apd, ↓Pt.gs_putT, ↓Pt.gs_srcPut, ↓Pt.ox_add, ↓Pt.ox_addL, ↓Pt.ox_addT, ↓Pt.ox_sub, ↓Pt.ox_mul, ↓Pt.ox_div, ↓Pt.ox_mod, ↓Pt.ox_neg, ↓Pt.ox_lt, ↓Pt.ox_le, ↓Pt.ox_gt, ↓Pt.ox_ge, ↓Pt.ox_eq, ↓Pt.ox_ne, ↓Pt.ox_eqS, ↓Pt.ox_neS, ↓Pt.ox_eqL, ↓Pt.ox_neL, ↓Pt.ox_eqT, ↓Pt.ox_neT, ↓Pt.ox_ix0, ↓Pt.ox_ix1, ↓Pt.ox_ix2, ↓Pt.ox_ix3, ↓Pt.ox_ixT0, ↓Pt.ox_ixT1, ↓Pt.ox_ixT2, ↓Pt.ox_ixT3, ↓Pt.ox_pow20, ↓Pt.ox_lenL, ↓Pt.ox_lenT, ↓Pt.ox_int, ↓Pt.ox_abs, ↓Pt.ox_max, ↓Pt.ox_min, ↓Pt.ox_tup, ↓Pt.ox_tupT, ↓Pt.ox_list, ↓Pt.ox_listT, ↓Pt.ox_repr, e_pick, ↓gt_pick]
  generalize pickV 5 s = w
  generalize pickS 5 s = s1
  have d3 := F_drawn3 s1
  refine gt_use d3 ?_
  rintro _ s2 ⟨l, rfl, ld, ll⟩
  rw [Pt.sq_nx, Pt.gs_seq]
  obtain ⟨a, ha, qa⟩ := sg_mem s2
  obtain ⟨b, hb, qb⟩ := sg_mem (ofS [PyData.int 1, .int 1, .int (-1)] s2)
  simp -implicitDefEqProofs (disch := (first | omega | assumption | rfl | decide | simp)) only [↓Pt.gt_ok, ↓Pt.gt_bind, ↓Pt.gt_lift, ↓Pt.at_0, ↓Pt.at_s, ↓Pt.nt_0, ↓Pt.nt_s, ↓Pt.vd_d, ↓Pt.vd_h, ↓Pt.vo_l, ↓Pt.vo_k, ↓Pt.vo_t, ↓Pt.vl_l, ↓Pt.vs_s, ↓Pt.pu_0, ↓Pt.pu_s, ↓Pt.wi_0, ↓Pt.wi_s, ↓Pt.bp_n, ↓Pt.bp_t, ↓Pt.bp_l, ↓Pt.bps_0, ↓Pt.bps_s, ↓Pt.bo_t, ↓Pt.bo_f, ↓Pt.bo_not, ↓Pt.gt_var, ↓Pt.gt_own, ↓Pt.gt_c, ↓Pt.gt_bin, ↓Pt.gt_un, ↓Pt.gt_tst, ↓Pt.gt_andT, ↓Pt.gt_orT, ↓Pt.gt_notT, ↓Pt.gt_and, ↓Pt.gt_or, ↓Pt.gt_not, ↓Pt.gt_if, ↓Pt.gt_chain, ↓Pt.gt_nil, ↓Pt.gt_cons, ↓Pt.gt_consA, ↓Pt.gt_consS, ↓Pt.gt_tup, ↓Pt.gt_lst, ↓Pt.gt_fz, ↓Pt.gt_fzD, ↓Pt.gt_call, ↓Pt.gt_callL, ↓Pt.gt_callK, ↓Pt.gt_app, ↓Pt.gt_sl, ↓Pt.gt_none, ↓Pt.gt_some, ↓Pt.ls_l, ↓Pt.gt_rev, ↓Pt.gt_sq, ↓Pt.ox_some, ↓Pt.seq_l, ↓Pt.seq_t, ↓Pt.tst_b, ↓Pt.intD_i, ↓Pt.z1_i, ↓Pt.z2_i, ↓Pt.gt_rg1, ↓Pt.gt_rg1J, ↓Pt.gt_rg2, ↓Pt.gt_srcI, ↓Pt.gt_srcLen, ↓Pt.gt_lc, ↓Pt.gt_yes, ↓Pt.gl_nil, ↓Pt.gl_cons, ↓Pt.gl_ok, ↓Pt.vh_h, ↓Pt.vt_t, ↓Pt.gt_ht, ↓Pt.gt_tupL, ↓Pt.lst_l, ↓Pt.gt_newD, ↓Pt.tag_t, ↓Pt.gt_get2T, ↓Pt.key_3, ↓Pt.zp_l, ↓Pt.zp_t, ↓Pt.gt_zip, ↓Pt.pair_0, ↓Pt.pair_s, ↓Pt.gs_seq, ↓Pt.sq_rt, ↓Pt.sq_bk, ↓Pt.sq_ct, ↓Pt.sq_ex, ↓Pt.gs_skip, ↓Pt.gs_brk, ↓Pt.gs_cnt, ↓Pt.gs_nx, ↓Pt.gs_put, ↓Pt.gs_putZ, ↓Pt.gt_map, ↓Pt.gs_ret, ↓Pt.gs_drop, ↓Pt.gs_if, ↓Pt.gs_bind, ↓Pt.gs_par, ↓Pt.gs_par3, ↓Pt.gs_for, ↓Pt.fg_nx, ↓Pt.fg_ct, ↓Pt.fg_bk, ↓Pt.fg_rt, ↓Pt.gs_frz, ↓Pt.fe_s, ↓Pt.fe_l, ↓Pt.fe_k, ↓Pt.fe_t, ↓Pt.fe_d, ↓Pt.gs_apd, ↓Pt.gs_putT, ↓Pt.gs_srcPut, ↓Pt.ox_add, ↓Pt.ox_addL, ↓Pt.ox_addT, ↓Pt.ox_sub, ↓Pt.ox_mul, ↓Pt.ox_div, ↓Pt.ox_mod, ↓Pt.ox_neg, ↓Pt.ox_lt, ↓Pt.ox_le, ↓Pt.ox_gt, ↓Pt.ox_ge, ↓Pt.ox_eq, ↓Pt.ox_ne, ↓Pt.ox_eqS, ↓Pt.ox_neS, ↓Pt.ox_eqL, ↓Pt.ox_neL, ↓Pt.ox_eqT, ↓Pt.ox_neT, ↓Pt.ox_ix0, ↓Pt.ox_ix1, ↓Pt.ox_ix2, ↓Pt.ox_ix3, ↓Pt.ox_ixT0, ↓Pt.ox_ixT1, ↓Pt.ox_ixT2, ↓Pt.ox_ixT3, ↓Pt.ox_pow20, ↓Pt.ox_lenL, ↓Pt.ox_lenT, ↓Pt.ox_int, ↓Pt.ox_abs, ↓Pt.ox_max, ↓Pt.ox_min, ↓Pt.ox_tup, ↓Pt.ox_tupT, ↓Pt.ox_list, ↓Pt.ox_listT, ↓Pt.ox_repr, r2, rg2, z3, true_and, e_of, ↓gt_of, ha, hb]
  generalize ofS [PyData.int 1, .int 1, .int (-1)] (ofS [PyData.int 1, .int 1, .int (-1)] s2) = s3
  have fl := M4.inv_le ll
  have msz : ∀ Ms : List M4, Ms.length ≤ 2 → (Ms.map M4.D).length < 16777216 := fun Ms h => by rw [List.length_map]; omega
  have two : ∀ Ms : List M4, Ms.length = 2 → (∀ m ∈ Ms, okM m) → ∃ m n : M4, Ms.map M4.D = [m.D, n.D] ∧ okM m ∧ okM n := fun Ms h hm => by
    match Ms, h with
    | [m, n], _ => exact ⟨m, n, rfl, hm m (by simp), hm n (by simp)⟩
  rw [Pt.sq_nx, Pt.gs_seq]
  simp -implicitDefEqProofs (disch := (first | omega | assumption | exact Pt.mul_r (by omega) (by omega) | exact Pt.mul_l (by omega) (by omega) | exact ml _ _ | decide)) only [↓Pt.gt_ok, ↓Pt.gt_bind, ↓Pt.gt_lift, ↓Pt.at_0, ↓Pt.at_s, ↓Pt.nt_0, ↓Pt.nt_s, ↓Pt.vd_d, ↓Pt.vd_h, ↓Pt.vo_l, ↓Pt.vo_k, ↓Pt.vo_t, ↓Pt.vl_l, ↓Pt.vs_s, ↓Pt.pu_0, ↓Pt.pu_s, ↓Pt.wi_0, ↓Pt.wi_s, ↓Pt.bp_n, ↓Pt.bp_t, ↓Pt.bp_l, ↓Pt.bps_0, ↓Pt.bps_s, ↓Pt.bo_t, ↓Pt.bo_f, ↓Pt.bo_not, ↓Pt.gt_var, ↓Pt.gt_own, ↓Pt.gt_c, ↓Pt.gt_bin, ↓Pt.gt_un, ↓Pt.gt_tst, ↓Pt.gt_andT, ↓Pt.gt_orT, ↓Pt.gt_notT, ↓Pt.gt_and, ↓Pt.gt_or, ↓Pt.gt_not, ↓Pt.gt_if, ↓Pt.gt_chain, ↓Pt.gt_nil, ↓Pt.gt_cons, ↓Pt.gt_consA, ↓Pt.gt_consS, ↓Pt.gt_tup, ↓Pt.gt_lst, ↓Pt.gt_fz, ↓Pt.gt_fzD, ↓Pt.gt_call, ↓Pt.gt_callL, ↓Pt.gt_callK, ↓Pt.gt_app, ↓Pt.gt_sl, ↓Pt.gt_none, ↓Pt.gt_some, ↓Pt.ls_l, ↓Pt.gt_rev, ↓Pt.gt_sq, ↓Pt.ox_some, ↓Pt.seq_l, ↓Pt.seq_t, ↓Pt.tst_b, ↓Pt.intD_i, ↓Pt.z1_i, ↓Pt.z2_i, ↓Pt.gt_rg1, ↓Pt.gt_rg1J, ↓Pt.gt_rg2, ↓Pt.gt_srcI, ↓Pt.gt_srcLen, ↓Pt.gt_lc, ↓Pt.gt_yes, ↓Pt.gl_nil, ↓Pt.gl_cons, ↓Pt.gl_ok, ↓Pt.vh_h, ↓Pt.vt_t, ↓Pt.gt_ht, ↓Pt.gt_tupL, ↓Pt.lst_l, ↓Pt.gt_newD, ↓Pt.tag_t, ↓Pt.gt_get2T, ↓Pt.key_3, ↓Pt.zp_l, ↓Pt.zp_t, ↓Pt.gt_zip, ↓Pt.pair_0, ↓Pt.pair_s, ↓Pt.gs_seq, ↓Pt.sq_rt, ↓Pt.sq_bk, ↓Pt.sq_ct, ↓Pt.sq_ex, ↓Pt.gs_skip, ↓Pt.gs_brk, ↓Pt.gs_cnt, ↓Pt.gs_nx, ↓Pt.gs_put, ↓Pt.gs_putZ, ↓Pt.gt_map, ↓Pt.gs_ret, ↓Pt.gs_drop, ↓Pt.gs_if, ↓Pt.gs_bind, ↓Pt.gs_par, ↓Pt.gs_par3, ↓Pt.gs_for, ↓Pt.fg_nx, ↓Pt.fg_ct, ↓Pt.fg_bk, ↓Pt.fg_rt, ↓Pt.gs_frz, ↓Pt.fe_s, ↓Pt.fe_l, ↓Pt.fe_k, ↓Pt.fe_t, ↓Pt.fe_d, ↓Pt.gs_apd, ↓Pt.gs_putT, ↓Pt.gs_srcPut, ↓Pt.ox_add, ↓Pt.ox_addL, ↓Pt.ox_addT, ↓Pt.ox_sub, ↓Pt.ox_mul, ↓Pt.ox_div, ↓Pt.ox_mod, ↓Pt.ox_neg, ↓Pt.ox_lt, ↓Pt.ox_le, ↓Pt.ox_gt, ↓Pt.ox_ge, ↓Pt.ox_eq, ↓Pt.ox_ne, ↓Pt.ox_eqS, ↓Pt.ox_neS, ↓Pt.ox_eqL, ↓Pt.ox_neL, ↓Pt.ox_eqT, ↓Pt.ox_neT, ↓Pt.ox_ix0, ↓Pt.ox_ix1, ↓Pt.ox_ix2, ↓Pt.ox_ix3, ↓Pt.ox_ixT0, ↓Pt.ox_ixT1, ↓Pt.ox_ixT2, ↓Pt.ox_ixT3, ↓Pt.ox_pow20, ↓Pt.ox_lenL, ↓Pt.ox_lenT, ↓Pt.ox_int, ↓Pt.ox_abs, ↓Pt.ox_max, ↓Pt.ox_min, ↓Pt.ox_tup, ↓Pt.ox_tupT, ↓Pt.ox_list, ↓Pt.ox_listT, ↓Pt.ox_repr]
  refine bo_mk (fun cw => ?_) fun cw => ?_
  · simp -implicitDefEqProofs (disch := (first | omega | assumption | exact Pt.mul_r (by omega) (by omega) | exact Pt.mul_l (by omega) (by omega) | exact ml _ _ | decide)) only [↓Pt.gt_ok, ↓Pt.gt_bind, ↓Pt.gt_lift, ↓Pt.at_0, ↓Pt.at_s, ↓Pt.nt_0, ↓Pt.nt_s, ↓Pt.vd_d, ↓Pt.vd_h, ↓Pt.vo_l, ↓Pt.vo_k, ↓Pt.vo_t, ↓Pt.vl_l, ↓Pt.vs_s, ↓Pt.pu_0, ↓Pt.pu_s, ↓Pt.wi_0, ↓Pt.wi_s, ↓Pt.bp_n, ↓Pt.bp_t, ↓Pt.bp_l, ↓Pt.bps_0, ↓Pt.bps_s, ↓Pt.bo_t, ↓Pt.bo_f, ↓Pt.bo_not, ↓Pt.gt_var, ↓Pt.gt_own, ↓Pt.gt_c, ↓Pt.gt_bin, ↓Pt.gt_un, ↓Pt.gt_tst, ↓Pt.gt_andT, ↓Pt.gt_orT, ↓Pt.gt_notT, ↓Pt.gt_and, ↓Pt.gt_or, ↓Pt.gt_not, ↓Pt.gt_if, ↓Pt.gt_chain, ↓Pt.gt_nil, ↓Pt.gt_cons, ↓Pt.gt_consA, ↓Pt.gt_consS, ↓Pt.gt_tup, ↓Pt.gt_lst, ↓Pt.gt_fz, ↓Pt.gt_fzD, ↓Pt.gt_call, ↓Pt.gt_callL, ↓Pt.gt_callK, ↓Pt.gt_app, ↓Pt.gt_sl, ↓Pt.gt_none, ↓Pt.gt_some, ↓Pt.ls_l, ↓Pt.gt_rev, ↓Pt.gt_sq, ↓Pt.ox_some, ↓Pt.seq_l, ↓Pt.seq_t, ↓Pt.tst_b, ↓Pt.intD_i, ↓Pt.z1_i, ↓Pt.z2_i, ↓Pt.gt_rg1, ↓Pt.gt_rg1J, ↓Pt.gt_rg2, ↓Pt.gt_srcI, ↓Pt.gt_srcLen, ↓Pt.gt_lc, ↓Pt.gt_yes, ↓Pt.gl_nil, ↓Pt.gl_cons, ↓Pt.gl_ok, ↓Pt.vh_h, ↓Pt.vt_t, ↓Pt.gt_ht, ↓Pt.gt_tupL, ↓Pt.lst_l, ↓Pt.gt_newD, ↓Pt.tag_t, ↓Pt.gt_get2T, ↓Pt.key_3, ↓Pt.zp_l, ↓Pt.zp_t, ↓Pt.gt_zip, ↓Pt.pair_0, ↓Pt.pair_s, ↓Pt.gs_seq, ↓Pt.sq_rt, ↓Pt.sq_bk, ↓Pt.sq_ct, ↓Pt.sq_ex, ↓Pt.gs_skip, ↓Pt.gs_brk, ↓Pt.gs_cnt, ↓Pt.gs_nx, ↓Pt.gs_put, ↓Pt.gs_putZ, ↓Pt.gt_map, ↓Pt.gs_ret, ↓Pt.gs_drop, ↓Pt.gs_if, ↓Pt.gs_bind, ↓Pt.gs_par, ↓Pt.gs_par3, ↓Pt.gs_for, ↓Pt.fg_nx, ↓Pt.fg_ct, ↓Pt.fg_bk, ↓Pt.fg_rt, ↓Pt.gs_frz, ↓Pt.fe_s, ↓Pt.fe_l, ↓Pt.fe_k, ↓Pt.fe_t, ↓Pt.fe_d, ↓Pt.gs_apd, ↓Pt.gs_putT, ↓Pt.gs_srcPut, ↓Pt.ox_add, ↓Pt.ox_addL, ↓Pt.ox_addT, ↓Pt.ox_sub, ↓Pt.ox_mul, ↓Pt.ox_div, ↓Pt.ox_mod, ↓Pt.ox_neg, ↓Pt.ox_lt, ↓Pt.ox_le, ↓Pt.ox_gt, ↓Pt.ox_ge, ↓Pt.ox_eq, ↓Pt.ox_ne, ↓Pt.ox_eqS, ↓Pt.ox_neS, ↓Pt.ox_eqL, ↓Pt.ox_neL, ↓Pt.ox_eqT, ↓Pt.ox_neT, ↓Pt.ox_ix0, ↓Pt.ox_ix1, ↓Pt.ox_ix2, ↓Pt.ox_ix3, ↓Pt.ox_ixT0, ↓Pt.ox_ixT1, ↓Pt.ox_ixT2, ↓Pt.ox_ixT3, ↓Pt.ox_pow20, ↓Pt.ox_lenL, ↓Pt.ox_lenT, ↓Pt.ox_int, ↓Pt.ox_abs, ↓Pt.ox_max, ↓Pt.ox_min, ↓Pt.ox_tup, ↓Pt.ox_tupT, ↓Pt.ox_list, ↓Pt.ox_listT, ↓Pt.ox_repr, z0, true_and]
    rw [Pt.sq_nx, Pt.gs_seq]
    simp -implicitDefEqProofs (disch := (first | omega | assumption | exact Pt.mul_r (by omega) (by omega) | exact Pt.mul_l (by omega) (by omega) | exact ml _ _ | decide)) only [↓Pt.gt_ok, ↓Pt.gt_bind, ↓Pt.gt_lift, ↓Pt.at_0, ↓Pt.at_s, ↓Pt.nt_0, ↓Pt.nt_s, ↓Pt.vd_d, ↓Pt.vd_h, ↓Pt.vo_l, ↓Pt.vo_k, ↓Pt.vo_t, ↓Pt.vl_l, ↓Pt.vs_s, ↓Pt.pu_0, ↓Pt.pu_s, ↓Pt.wi_0, ↓Pt.wi_s, ↓Pt.bp_n, ↓Pt.bp_t, ↓Pt.bp_l, ↓Pt.bps_0, ↓Pt.bps_s, ↓Pt.bo_t, ↓Pt.bo_f, ↓Pt.bo_not, ↓Pt.gt_var, ↓Pt.gt_own, ↓Pt.gt_c, ↓Pt.gt_bin, ↓Pt.gt_un, ↓Pt.gt_tst, ↓Pt.gt_andT, ↓Pt.gt_orT, ↓Pt.gt_notT, ↓Pt.gt_and, ↓Pt.gt_or, ↓Pt.gt_not, ↓Pt.gt_if, ↓Pt.gt_chain, ↓Pt.gt_nil, ↓Pt.gt_cons, ↓Pt.gt_consA, ↓Pt.gt_consS, ↓Pt.gt_tup, ↓Pt.gt_lst, ↓Pt.gt_fz, ↓Pt.gt_fzD, ↓Pt.gt_call, ↓Pt.gt_callL, ↓Pt.gt_callK, ↓Pt.gt_app, ↓Pt.gt_sl, ↓Pt.gt_none, ↓Pt.gt_some, ↓Pt.ls_l, ↓Pt.gt_rev, ↓Pt.gt_sq, ↓Pt.ox_some, ↓Pt.seq_l, ↓Pt.seq_t, ↓Pt.tst_b, ↓Pt.intD_i, ↓Pt.z1_i, ↓Pt.z2_i, ↓Pt.gt_rg1, ↓Pt.gt_rg1J, ↓Pt.gt_rg2, ↓Pt.gt_srcI, ↓Pt.gt_srcLen, ↓Pt.gt_lc, ↓Pt.gt_yes, ↓Pt.gl_nil, ↓Pt.gl_cons, ↓Pt.gl_ok, ↓Pt.vh_h, ↓Pt.vt_t, ↓Pt.gt_ht, ↓Pt.gt_tupL, ↓Pt.lst_l, ↓Pt.gt_newD, ↓Pt.tag_t, ↓Pt.gt_get2T, ↓Pt.key_3, ↓Pt.zp_l, ↓Pt.zp_t, ↓Pt.gt_zip, ↓Pt.pair_0, ↓Pt.pair_s, ↓Pt.gs_seq, ↓Pt.sq_rt, ↓Pt.sq_bk, ↓Pt.sq_ct, ↓Pt.sq_ex, ↓Pt.gs_skip, ↓Pt.gs_brk, ↓Pt.gs_cnt, ↓Pt.gs_nx, ↓Pt.gs_put, ↓Pt.gs_putZ, ↓Pt.gt_map, ↓Pt.gs_ret, ↓Pt.gs_drop, ↓Pt.gs_if, ↓Pt.gs_bind, ↓Pt.gs_par, ↓Pt.gs_par3, ↓Pt.gs_for, ↓Pt.fg_nx, ↓Pt.fg_ct, ↓Pt.fg_bk, ↓Pt.fg_rt, ↓Pt.gs_frz, ↓Pt.fe_s, ↓Pt.fe_l, ↓Pt.fe_k, ↓Pt.fe_t, ↓Pt.fe_d, ↓Pt.gs_apd, ↓Pt.gs_putT, ↓Pt.gs_srcPut, ↓Pt.ox_add, ↓Pt.ox_addL, ↓Pt.ox_addT, ↓Pt.ox_sub, ↓Pt.ox_mul, ↓Pt.ox_div, ↓Pt.ox_mod, ↓Pt.ox_neg, ↓Pt.ox_lt, ↓Pt.ox_le, ↓Pt.ox_gt, ↓Pt.ox_ge, ↓Pt.ox_eq, ↓Pt.ox_ne, ↓Pt.ox_eqS, ↓Pt.ox_neS, ↓Pt.ox_eqL, ↓Pt.ox_neL, ↓Pt.ox_eqT, ↓Pt.ox_neT, ↓Pt.ox_ix0, ↓Pt.ox_ix1, ↓Pt.ox_ix2, ↓Pt.ox_ix3, ↓Pt.ox_ixT0, ↓Pt.ox_ixT1, ↓Pt.ox_ixT2, ↓Pt.ox_ixT3, ↓Pt.ox_pow20, ↓Pt.ox_lenL, ↓Pt.ox_lenT, ↓Pt.ox_int, ↓Pt.ox_abs, ↓Pt.ox_max, ↓Pt.ox_min, ↓Pt.ox_tup, ↓Pt.ox_tupT, ↓Pt.ox_list, ↓Pt.ox_listT, ↓Pt.ox_repr]
    refine Pt.gs_goI (fun i e s => ∃ (Ms : List M4) (x5 x6 x7 x8 x9 x10 : Sl), e = [.src, .d (.int w), .d l.D, .d (.list [.int a, .int b]), .l (Ms.map M4.D), x5, x6, x7, x8, x9, x10] ∧ Ms.length = i ∧ ∀ m ∈ Ms, okM m) _ 0 _ _ ⟨[], _, _, _, _, _, _, rfl, rfl, fun m h => nomatch h⟩ (fun i x e s1 hx hI => ?_) fun e s1 hI => ?_
    · obtain ⟨Ms, x5, x6, x7, x8, x9, x10, rfl, hl, hm⟩ := hI
      obtain ⟨c, rfl, hc⟩ : ∃ c : Int, x = .int c ∧ (c = 1 ∨ c = -1) := by
        have := List.mem_of_getElem? hx
        simp only [List.mem_cons, List.not_mem_nil, or_false] at this
        rcases this with rfl | rfl
        · exact ⟨_, rfl, qa⟩
        · exact ⟨_, rfl, qb⟩
      have i2 : i < 2 := by
        have := List.getElem?_eq_some_iff.mp hx
        obtain ⟨h, _⟩ := this
        exact h
      have lz := msz Ms (by omega)
      simp -implicitDefEqProofs (disch := (first | omega | assumption | exact Pt.mul_r (by omega) (by omega) | exact Pt.mul_l (by omega) (by omega) | exact ml _ _ | decide)) only [↓Pt.gt_ok, ↓Pt.gt_bind, ↓Pt.gt_lift, ↓Pt.at_0, ↓Pt.at_s, ↓Pt.nt_0, ↓Pt.nt_s, ↓Pt.vd_d, ↓Pt.vd_h, ↓Pt.vo_l, ↓Pt.vo_k, ↓Pt.vo_t, ↓Pt.vl_l, ↓Pt.vs_s, ↓Pt.pu_0, ↓Pt.pu_s, ↓Pt.wi_0, ↓Pt.wi_s, ↓Pt.bp_n, ↓Pt.bp_t, ↓Pt.bp_l, ↓Pt.bps_0, ↓Pt.bps_s, ↓Pt.bo_t, ↓Pt.bo_f, ↓Pt.bo_not, ↓Pt.gt_var, ↓Pt.gt_own, ↓Pt.gt_c, ↓Pt.gt_bin, ↓Pt.gt_un, ↓Pt.gt_tst, ↓Pt.gt_andT, ↓Pt.gt_orT, ↓Pt.gt_notT, ↓Pt.gt_and, ↓Pt.gt_or, ↓Pt.gt_not, ↓Pt.gt_if, ↓Pt.gt_chain, ↓Pt.gt_nil, ↓Pt.gt_cons, ↓Pt.gt_consA, ↓Pt.gt_consS, ↓Pt.gt_tup, ↓Pt.gt_lst, ↓Pt.gt_fz, ↓Pt.gt_fzD, ↓Pt.gt_call, ↓Pt.gt_callL, ↓Pt.gt_callK, ↓Pt.gt_app, ↓Pt.gt_sl, ↓Pt.gt_none, ↓Pt.gt_some, ↓Pt.ls_l, ↓Pt.gt_rev, ↓Pt.gt_sq, ↓Pt.ox_some, ↓Pt.seq_l, ↓Pt.seq_t, ↓Pt.tst_b, ↓Pt.intD_i, ↓Pt.z1_i, ↓Pt.z2_i, ↓Pt.gt_rg1, ↓Pt.gt_rg1J, ↓Pt.gt_rg2, ↓Pt.gt_srcI, ↓Pt.gt_srcLen, ↓Pt.gt_lc, ↓Pt.gt_yes, ↓Pt.gl_nil, ↓Pt.gl_cons, ↓Pt.gl_ok, ↓Pt.vh_h, ↓Pt.vt_t, ↓Pt.gt_ht, ↓Pt.gt_tupL, ↓Pt.lst_l, ↓Pt.gt_newD, ↓Pt.tag_t, ↓Pt.gt_get2T, ↓Pt.key_3, ↓Pt.zp_l, ↓Pt.zp_t, ↓Pt.gt_zip, ↓Pt.pair_0, ↓Pt.pair_s, ↓Pt.gs_seq, ↓Pt.sq_rt, ↓Pt.sq_bk, ↓Pt.sq_ct, ↓Pt.sq_ex, ↓Pt.gs_skip, ↓Pt.gs_brk, ↓Pt.gs_cnt, ↓Pt.gs_nx, ↓Pt.gs_put, ↓Pt.gs_putZ, ↓Pt.gt_map, ↓Pt.gs_ret, ↓Pt.gs_drop, ↓Pt.gs_if, ↓Pt.gs_bind, ↓Pt.gs_par, ↓Pt.gs_par3, ↓Pt.gs_for, ↓Pt.fg_nx, ↓Pt.fg_ct, ↓Pt.fg_bk, ↓Pt.fg_rt, ↓Pt.gs_frz, ↓Pt.fe_s, ↓Pt.fe_l, ↓Pt.fe_k, ↓Pt.fe_t, ↓Pt.fe_d, ↓Pt.gs_apd, ↓Pt.gs_putT, ↓Pt.gs_srcPut, ↓Pt.ox_add, ↓Pt.ox_addL, ↓Pt.ox_addT, ↓Pt.ox_sub, ↓Pt.ox_mul, ↓Pt.ox_div, ↓Pt.ox_mod, ↓Pt.ox_neg, ↓Pt.ox_lt, ↓Pt.ox_le, ↓Pt.ox_gt, ↓Pt.ox_ge, ↓Pt.ox_eq, ↓Pt.ox_ne, ↓Pt.ox_eqS, ↓Pt.ox_neS, ↓Pt.ox_eqL, ↓Pt.ox_neL, ↓Pt.ox_eqT, ↓Pt.ox_neT, ↓Pt.ox_ix0, ↓Pt.ox_ix1, ↓Pt.ox_ix2, ↓Pt.ox_ix3, ↓Pt.ox_ixT0, ↓Pt.ox_ixT1, ↓Pt.ox_ixT2, ↓Pt.ox_ixT3, ↓Pt.ox_pow20, ↓Pt.ox_lenL, ↓Pt.ox_lenT, ↓Pt.ox_int, ↓Pt.ox_abs, ↓Pt.ox_max, ↓Pt.ox_min, ↓Pt.ox_tup, ↓Pt.ox_tupT, ↓Pt.ox_list, ↓Pt.ox_listT, ↓Pt.ox_repr, e_pick, ↓gt_pick]
      have pk := pick_in (n := 7) s1 (by decide) (by decide)
      generalize pickV 7 s1 = y at pk ⊢
      generalize pickS 7 s1 = s4
      rw [Pt.sq_nx]
      have ml : mulB c (y - 3) = true := mul_r (by omega) (by omega)
      obtain ⟨q, hq⟩ : ∃ q : Int, q = c * (y - 3) := ⟨_, rfl⟩
      have q3 : q.natAbs ≤ 3 := by rcases hc with rfl | rfl <;> omega
      have lm : (⟨c, q, 0, c⟩ : M4).le 3 := ⟨by show c.natAbs ≤ 3; omega, q3, by show (0 : Int).natAbs ≤ 3; omega, by show c.natAbs ≤ 3; omega⟩
      have f := F_led l ⟨c, q, 0, c⟩ s4 (M4.le_mono lm (by decide)) (M4.le_mono fl (by decide))
      have e4 : (.tuple [.int c, .int q, .int 0, .int c] : Pt.D) = (⟨c, q, 0, c⟩ : M4).D := rfl
      simp -implicitDefEqProofs (disch := (first | omega | assumption | exact Pt.mul_r (by omega) (by omega) | exact Pt.mul_l (by omega) (by omega) | exact ml _ _ | decide)) only [↓Pt.gt_ok, ↓Pt.gt_bind, ↓Pt.gt_lift, ↓Pt.at_0, ↓Pt.at_s, ↓Pt.nt_0, ↓Pt.nt_s, ↓Pt.vd_d, ↓Pt.vd_h, ↓Pt.vo_l, ↓Pt.vo_k, ↓Pt.vo_t, ↓Pt.vl_l, ↓Pt.vs_s, ↓Pt.pu_0, ↓Pt.pu_s, ↓Pt.wi_0, ↓Pt.wi_s, ↓Pt.bp_n, ↓Pt.bp_t, ↓Pt.bp_l, ↓Pt.bps_0, ↓Pt.bps_s, ↓Pt.bo_t, ↓Pt.bo_f, ↓Pt.bo_not, ↓Pt.gt_var, ↓Pt.gt_own, ↓Pt.gt_c, ↓Pt.gt_bin, ↓Pt.gt_un, ↓Pt.gt_tst, ↓Pt.gt_andT, ↓Pt.gt_orT, ↓Pt.gt_notT, ↓Pt.gt_and, ↓Pt.gt_or, ↓Pt.gt_not, ↓Pt.gt_if, ↓Pt.gt_chain, ↓Pt.gt_nil, ↓Pt.gt_cons, ↓Pt.gt_consA, ↓Pt.gt_consS, ↓Pt.gt_tup, ↓Pt.gt_lst, ↓Pt.gt_fz, ↓Pt.gt_fzD, ↓Pt.gt_call, ↓Pt.gt_callL, ↓Pt.gt_callK, ↓Pt.gt_app, ↓Pt.gt_sl, ↓Pt.gt_none, ↓Pt.gt_some, ↓Pt.ls_l, ↓Pt.gt_rev, ↓Pt.gt_sq, ↓Pt.ox_some, ↓Pt.seq_l, ↓Pt.seq_t, ↓Pt.tst_b, ↓Pt.intD_i, ↓Pt.z1_i, ↓Pt.z2_i, ↓Pt.gt_rg1, ↓Pt.gt_rg1J, ↓Pt.gt_rg2, ↓Pt.gt_srcI, ↓Pt.gt_srcLen, ↓Pt.gt_lc, ↓Pt.gt_yes, ↓Pt.gl_nil, ↓Pt.gl_cons, ↓Pt.gl_ok, ↓Pt.vh_h, ↓Pt.vt_t, ↓Pt.gt_ht, ↓Pt.gt_tupL, ↓Pt.lst_l, ↓Pt.gt_newD, ↓Pt.tag_t, ↓Pt.gt_get2T, ↓Pt.key_3, ↓Pt.zp_l, ↓Pt.zp_t, ↓Pt.gt_zip, ↓Pt.pair_0, ↓Pt.pair_s, ↓Pt.gs_seq, ↓Pt.sq_rt, ↓Pt.sq_bk, ↓Pt.sq_ct, ↓Pt.sq_ex, ↓Pt.gs_skip, ↓Pt.gs_brk, ↓Pt.gs_cnt, ↓Pt.gs_nx, ↓Pt.gs_put, ↓Pt.gs_putZ, ↓Pt.gt_map, ↓Pt.gs_ret, ↓Pt.gs_drop, ↓Pt.gs_if, ↓Pt.gs_bind, ↓Pt.gs_par, ↓Pt.gs_par3, ↓Pt.gs_for, ↓Pt.fg_nx, ↓Pt.fg_ct, ↓Pt.fg_bk, ↓Pt.fg_rt, ↓Pt.gs_frz, ↓Pt.fe_s, ↓Pt.fe_l, ↓Pt.fe_k, ↓Pt.fe_t, ↓Pt.fe_d, ↓Pt.gs_apd, ↓Pt.gs_putT, ↓Pt.gs_srcPut, ↓Pt.ox_add, ↓Pt.ox_addL, ↓Pt.ox_addT, ↓Pt.ox_sub, ↓Pt.ox_mul, ↓Pt.ox_div, ↓Pt.ox_mod, ↓Pt.ox_neg, ↓Pt.ox_lt, ↓Pt.ox_le, ↓Pt.ox_gt, ↓Pt.ox_ge, ↓Pt.ox_eq, ↓Pt.ox_ne, ↓Pt.ox_eqS, ↓Pt.ox_neS, ↓Pt.ox_eqL, ↓Pt.ox_neL, ↓Pt.ox_eqT, ↓Pt.ox_neT, ↓Pt.ox_ix0, ↓Pt.ox_ix1, ↓Pt.ox_ix2, ↓Pt.ox_ix3, ↓Pt.ox_ixT0, ↓Pt.ox_ixT1, ↓Pt.ox_ixT2, ↓Pt.ox_ixT3, ↓Pt.ox_pow20, ↓Pt.ox_lenL, ↓Pt.ox_lenT, ↓Pt.ox_int, ↓Pt.ox_abs, ↓Pt.ox_max, ↓Pt.ox_min, ↓Pt.ox_tup, ↓Pt.ox_tupT, ↓Pt.ox_list, ↓Pt.ox_listT, ↓Pt.ox_repr, sz4, true_and, lz, ← hq, e4, ↓gt_eq f]
      refine ⟨Ms ++ [(l.mul ⟨c, q, 0, c⟩).mul l.inv], _, _, _, _, _, _, by rw [List.map_append]; rfl, by rw [List.length_append]; simp; omega, fun m h => ?_⟩
      rcases List.mem_append.mp h with h | h
      · exact hm m h
      · rw [List.mem_singleton] at h
        subst h
        refine ⟨?_, M4.le_mono (M4.mul_le (M4.mul_le ll lm) fl) (by decide)⟩
        rw [M4.det_mul, M4.det_mul, M4.det_inv, ld]
        simp only [M4.det]
        rcases hc with rfl | rfl <;> simp
    · obtain ⟨Ms, x5, x6, x7, x8, x9, x10, rfl, hl, hm⟩ := hI
      simp -implicitDefEqProofs (disch := (first | omega | assumption | exact Pt.mul_r (by omega) (by omega) | exact Pt.mul_l (by omega) (by omega) | exact ml _ _ | decide)) only [↓Pt.gt_ok, ↓Pt.gt_bind, ↓Pt.gt_lift, ↓Pt.at_0, ↓Pt.at_s, ↓Pt.nt_0, ↓Pt.nt_s, ↓Pt.vd_d, ↓Pt.vd_h, ↓Pt.vo_l, ↓Pt.vo_k, ↓Pt.vo_t, ↓Pt.vl_l, ↓Pt.vs_s, ↓Pt.pu_0, ↓Pt.pu_s, ↓Pt.wi_0, ↓Pt.wi_s, ↓Pt.bp_n, ↓Pt.bp_t, ↓Pt.bp_l, ↓Pt.bps_0, ↓Pt.bps_s, ↓Pt.bo_t, ↓Pt.bo_f, ↓Pt.bo_not, ↓Pt.gt_var, ↓Pt.gt_own, ↓Pt.gt_c, ↓Pt.gt_bin, ↓Pt.gt_un, ↓Pt.gt_tst, ↓Pt.gt_andT, ↓Pt.gt_orT, ↓Pt.gt_notT, ↓Pt.gt_and, ↓Pt.gt_or, ↓Pt.gt_not, ↓Pt.gt_if, ↓Pt.gt_chain, ↓Pt.gt_nil, ↓Pt.gt_cons, ↓Pt.gt_consA, ↓Pt.gt_consS, ↓Pt.gt_tup, ↓Pt.gt_lst, ↓Pt.gt_fz, ↓Pt.gt_fzD, ↓Pt.gt_call, ↓Pt.gt_callL, ↓Pt.gt_callK, ↓Pt.gt_app, ↓Pt.gt_sl, ↓Pt.gt_none, ↓Pt.gt_some, ↓Pt.ls_l, ↓Pt.gt_rev, ↓Pt.gt_sq, ↓Pt.ox_some, ↓Pt.seq_l, ↓Pt.seq_t, ↓Pt.tst_b, ↓Pt.intD_i, ↓Pt.z1_i, ↓Pt.z2_i, ↓Pt.gt_rg1, ↓Pt.gt_rg1J, ↓Pt.gt_rg2, ↓Pt.gt_srcI, ↓Pt.gt_srcLen, ↓Pt.gt_lc, ↓Pt.gt_yes, ↓Pt.gl_nil, ↓Pt.gl_cons, ↓Pt.gl_ok, ↓Pt.vh_h, ↓Pt.vt_t, ↓Pt.gt_ht, ↓Pt.gt_tupL, ↓Pt.lst_l, ↓Pt.gt_newD, ↓Pt.tag_t, ↓Pt.gt_get2T, ↓Pt.key_3, ↓Pt.zp_l, ↓Pt.zp_t, ↓Pt.gt_zip, ↓Pt.pair_0, ↓Pt.pair_s, ↓Pt.gs_seq, ↓Pt.sq_nx, ↓Pt.sq_rt, ↓Pt.sq_bk, ↓Pt.sq_ct, ↓Pt.sq_ex, ↓Pt.gs_skip, ↓Pt.gs_brk, ↓Pt.gs_cnt, ↓Pt.gs_nx, ↓Pt.gs_put, ↓Pt.gs_putZ, ↓Pt.gt_map, ↓Pt.gs_ret, ↓Pt.gs_drop, ↓Pt.gs_if, ↓Pt.gs_bind, ↓Pt.gs_par, ↓Pt.gs_par3, ↓Pt.gs_for, ↓Pt.fg_nx, ↓Pt.fg_ct, ↓Pt.fg_bk, ↓Pt.fg_rt, ↓Pt.gs_frz, ↓Pt.fe_s, ↓Pt.fe_l, ↓Pt.fe_k, ↓Pt.fe_t, ↓Pt.fe_d, ↓Pt.gs_apd, ↓Pt.gs_putT, ↓Pt.gs_srcPut, ↓Pt.ox_add, ↓Pt.ox_addL, ↓Pt.ox_addT, ↓Pt.ox_sub, ↓Pt.ox_mul, ↓Pt.ox_div, ↓Pt.ox_mod, ↓Pt.ox_neg, ↓Pt.ox_lt, ↓Pt.ox_le, ↓Pt.ox_gt, ↓Pt.ox_ge, ↓Pt.ox_eq, ↓Pt.ox_ne, ↓Pt.ox_eqS, ↓Pt.ox_neS, ↓Pt.ox_eqL, ↓Pt.ox_neL, ↓Pt.ox_eqT, ↓Pt.ox_neT, ↓Pt.ox_ix0, ↓Pt.ox_ix1, ↓Pt.ox_ix2, ↓Pt.ox_ix3, ↓Pt.ox_ixT0, ↓Pt.ox_ixT1, ↓Pt.ox_ixT2, ↓Pt.ox_ixT3, ↓Pt.ox_pow20, ↓Pt.ox_lenL, ↓Pt.ox_lenT, ↓Pt.ox_int, ↓Pt.ox_abs, ↓Pt.ox_max, ↓Pt.ox_min, ↓Pt.ox_tup, ↓Pt.ox_tupT, ↓Pt.ox_list, ↓Pt.ox_listT, ↓Pt.ox_repr]
      obtain ⟨m, n, e, hmn⟩ := two Ms hl hm
      exact ⟨_, _, rfl, m, n, by rw [e], hmn⟩
  · rw [Pt.sq_nx, Pt.gs_seq]
    simp -implicitDefEqProofs (disch := (first | omega | assumption | exact Pt.mul_r (by omega) (by omega) | exact Pt.mul_l (by omega) (by omega) | exact ml _ _ | decide)) only [↓Pt.gt_ok, ↓Pt.gt_bind, ↓Pt.gt_lift, ↓Pt.at_0, ↓Pt.at_s, ↓Pt.nt_0, ↓Pt.nt_s, ↓Pt.vd_d, ↓Pt.vd_h, ↓Pt.vo_l, ↓Pt.vo_k, ↓Pt.vo_t, ↓Pt.vl_l, ↓Pt.vs_s, ↓Pt.pu_0, ↓Pt.pu_s, ↓Pt.wi_0, ↓Pt.wi_s, ↓Pt.bp_n, ↓Pt.bp_t, ↓Pt.bp_l, ↓Pt.bps_0, ↓Pt.bps_s, ↓Pt.bo_t, ↓Pt.bo_f, ↓Pt.bo_not, ↓Pt.gt_var, ↓Pt.gt_own, ↓Pt.gt_c, ↓Pt.gt_bin, ↓Pt.gt_un, ↓Pt.gt_tst, ↓Pt.gt_andT, ↓Pt.gt_orT, ↓Pt.gt_notT, ↓Pt.gt_and, ↓Pt.gt_or, ↓Pt.gt_not, ↓Pt.gt_if, ↓Pt.gt_chain, ↓Pt.gt_nil, ↓Pt.gt_cons, ↓Pt.gt_consA, ↓Pt.gt_consS, ↓Pt.gt_tup, ↓Pt.gt_lst, ↓Pt.gt_fz, ↓Pt.gt_fzD, ↓Pt.gt_call, ↓Pt.gt_callL, ↓Pt.gt_callK, ↓Pt.gt_app, ↓Pt.gt_sl, ↓Pt.gt_none, ↓Pt.gt_some, ↓Pt.ls_l, ↓Pt.gt_rev, ↓Pt.gt_sq, ↓Pt.ox_some, ↓Pt.seq_l, ↓Pt.seq_t, ↓Pt.tst_b, ↓Pt.intD_i, ↓Pt.z1_i, ↓Pt.z2_i, ↓Pt.gt_rg1, ↓Pt.gt_rg1J, ↓Pt.gt_rg2, ↓Pt.gt_srcI, ↓Pt.gt_srcLen, ↓Pt.gt_lc, ↓Pt.gt_yes, ↓Pt.gl_nil, ↓Pt.gl_cons, ↓Pt.gl_ok, ↓Pt.vh_h, ↓Pt.vt_t, ↓Pt.gt_ht, ↓Pt.gt_tupL, ↓Pt.lst_l, ↓Pt.gt_newD, ↓Pt.tag_t, ↓Pt.gt_get2T, ↓Pt.key_3, ↓Pt.zp_l, ↓Pt.zp_t, ↓Pt.gt_zip, ↓Pt.pair_0, ↓Pt.pair_s, ↓Pt.gs_seq, ↓Pt.sq_rt, ↓Pt.sq_bk, ↓Pt.sq_ct, ↓Pt.sq_ex, ↓Pt.gs_skip, ↓Pt.gs_brk, ↓Pt.gs_cnt, ↓Pt.gs_nx, ↓Pt.gs_put, ↓Pt.gs_putZ, ↓Pt.gt_map, ↓Pt.gs_ret, ↓Pt.gs_drop, ↓Pt.gs_if, ↓Pt.gs_bind, ↓Pt.gs_par, ↓Pt.gs_par3, ↓Pt.gs_for, ↓Pt.fg_nx, ↓Pt.fg_ct, ↓Pt.fg_bk, ↓Pt.fg_rt, ↓Pt.gs_frz, ↓Pt.fe_s, ↓Pt.fe_l, ↓Pt.fe_k, ↓Pt.fe_t, ↓Pt.fe_d, ↓Pt.gs_apd, ↓Pt.gs_putT, ↓Pt.gs_srcPut, ↓Pt.ox_add, ↓Pt.ox_addL, ↓Pt.ox_addT, ↓Pt.ox_sub, ↓Pt.ox_mul, ↓Pt.ox_div, ↓Pt.ox_mod, ↓Pt.ox_neg, ↓Pt.ox_lt, ↓Pt.ox_le, ↓Pt.ox_gt, ↓Pt.ox_ge, ↓Pt.ox_eq, ↓Pt.ox_ne, ↓Pt.ox_eqS, ↓Pt.ox_neS, ↓Pt.ox_eqL, ↓Pt.ox_neL, ↓Pt.ox_eqT, ↓Pt.ox_neT, ↓Pt.ox_ix0, ↓Pt.ox_ix1, ↓Pt.ox_ix2, ↓Pt.ox_ix3, ↓Pt.ox_ixT0, ↓Pt.ox_ixT1, ↓Pt.ox_ixT2, ↓Pt.ox_ixT3, ↓Pt.ox_pow20, ↓Pt.ox_lenL, ↓Pt.ox_lenT, ↓Pt.ox_int, ↓Pt.ox_abs, ↓Pt.ox_max, ↓Pt.ox_min, ↓Pt.ox_tup, ↓Pt.ox_tupT, ↓Pt.ox_list, ↓Pt.ox_listT, ↓Pt.ox_repr]
    refine bo_mk (fun cw => ?_) fun cw => ?_
    · refine gt_use (F_drawn4 _) ?_
      rintro _ s4 ⟨o, rfl, od, ol⟩
      simp -implicitDefEqProofs (disch := (first | omega | assumption | exact Pt.mul_r (by omega) (by omega) | exact Pt.mul_l (by omega) (by omega) | exact ml _ _ | decide)) only [↓Pt.gt_ok, ↓Pt.gt_bind, ↓Pt.gt_lift, ↓Pt.at_0, ↓Pt.at_s, ↓Pt.nt_0, ↓Pt.nt_s, ↓Pt.vd_d, ↓Pt.vd_h, ↓Pt.vo_l, ↓Pt.vo_k, ↓Pt.vo_t, ↓Pt.vl_l, ↓Pt.vs_s, ↓Pt.pu_0, ↓Pt.pu_s, ↓Pt.wi_0, ↓Pt.wi_s, ↓Pt.bp_n, ↓Pt.bp_t, ↓Pt.bp_l, ↓Pt.bps_0, ↓Pt.bps_s, ↓Pt.bo_t, ↓Pt.bo_f, ↓Pt.bo_not, ↓Pt.gt_var, ↓Pt.gt_own, ↓Pt.gt_c, ↓Pt.gt_bin, ↓Pt.gt_un, ↓Pt.gt_tst, ↓Pt.gt_andT, ↓Pt.gt_orT, ↓Pt.gt_notT, ↓Pt.gt_and, ↓Pt.gt_or, ↓Pt.gt_not, ↓Pt.gt_if, ↓Pt.gt_chain, ↓Pt.gt_nil, ↓Pt.gt_cons, ↓Pt.gt_consA, ↓Pt.gt_consS, ↓Pt.gt_tup, ↓Pt.gt_lst, ↓Pt.gt_fz, ↓Pt.gt_fzD, ↓Pt.gt_call, ↓Pt.gt_callL, ↓Pt.gt_callK, ↓Pt.gt_app, ↓Pt.gt_sl, ↓Pt.gt_none, ↓Pt.gt_some, ↓Pt.ls_l, ↓Pt.gt_rev, ↓Pt.gt_sq, ↓Pt.ox_some, ↓Pt.seq_l, ↓Pt.seq_t, ↓Pt.tst_b, ↓Pt.intD_i, ↓Pt.z1_i, ↓Pt.z2_i, ↓Pt.gt_rg1, ↓Pt.gt_rg1J, ↓Pt.gt_rg2, ↓Pt.gt_srcI, ↓Pt.gt_srcLen, ↓Pt.gt_lc, ↓Pt.gt_yes, ↓Pt.gl_nil, ↓Pt.gl_cons, ↓Pt.gl_ok, ↓Pt.vh_h, ↓Pt.vt_t, ↓Pt.gt_ht, ↓Pt.gt_tupL, ↓Pt.lst_l, ↓Pt.gt_newD, ↓Pt.tag_t, ↓Pt.gt_get2T, ↓Pt.key_3, ↓Pt.zp_l, ↓Pt.zp_t, ↓Pt.gt_zip, ↓Pt.pair_0, ↓Pt.pair_s, ↓Pt.gs_seq, ↓Pt.sq_rt, ↓Pt.sq_bk, ↓Pt.sq_ct, ↓Pt.sq_ex, ↓Pt.gs_skip, ↓Pt.gs_brk, ↓Pt.gs_cnt, ↓Pt.gs_nx, ↓Pt.gs_put, ↓Pt.gs_putZ, ↓Pt.gt_map, ↓Pt.gs_ret, ↓Pt.gs_drop, ↓Pt.gs_if, ↓Pt.gs_bind, ↓Pt.gs_par, ↓Pt.gs_par3, ↓Pt.gs_for, ↓Pt.fg_nx, ↓Pt.fg_ct, ↓Pt.fg_bk, ↓Pt.fg_rt, ↓Pt.gs_frz, ↓Pt.fe_s, ↓Pt.fe_l, ↓Pt.fe_k, ↓Pt.fe_t, ↓Pt.fe_d, ↓Pt.gs_apd, ↓Pt.gs_putT, ↓Pt.gs_srcPut, ↓Pt.ox_add, ↓Pt.ox_addL, ↓Pt.ox_addT, ↓Pt.ox_sub, ↓Pt.ox_mul, ↓Pt.ox_div, ↓Pt.ox_mod, ↓Pt.ox_neg, ↓Pt.ox_lt, ↓Pt.ox_le, ↓Pt.ox_gt, ↓Pt.ox_ge, ↓Pt.ox_eq, ↓Pt.ox_ne, ↓Pt.ox_eqS, ↓Pt.ox_neS, ↓Pt.ox_eqL, ↓Pt.ox_neL, ↓Pt.ox_eqT, ↓Pt.ox_neT, ↓Pt.ox_ix0, ↓Pt.ox_ix1, ↓Pt.ox_ix2, ↓Pt.ox_ix3, ↓Pt.ox_ixT0, ↓Pt.ox_ixT1, ↓Pt.ox_ixT2, ↓Pt.ox_ixT3, ↓Pt.ox_pow20, ↓Pt.ox_lenL, ↓Pt.ox_lenT, ↓Pt.ox_int, ↓Pt.ox_abs, ↓Pt.ox_max, ↓Pt.ox_min, ↓Pt.ox_tup, ↓Pt.ox_tupT, ↓Pt.ox_list, ↓Pt.ox_listT, ↓Pt.ox_repr, z0, true_and]
      rw [Pt.sq_nx, Pt.gs_seq]
      simp -implicitDefEqProofs (disch := (first | omega | assumption | exact Pt.mul_r (by omega) (by omega) | exact Pt.mul_l (by omega) (by omega) | exact ml _ _ | decide)) only [↓Pt.gt_ok, ↓Pt.gt_bind, ↓Pt.gt_lift, ↓Pt.at_0, ↓Pt.at_s, ↓Pt.nt_0, ↓Pt.nt_s, ↓Pt.vd_d, ↓Pt.vd_h, ↓Pt.vo_l, ↓Pt.vo_k, ↓Pt.vo_t, ↓Pt.vl_l, ↓Pt.vs_s, ↓Pt.pu_0, ↓Pt.pu_s, ↓Pt.wi_0, ↓Pt.wi_s, ↓Pt.bp_n, ↓Pt.bp_t, ↓Pt.bp_l, ↓Pt.bps_0, ↓Pt.bps_s, ↓Pt.bo_t, ↓Pt.bo_f, ↓Pt.bo_not, ↓Pt.gt_var, ↓Pt.gt_own, ↓Pt.gt_c, ↓Pt.gt_bin, ↓Pt.gt_un, ↓Pt.gt_tst, ↓Pt.gt_andT, ↓Pt.gt_orT, ↓Pt.gt_notT, ↓Pt.gt_and, ↓Pt.gt_or, ↓Pt.gt_not, ↓Pt.gt_if, ↓Pt.gt_chain, ↓Pt.gt_nil, ↓Pt.gt_cons, ↓Pt.gt_consA, ↓Pt.gt_consS, ↓Pt.gt_tup, ↓Pt.gt_lst, ↓Pt.gt_fz, ↓Pt.gt_fzD, ↓Pt.gt_call, ↓Pt.gt_callL, ↓Pt.gt_callK, ↓Pt.gt_app, ↓Pt.gt_sl, ↓Pt.gt_none, ↓Pt.gt_some, ↓Pt.ls_l, ↓Pt.gt_rev, ↓Pt.gt_sq, ↓Pt.ox_some, ↓Pt.seq_l, ↓Pt.seq_t, ↓Pt.tst_b, ↓Pt.intD_i, ↓Pt.z1_i, ↓Pt.z2_i, ↓Pt.gt_rg1, ↓Pt.gt_rg1J, ↓Pt.gt_rg2, ↓Pt.gt_srcI, ↓Pt.gt_srcLen, ↓Pt.gt_lc, ↓Pt.gt_yes, ↓Pt.gl_nil, ↓Pt.gl_cons, ↓Pt.gl_ok, ↓Pt.vh_h, ↓Pt.vt_t, ↓Pt.gt_ht, ↓Pt.gt_tupL, ↓Pt.lst_l, ↓Pt.gt_newD, ↓Pt.tag_t, ↓Pt.gt_get2T, ↓Pt.key_3, ↓Pt.zp_l, ↓Pt.zp_t, ↓Pt.gt_zip, ↓Pt.pair_0, ↓Pt.pair_s, ↓Pt.gs_seq, ↓Pt.sq_rt, ↓Pt.sq_bk, ↓Pt.sq_ct, ↓Pt.sq_ex, ↓Pt.gs_skip, ↓Pt.gs_brk, ↓Pt.gs_cnt, ↓Pt.gs_nx, ↓Pt.gs_put, ↓Pt.gs_putZ, ↓Pt.gt_map, ↓Pt.gs_ret, ↓Pt.gs_drop, ↓Pt.gs_if, ↓Pt.gs_bind, ↓Pt.gs_par, ↓Pt.gs_par3, ↓Pt.gs_for, ↓Pt.fg_nx, ↓Pt.fg_ct, ↓Pt.fg_bk, ↓Pt.fg_rt, ↓Pt.gs_frz, ↓Pt.fe_s, ↓Pt.fe_l, ↓Pt.fe_k, ↓Pt.fe_t, ↓Pt.fe_d, ↓Pt.gs_apd, ↓Pt.gs_putT, ↓Pt.gs_srcPut, ↓Pt.ox_add, ↓Pt.ox_addL, ↓Pt.ox_addT, ↓Pt.ox_sub, ↓Pt.ox_mul, ↓Pt.ox_div, ↓Pt.ox_mod, ↓Pt.ox_neg, ↓Pt.ox_lt, ↓Pt.ox_le, ↓Pt.ox_gt, ↓Pt.ox_ge, ↓Pt.ox_eq, ↓Pt.ox_ne, ↓Pt.ox_eqS, ↓Pt.ox_neS, ↓Pt.ox_eqL, ↓Pt.ox_neL, ↓Pt.ox_eqT, ↓Pt.ox_neT, ↓Pt.ox_ix0, ↓Pt.ox_ix1, ↓Pt.ox_ix2, ↓Pt.ox_ix3, ↓Pt.ox_ixT0, ↓Pt.ox_ixT1, ↓Pt.ox_ixT2, ↓Pt.ox_ixT3, ↓Pt.ox_pow20, ↓Pt.ox_lenL, ↓Pt.ox_lenT, ↓Pt.ox_int, ↓Pt.ox_abs, ↓Pt.ox_max, ↓Pt.ox_min, ↓Pt.ox_tup, ↓Pt.ox_tupT, ↓Pt.ox_list, ↓Pt.ox_listT, ↓Pt.ox_repr]
      refine Pt.gs_goI (fun i e s => ∃ (Ms : List M4) (x5 x6 x8 x9 x10 : Sl), e = [.src, .d (.int w), .d l.D, .d (.list [.int a, .int b]), .l (Ms.map M4.D), x5, x6, .d o.D, x8, x9, x10] ∧ Ms.length = i ∧ ∀ m ∈ Ms, okM m) _ 0 _ _ ⟨[], _, _, _, _, _, rfl, rfl, fun m h => nomatch h⟩ (fun i x e s1 hx hI => ?_) fun e s1 hI => ?_
      · obtain ⟨Ms, x5, x6, x8, x9, x10, rfl, hl, hm⟩ := hI
        obtain ⟨c, rfl, hc⟩ : ∃ c : Int, x = .int c ∧ (c = 1 ∨ c = -1) := by
          have := List.mem_of_getElem? hx
          simp only [List.mem_cons, List.not_mem_nil, or_false] at this
          rcases this with rfl | rfl
          · exact ⟨_, rfl, qa⟩
          · exact ⟨_, rfl, qb⟩
        have i2 : i < 2 := by
          have := List.getElem?_eq_some_iff.mp hx
          obtain ⟨h, _⟩ := this
          exact h
        have lz := msz Ms (by omega)
        simp -implicitDefEqProofs (disch := (first | omega | assumption | exact Pt.mul_r (by omega) (by omega) | exact Pt.mul_l (by omega) (by omega) | exact ml _ _ | decide)) only [↓Pt.gt_ok, ↓Pt.gt_bind, ↓Pt.gt_lift, ↓Pt.at_0, ↓Pt.at_s, ↓Pt.nt_0, ↓Pt.nt_s, ↓Pt.vd_d, ↓Pt.vd_h, ↓Pt.vo_l, ↓Pt.vo_k, ↓Pt.vo_t, ↓Pt.vl_l, ↓Pt.vs_s, ↓Pt.pu_0, ↓Pt.pu_s, ↓Pt.wi_0, ↓Pt.wi_s, ↓Pt.bp_n, ↓Pt.bp_t, ↓Pt.bp_l, ↓Pt.bps_0, ↓Pt.bps_s, ↓Pt.bo_t, ↓Pt.bo_f, ↓Pt.bo_not, ↓Pt.gt_var, ↓Pt.gt_own, ↓Pt.gt_c, ↓Pt.gt_bin, ↓Pt.gt_un, ↓Pt.gt_tst, ↓Pt.gt_andT, ↓Pt.gt_orT, ↓Pt.gt_notT, ↓Pt.gt_and, ↓Pt.gt_or, ↓Pt.gt_not, ↓Pt.gt_if, ↓Pt.gt_chain, ↓Pt.gt_nil, ↓Pt.gt_cons, ↓Pt.gt_consA, ↓Pt.gt_consS, ↓Pt.gt_tup, ↓Pt.gt_lst, ↓Pt.gt_fz, ↓Pt.gt_fzD, ↓Pt.gt_call, ↓Pt.gt_callL, ↓Pt.gt_callK, ↓Pt.gt_app, ↓Pt.gt_sl, ↓Pt.gt_none, ↓Pt.gt_some, ↓Pt.ls_l, ↓Pt.gt_rev, ↓Pt.gt_sq, ↓Pt.ox_some, ↓Pt.seq_l, ↓Pt.seq_t, ↓Pt.tst_b, ↓Pt.intD_i, ↓Pt.z1_i, ↓Pt.z2_i, ↓Pt.gt_rg1, ↓Pt.gt_rg1J, ↓Pt.gt_rg2, ↓Pt.gt_srcI, ↓Pt.gt_srcLen, ↓Pt.gt_lc, ↓Pt.gt_yes, ↓Pt.gl_nil, ↓Pt.gl_cons, ↓Pt.gl_ok, ↓Pt.vh_h, ↓Pt.vt_t, ↓Pt.gt_ht, ↓Pt.gt_tupL, ↓Pt.lst_l, ↓Pt.gt_newD, ↓Pt.tag_t, ↓Pt.gt_get2T, ↓Pt.key_3, ↓Pt.zp_l, ↓Pt.zp_t, ↓Pt.gt_zip, ↓Pt.pair_0, ↓Pt.pair_s, ↓Pt.gs_seq, ↓Pt.sq_rt, ↓Pt.sq_bk, ↓Pt.sq_ct, ↓Pt.sq_ex, ↓Pt.gs_skip, ↓Pt.gs_brk, ↓Pt.gs_cnt, ↓Pt.gs_nx, ↓Pt.gs_put, ↓Pt.gs_putZ, ↓Pt.gt_map, ↓Pt.gs_ret, ↓Pt.gs_drop, ↓Pt.gs_if, ↓Pt.gs_bind, ↓Pt.gs_par, ↓Pt.gs_par3, ↓Pt.gs_for, ↓Pt.fg_nx, ↓Pt.fg_ct, ↓Pt.fg_bk, ↓Pt.fg_rt, ↓Pt.gs_frz, ↓Pt.fe_s, ↓Pt.fe_l, ↓Pt.fe_k, ↓Pt.fe_t, ↓Pt.fe_d, ↓Pt.gs_apd, ↓Pt.gs_putT, ↓Pt.gs_srcPut, ↓Pt.ox_add, ↓Pt.ox_addL, ↓Pt.ox_addT, ↓Pt.ox_sub, ↓Pt.ox_mul, ↓Pt.ox_div, ↓Pt.ox_mod, ↓Pt.ox_neg, ↓Pt.ox_lt, ↓Pt.ox_le, ↓Pt.ox_gt, ↓Pt.ox_ge, ↓Pt.ox_eq, ↓Pt.ox_ne, ↓Pt.ox_eqS, ↓Pt.ox_neS, ↓Pt.ox_eqL, ↓Pt.ox_neL, ↓Pt.ox_eqT, ↓Pt.ox_neT, ↓Pt.ox_ix0, ↓Pt.ox_ix1, ↓Pt.ox_ix2, ↓Pt.ox_ix3, ↓Pt.ox_ixT0, ↓Pt.ox_ixT1, ↓Pt.ox_ixT2, ↓Pt.ox_ixT3, ↓Pt.ox_pow20, ↓Pt.ox_lenL, ↓Pt.ox_lenT, ↓Pt.ox_int, ↓Pt.ox_abs, ↓Pt.ox_max, ↓Pt.ox_min, ↓Pt.ox_tup, ↓Pt.ox_tupT, ↓Pt.ox_list, ↓Pt.ox_listT, ↓Pt.ox_repr, sz4, true_and]
        rw [Pt.sq_nx, Pt.gs_seq]
        have pk := pick_in (n := 4) s1 (by decide) (by decide)
        obtain ⟨k, hk⟩ : ∃ k : Nat, pickV 4 s1 = k := ⟨(pickV 4 s1).toNat, by omega⟩
        rw [hk] at pk
        have rk : rgB k = true := by
          have : k = 0 ∨ k = 1 ∨ k = 2 ∨ k = 3 := by omega
          rcases this with rfl | rfl | rfl | rfl <;> decide
        simp -implicitDefEqProofs (disch := (first | omega | assumption | exact Pt.mul_r (by omega) (by omega) | exact Pt.mul_l (by omega) (by omega) | exact ml _ _ | decide)) only [↓Pt.gt_ok, ↓Pt.gt_bind, ↓Pt.gt_lift, ↓Pt.at_0, ↓Pt.at_s, ↓Pt.nt_0, ↓Pt.nt_s, ↓Pt.vd_d, ↓Pt.vd_h, ↓Pt.vo_l, ↓Pt.vo_k, ↓Pt.vo_t, ↓Pt.vl_l, ↓Pt.vs_s, ↓Pt.pu_0, ↓Pt.pu_s, ↓Pt.wi_0, ↓Pt.wi_s, ↓Pt.bp_n, ↓Pt.bp_t, ↓Pt.bp_l, ↓Pt.bps_0, ↓Pt.bps_s, ↓Pt.bo_t, ↓Pt.bo_f, ↓Pt.bo_not, ↓Pt.gt_var, ↓Pt.gt_own, ↓Pt.gt_c, ↓Pt.gt_bin, ↓Pt.gt_un, ↓Pt.gt_tst, ↓Pt.gt_andT, ↓Pt.gt_orT, ↓Pt.gt_notT, ↓Pt.gt_and, ↓Pt.gt_or, ↓Pt.gt_not, ↓Pt.gt_if, ↓Pt.gt_chain, ↓Pt.gt_nil, ↓Pt.gt_cons, ↓Pt.gt_consA, ↓Pt.gt_consS, ↓Pt.gt_tup, ↓Pt.gt_lst, ↓Pt.gt_fz, ↓Pt.gt_fzD, ↓Pt.gt_call, ↓Pt.gt_callL, ↓Pt.gt_callK, ↓Pt.gt_app, ↓Pt.gt_sl, ↓Pt.gt_none, ↓Pt.gt_some, ↓Pt.ls_l, ↓Pt.gt_rev, ↓Pt.gt_sq, ↓Pt.ox_some, ↓Pt.seq_l, ↓Pt.seq_t, ↓Pt.tst_b, ↓Pt.intD_i, ↓Pt.z1_i, ↓Pt.z2_i, ↓Pt.gt_rg1, ↓Pt.gt_rg1J, ↓Pt.gt_rg2, ↓Pt.gt_srcI, ↓Pt.gt_srcLen, ↓Pt.gt_lc, ↓Pt.gt_yes, ↓Pt.gl_nil, ↓Pt.gl_cons, ↓Pt.gl_ok, ↓Pt.vh_h, ↓Pt.vt_t, ↓Pt.gt_ht, ↓Pt.gt_tupL, ↓Pt.lst_l, ↓Pt.gt_newD, ↓Pt.tag_t, ↓Pt.gt_get2T, ↓Pt.key_3, ↓Pt.zp_l, ↓Pt.zp_t, ↓Pt.gt_zip, ↓Pt.pair_0, ↓Pt.pair_s, ↓Pt.gs_seq, ↓Pt.sq_rt, ↓Pt.sq_bk, ↓Pt.sq_ct, ↓Pt.sq_ex, ↓Pt.gs_skip, ↓Pt.gs_brk, ↓Pt.gs_cnt, ↓Pt.gs_nx, ↓Pt.gs_put, ↓Pt.gs_putZ, ↓Pt.gt_map, ↓Pt.gs_ret, ↓Pt.gs_drop, ↓Pt.gs_if, ↓Pt.gs_bind, ↓Pt.gs_par, ↓Pt.gs_par3, ↓Pt.gs_for, ↓Pt.fg_nx, ↓Pt.fg_ct, ↓Pt.fg_bk, ↓Pt.fg_rt, ↓Pt.gs_frz, ↓Pt.fe_s, ↓Pt.fe_l, ↓Pt.fe_k, ↓Pt.fe_t, ↓Pt.fe_d, ↓Pt.gs_apd, ↓Pt.gs_putT, ↓Pt.gs_srcPut, ↓Pt.ox_add, ↓Pt.ox_addL, ↓Pt.ox_addT, ↓Pt.ox_sub, ↓Pt.ox_mul, ↓Pt.ox_div, ↓Pt.ox_mod, ↓Pt.ox_neg, ↓Pt.ox_lt, ↓Pt.ox_le, ↓Pt.ox_gt, ↓Pt.ox_ge, ↓Pt.ox_eq, ↓Pt.ox_ne, ↓Pt.ox_eqS, ↓Pt.ox_neS, ↓Pt.ox_eqL, ↓Pt.ox_neL, ↓Pt.ox_eqT, ↓Pt.ox_neT, ↓Pt.ox_ix0, ↓Pt.ox_ix1, ↓Pt.ox_ix2, ↓Pt.ox_ix3, ↓Pt.ox_ixT0, ↓Pt.ox_ixT1, ↓Pt.ox_ixT2, ↓Pt.ox_ixT3, ↓Pt.ox_pow20, ↓Pt.ox_lenL, ↓Pt.ox_lenT, ↓Pt.ox_int, ↓Pt.ox_abs, ↓Pt.ox_max, ↓Pt.ox_min, ↓Pt.ox_tup, ↓Pt.ox_tupT, ↓Pt.ox_list, ↓Pt.ox_listT, ↓Pt.ox_repr, e_pick, ↓gt_pick, hk, rk, true_and, Int.toNat_natCast]
        generalize pickS 4 s1 = s5
        have cm : okM ⟨c, 0, 0, c⟩ := ⟨by simp only [M4.det]; rcases hc with rfl | rfl <;> simp, by show c.natAbs ≤ _; omega, by simp, by simp, by show c.natAbs ≤ _; omega⟩
        refine Pt.gs_goI (fun j e s => ∃ (m : M4) (x9 : Sl), e = [.src, .d (.int w), .d l.D, .d (.list [.int a, .int b]), .l (Ms.map M4.D), .d (.int c), x6, .d o.D, .d m.D, x9, x10] ∧ m.det = 1 ∧ (j = 0 → m = ⟨c, 0, 0, c⟩) ∧ (j = 1 → m.le 81) ∧ (j = 2 → m.le 13122) ∧ (j = 3 → m.le 2125764)) _ 0 _ _ ⟨⟨c, 0, 0, c⟩, _, rfl, cm.1, fun _ => rfl, by omega, by omega, by omega⟩ (fun j x e s1 hx hI => ?_) fun e s1 hI => ?_
        · obtain ⟨m, x9, rfl, md, m0, m1, m2, m3⟩ := hI
          have j3 : j < 3 := by have := (rng_at hx).1; omega
          have f := F_ltimes m o s1 (M4.le_mono ol (by decide))
          simp -implicitDefEqProofs (disch := (first | omega | assumption | exact Pt.mul_r (by omega) (by omega) | exact Pt.mul_l (by omega) (by omega) | exact ml _ _ | decide)) only [↓Pt.gt_ok, ↓Pt.gt_bind, ↓Pt.gt_lift, ↓Pt.at_0, ↓Pt.at_s, ↓Pt.nt_0, ↓Pt.nt_s, ↓Pt.vd_d, ↓Pt.vd_h, ↓Pt.vo_l, ↓Pt.vo_k, ↓Pt.vo_t, ↓Pt.vl_l, ↓Pt.vs_s, ↓Pt.pu_0, ↓Pt.pu_s, ↓Pt.wi_0, ↓Pt.wi_s, ↓Pt.bp_n, ↓Pt.bp_t, ↓Pt.bp_l, ↓Pt.bps_0, ↓Pt.bps_s, ↓Pt.bo_t, ↓Pt.bo_f, ↓Pt.bo_not, ↓Pt.gt_var, ↓Pt.gt_own, ↓Pt.gt_c, ↓Pt.gt_bin, ↓Pt.gt_un, ↓Pt.gt_tst, ↓Pt.gt_andT, ↓Pt.gt_orT, ↓Pt.gt_notT, ↓Pt.gt_and, ↓Pt.gt_or, ↓Pt.gt_not, ↓Pt.gt_if, ↓Pt.gt_chain, ↓Pt.gt_nil, ↓Pt.gt_cons, ↓Pt.gt_consA, ↓Pt.gt_consS, ↓Pt.gt_tup, ↓Pt.gt_lst, ↓Pt.gt_fz, ↓Pt.gt_fzD, ↓Pt.gt_call, ↓Pt.gt_callL, ↓Pt.gt_callK, ↓Pt.gt_app, ↓Pt.gt_sl, ↓Pt.gt_none, ↓Pt.gt_some, ↓Pt.ls_l, ↓Pt.gt_rev, ↓Pt.gt_sq, ↓Pt.ox_some, ↓Pt.seq_l, ↓Pt.seq_t, ↓Pt.tst_b, ↓Pt.intD_i, ↓Pt.z1_i, ↓Pt.z2_i, ↓Pt.gt_rg1, ↓Pt.gt_rg1J, ↓Pt.gt_rg2, ↓Pt.gt_srcI, ↓Pt.gt_srcLen, ↓Pt.gt_lc, ↓Pt.gt_yes, ↓Pt.gl_nil, ↓Pt.gl_cons, ↓Pt.gl_ok, ↓Pt.vh_h, ↓Pt.vt_t, ↓Pt.gt_ht, ↓Pt.gt_tupL, ↓Pt.lst_l, ↓Pt.gt_newD, ↓Pt.tag_t, ↓Pt.gt_get2T, ↓Pt.key_3, ↓Pt.zp_l, ↓Pt.zp_t, ↓Pt.gt_zip, ↓Pt.pair_0, ↓Pt.pair_s, ↓Pt.gs_seq, ↓Pt.sq_rt, ↓Pt.sq_bk, ↓Pt.sq_ct, ↓Pt.sq_ex, ↓Pt.gs_skip, ↓Pt.gs_brk, ↓Pt.gs_cnt, ↓Pt.gs_nx, ↓Pt.gs_put, ↓Pt.gs_putZ, ↓Pt.gt_map, ↓Pt.gs_ret, ↓Pt.gs_drop, ↓Pt.gs_if, ↓Pt.gs_bind, ↓Pt.gs_par, ↓Pt.gs_par3, ↓Pt.gs_for, ↓Pt.fg_nx, ↓Pt.fg_ct, ↓Pt.fg_bk, ↓Pt.fg_rt, ↓Pt.gs_frz, ↓Pt.fe_s, ↓Pt.fe_l, ↓Pt.fe_k, ↓Pt.fe_t, ↓Pt.fe_d, ↓Pt.gs_apd, ↓Pt.gs_putT, ↓Pt.gs_srcPut, ↓Pt.ox_add, ↓Pt.ox_addL, ↓Pt.ox_addT, ↓Pt.ox_sub, ↓Pt.ox_mul, ↓Pt.ox_div, ↓Pt.ox_mod, ↓Pt.ox_neg, ↓Pt.ox_lt, ↓Pt.ox_le, ↓Pt.ox_gt, ↓Pt.ox_ge, ↓Pt.ox_eq, ↓Pt.ox_ne, ↓Pt.ox_eqS, ↓Pt.ox_neS, ↓Pt.ox_eqL, ↓Pt.ox_neL, ↓Pt.ox_eqT, ↓Pt.ox_neT, ↓Pt.ox_ix0, ↓Pt.ox_ix1, ↓Pt.ox_ix2, ↓Pt.ox_ix3, ↓Pt.ox_ixT0, ↓Pt.ox_ixT1, ↓Pt.ox_ixT2, ↓Pt.ox_ixT3, ↓Pt.ox_pow20, ↓Pt.ox_lenL, ↓Pt.ox_lenT, ↓Pt.ox_int, ↓Pt.ox_abs, ↓Pt.ox_max, ↓Pt.ox_min, ↓Pt.ox_tup, ↓Pt.ox_tupT, ↓Pt.ox_list, ↓Pt.ox_listT, ↓Pt.ox_repr, ↓gt_eq f]
          refine ⟨m.mul o, _, rfl, by rw [M4.det_mul, md, od]; rfl, by omega, fun h => ?_, fun h => ?_, fun h => ?_⟩
          · rw [m0 (by omega)]
            obtain ⟨o1, o2, o3, o4⟩ := ol
            rcases hc with rfl | rfl
            · refine ⟨?_, ?_, ?_, ?_⟩ <;> (simp only [M4.mul]; omega)
            · refine ⟨?_, ?_, ?_, ?_⟩ <;> (simp only [M4.mul]; omega)
          · exact M4.le_mono (M4.mul_le (m1 (by omega)) ol) (by decide)
          · exact M4.le_mono (M4.mul_le (m2 (by omega)) ol) (by decide)
        · obtain ⟨m, x9, rfl, md, m0, m1, m2, m3⟩ := hI
          rw [rangeL_len, Nat.zero_add] at m0 m1 m2 m3
          have ml : m.le 2125764 := by
            have : k = 0 ∨ k = 1 ∨ k = 2 ∨ k = 3 := by omega
            rcases this with h | h | h | h
            · rw [m0 h]; exact cm.2
            · exact M4.le_mono (m1 h) (by decide)
            · exact M4.le_mono (m2 h) (by decide)
            · exact m3 h
          have fin : ∀ (z : M4), okM z → ∀ m ∈ Ms ++ [z], okM m := fun z hz m h => by
            rcases List.mem_append.mp h with h | h
            · exact hm m h
            · rw [List.mem_singleton] at h
              subst h
              exact hz
          have f := fun s => F_undone m s
          simp -implicitDefEqProofs (disch := (first | omega | assumption | exact Pt.mul_r (by omega) (by omega) | exact Pt.mul_l (by omega) (by omega) | exact ml _ _ | decide)) only [↓Pt.gt_ok, ↓Pt.gt_bind, ↓Pt.gt_lift, ↓Pt.at_0, ↓Pt.at_s, ↓Pt.nt_0, ↓Pt.nt_s, ↓Pt.vd_d, ↓Pt.vd_h, ↓Pt.vo_l, ↓Pt.vo_k, ↓Pt.vo_t, ↓Pt.vl_l, ↓Pt.vs_s, ↓Pt.pu_0, ↓Pt.pu_s, ↓Pt.wi_0, ↓Pt.wi_s, ↓Pt.bp_n, ↓Pt.bp_t, ↓Pt.bp_l, ↓Pt.bps_0, ↓Pt.bps_s, ↓Pt.bo_t, ↓Pt.bo_f, ↓Pt.bo_not, ↓Pt.gt_var, ↓Pt.gt_own, ↓Pt.gt_c, ↓Pt.gt_bin, ↓Pt.gt_un, ↓Pt.gt_tst, ↓Pt.gt_andT, ↓Pt.gt_orT, ↓Pt.gt_notT, ↓Pt.gt_and, ↓Pt.gt_or, ↓Pt.gt_not, ↓Pt.gt_if, ↓Pt.gt_chain, ↓Pt.gt_nil, ↓Pt.gt_cons, ↓Pt.gt_consA, ↓Pt.gt_consS, ↓Pt.gt_tup, ↓Pt.gt_lst, ↓Pt.gt_fz, ↓Pt.gt_fzD, ↓Pt.gt_call, ↓Pt.gt_callL, ↓Pt.gt_callK, ↓Pt.gt_app, ↓Pt.gt_sl, ↓Pt.gt_none, ↓Pt.gt_some, ↓Pt.ls_l, ↓Pt.gt_rev, ↓Pt.gt_sq, ↓Pt.ox_some, ↓Pt.seq_l, ↓Pt.seq_t, ↓Pt.tst_b, ↓Pt.intD_i, ↓Pt.z1_i, ↓Pt.z2_i, ↓Pt.gt_rg1, ↓Pt.gt_rg1J, ↓Pt.gt_rg2, ↓Pt.gt_srcI, ↓Pt.gt_srcLen, ↓Pt.gt_lc, ↓Pt.gt_yes, ↓Pt.gl_nil, ↓Pt.gl_cons, ↓Pt.gl_ok, ↓Pt.vh_h, ↓Pt.vt_t, ↓Pt.gt_ht, ↓Pt.gt_tupL, ↓Pt.lst_l, ↓Pt.gt_newD, ↓Pt.tag_t, ↓Pt.gt_get2T, ↓Pt.key_3, ↓Pt.zp_l, ↓Pt.zp_t, ↓Pt.gt_zip, ↓Pt.pair_0, ↓Pt.pair_s, ↓Pt.gs_seq, ↓Pt.sq_nx, ↓Pt.sq_rt, ↓Pt.sq_bk, ↓Pt.sq_ct, ↓Pt.sq_ex, ↓Pt.gs_skip, ↓Pt.gs_brk, ↓Pt.gs_cnt, ↓Pt.gs_nx, ↓Pt.gs_put, ↓Pt.gs_putZ, ↓Pt.gt_map, ↓Pt.gs_ret, ↓Pt.gs_drop, ↓Pt.gs_if, ↓Pt.gs_bind, ↓Pt.gs_par, ↓Pt.gs_par3, ↓Pt.gs_for, ↓Pt.fg_nx, ↓Pt.fg_ct, ↓Pt.fg_bk, ↓Pt.fg_rt, ↓Pt.gs_frz, ↓Pt.fe_s, ↓Pt.fe_l, ↓Pt.fe_k, ↓Pt.fe_t, ↓Pt.fe_d, ↓Pt.gs_apd, ↓Pt.gs_putT, ↓Pt.gs_srcPut, ↓Pt.ox_add, ↓Pt.ox_addL, ↓Pt.ox_addT, ↓Pt.ox_sub, ↓Pt.ox_mul, ↓Pt.ox_div, ↓Pt.ox_mod, ↓Pt.ox_neg, ↓Pt.ox_lt, ↓Pt.ox_le, ↓Pt.ox_gt, ↓Pt.ox_ge, ↓Pt.ox_eq, ↓Pt.ox_ne, ↓Pt.ox_eqS, ↓Pt.ox_neS, ↓Pt.ox_eqL, ↓Pt.ox_neL, ↓Pt.ox_eqT, ↓Pt.ox_neT, ↓Pt.ox_ix0, ↓Pt.ox_ix1, ↓Pt.ox_ix2, ↓Pt.ox_ix3, ↓Pt.ox_ixT0, ↓Pt.ox_ixT1, ↓Pt.ox_ixT2, ↓Pt.ox_ixT3, ↓Pt.ox_pow20, ↓Pt.ox_lenL, ↓Pt.ox_lenT, ↓Pt.ox_int, ↓Pt.ox_abs, ↓Pt.ox_max, ↓Pt.ox_min, ↓Pt.ox_tup, ↓Pt.ox_tupT, ↓Pt.ox_list, ↓Pt.ox_listT, ↓Pt.ox_repr, e_pick, ↓gt_pick, lz, true_and]
          refine bo_mk (fun _ => ?_) fun _ => ?_
          · exact ⟨Ms ++ [m], _, _, _, _, _, by rw [List.map_append]; rfl, by rw [List.length_append]; simp; omega, fin m ⟨md, ml⟩⟩
          · rw [gt_eq (f _)]
            exact ⟨Ms ++ [m.inv], _, _, _, _, _, by rw [List.map_append]; rfl, by rw [List.length_append]; simp; omega, fin _ ⟨by rw [M4.det_inv]; exact md, M4.inv_le ml⟩⟩
      · obtain ⟨Ms, x5, x6, x8, x9, x10, rfl, hl, hm⟩ := hI
        simp -implicitDefEqProofs (disch := (first | omega | assumption | exact Pt.mul_r (by omega) (by omega) | exact Pt.mul_l (by omega) (by omega) | exact ml _ _ | decide)) only [↓Pt.gt_ok, ↓Pt.gt_bind, ↓Pt.gt_lift, ↓Pt.at_0, ↓Pt.at_s, ↓Pt.nt_0, ↓Pt.nt_s, ↓Pt.vd_d, ↓Pt.vd_h, ↓Pt.vo_l, ↓Pt.vo_k, ↓Pt.vo_t, ↓Pt.vl_l, ↓Pt.vs_s, ↓Pt.pu_0, ↓Pt.pu_s, ↓Pt.wi_0, ↓Pt.wi_s, ↓Pt.bp_n, ↓Pt.bp_t, ↓Pt.bp_l, ↓Pt.bps_0, ↓Pt.bps_s, ↓Pt.bo_t, ↓Pt.bo_f, ↓Pt.bo_not, ↓Pt.gt_var, ↓Pt.gt_own, ↓Pt.gt_c, ↓Pt.gt_bin, ↓Pt.gt_un, ↓Pt.gt_tst, ↓Pt.gt_andT, ↓Pt.gt_orT, ↓Pt.gt_notT, ↓Pt.gt_and, ↓Pt.gt_or, ↓Pt.gt_not, ↓Pt.gt_if, ↓Pt.gt_chain, ↓Pt.gt_nil, ↓Pt.gt_cons, ↓Pt.gt_consA, ↓Pt.gt_consS, ↓Pt.gt_tup, ↓Pt.gt_lst, ↓Pt.gt_fz, ↓Pt.gt_fzD, ↓Pt.gt_call, ↓Pt.gt_callL, ↓Pt.gt_callK, ↓Pt.gt_app, ↓Pt.gt_sl, ↓Pt.gt_none, ↓Pt.gt_some, ↓Pt.ls_l, ↓Pt.gt_rev, ↓Pt.gt_sq, ↓Pt.ox_some, ↓Pt.seq_l, ↓Pt.seq_t, ↓Pt.tst_b, ↓Pt.intD_i, ↓Pt.z1_i, ↓Pt.z2_i, ↓Pt.gt_rg1, ↓Pt.gt_rg1J, ↓Pt.gt_rg2, ↓Pt.gt_srcI, ↓Pt.gt_srcLen, ↓Pt.gt_lc, ↓Pt.gt_yes, ↓Pt.gl_nil, ↓Pt.gl_cons, ↓Pt.gl_ok, ↓Pt.vh_h, ↓Pt.vt_t, ↓Pt.gt_ht, ↓Pt.gt_tupL, ↓Pt.lst_l, ↓Pt.gt_newD, ↓Pt.tag_t, ↓Pt.gt_get2T, ↓Pt.key_3, ↓Pt.zp_l, ↓Pt.zp_t, ↓Pt.gt_zip, ↓Pt.pair_0, ↓Pt.pair_s, ↓Pt.gs_seq, ↓Pt.sq_nx, ↓Pt.sq_rt, ↓Pt.sq_bk, ↓Pt.sq_ct, ↓Pt.sq_ex, ↓Pt.gs_skip, ↓Pt.gs_brk, ↓Pt.gs_cnt, ↓Pt.gs_nx, ↓Pt.gs_put, ↓Pt.gs_putZ, ↓Pt.gt_map, ↓Pt.gs_ret, ↓Pt.gs_drop, ↓Pt.gs_if, ↓Pt.gs_bind, ↓Pt.gs_par, ↓Pt.gs_par3, ↓Pt.gs_for, ↓Pt.fg_nx, ↓Pt.fg_ct, ↓Pt.fg_bk, ↓Pt.fg_rt, ↓Pt.gs_frz, ↓Pt.fe_s, ↓Pt.fe_l, ↓Pt.fe_k, ↓Pt.fe_t, ↓Pt.fe_d, ↓Pt.gs_apd, ↓Pt.gs_putT, ↓Pt.gs_srcPut, ↓Pt.ox_add, ↓Pt.ox_addL, ↓Pt.ox_addT, ↓Pt.ox_sub, ↓Pt.ox_mul, ↓Pt.ox_div, ↓Pt.ox_mod, ↓Pt.ox_neg, ↓Pt.ox_lt, ↓Pt.ox_le, ↓Pt.ox_gt, ↓Pt.ox_ge, ↓Pt.ox_eq, ↓Pt.ox_ne, ↓Pt.ox_eqS, ↓Pt.ox_neS, ↓Pt.ox_eqL, ↓Pt.ox_neL, ↓Pt.ox_eqT, ↓Pt.ox_neT, ↓Pt.ox_ix0, ↓Pt.ox_ix1, ↓Pt.ox_ix2, ↓Pt.ox_ix3, ↓Pt.ox_ixT0, ↓Pt.ox_ixT1, ↓Pt.ox_ixT2, ↓Pt.ox_ixT3, ↓Pt.ox_pow20, ↓Pt.ox_lenL, ↓Pt.ox_lenT, ↓Pt.ox_int, ↓Pt.ox_abs, ↓Pt.ox_max, ↓Pt.ox_min, ↓Pt.ox_tup, ↓Pt.ox_tupT, ↓Pt.ox_list, ↓Pt.ox_listT, ↓Pt.ox_repr]
        obtain ⟨m, n, e, hmn⟩ := two Ms hl hm
        exact ⟨_, _, rfl, m, n, by rw [e], hmn⟩
    · rw [Pt.sq_nx]
      simp -implicitDefEqProofs (disch := (first | omega | assumption | exact Pt.mul_r (by omega) (by omega) | exact Pt.mul_l (by omega) (by omega) | exact ml _ _ | decide)) only [↓Pt.gt_ok, ↓Pt.gt_bind, ↓Pt.gt_lift, ↓Pt.at_0, ↓Pt.at_s, ↓Pt.nt_0, ↓Pt.nt_s, ↓Pt.vd_d, ↓Pt.vd_h, ↓Pt.vo_l, ↓Pt.vo_k, ↓Pt.vo_t, ↓Pt.vl_l, ↓Pt.vs_s, ↓Pt.pu_0, ↓Pt.pu_s, ↓Pt.wi_0, ↓Pt.wi_s, ↓Pt.bp_n, ↓Pt.bp_t, ↓Pt.bp_l, ↓Pt.bps_0, ↓Pt.bps_s, ↓Pt.bo_t, ↓Pt.bo_f, ↓Pt.bo_not, ↓Pt.gt_var, ↓Pt.gt_own, ↓Pt.gt_c, ↓Pt.gt_bin, ↓Pt.gt_un, ↓Pt.gt_tst, ↓Pt.gt_andT, ↓Pt.gt_orT, ↓Pt.gt_notT, ↓Pt.gt_and, ↓Pt.gt_or, ↓Pt.gt_not, ↓Pt.gt_if, ↓Pt.gt_chain, ↓Pt.gt_nil, ↓Pt.gt_cons, ↓Pt.gt_consA, ↓Pt.gt_consS, ↓Pt.gt_tup, ↓Pt.gt_lst, ↓Pt.gt_fz, ↓Pt.gt_fzD, ↓Pt.gt_call, ↓Pt.gt_callL, ↓Pt.gt_callK, ↓Pt.gt_app, ↓Pt.gt_sl, ↓Pt.gt_none, ↓Pt.gt_some, ↓Pt.ls_l, ↓Pt.gt_rev, ↓Pt.gt_sq, ↓Pt.ox_some, ↓Pt.seq_l, ↓Pt.seq_t, ↓Pt.tst_b, ↓Pt.intD_i, ↓Pt.z1_i, ↓Pt.z2_i, ↓Pt.gt_rg1, ↓Pt.gt_rg1J, ↓Pt.gt_rg2, ↓Pt.gt_srcI, ↓Pt.gt_srcLen, ↓Pt.gt_lc, ↓Pt.gt_yes, ↓Pt.gl_nil, ↓Pt.gl_cons, ↓Pt.gl_ok, ↓Pt.vh_h, ↓Pt.vt_t, ↓Pt.gt_ht, ↓Pt.gt_tupL, ↓Pt.lst_l, ↓Pt.gt_newD, ↓Pt.tag_t, ↓Pt.gt_get2T, ↓Pt.key_3, ↓Pt.zp_l, ↓Pt.zp_t, ↓Pt.gt_zip, ↓Pt.pair_0, ↓Pt.pair_s, ↓Pt.gs_seq, ↓Pt.sq_rt, ↓Pt.sq_bk, ↓Pt.sq_ct, ↓Pt.sq_ex, ↓Pt.gs_skip, ↓Pt.gs_brk, ↓Pt.gs_cnt, ↓Pt.gs_nx, ↓Pt.gs_put, ↓Pt.gs_putZ, ↓Pt.gt_map, ↓Pt.gs_ret, ↓Pt.gs_drop, ↓Pt.gs_if, ↓Pt.gs_bind, ↓Pt.gs_par, ↓Pt.gs_par3, ↓Pt.gs_for, ↓Pt.fg_nx, ↓Pt.fg_ct, ↓Pt.fg_bk, ↓Pt.fg_rt, ↓Pt.gs_frz, ↓Pt.fe_s, ↓Pt.fe_l, ↓Pt.fe_k, ↓Pt.fe_t, ↓Pt.fe_d, ↓Pt.gs_apd, ↓Pt.gs_putT, ↓Pt.gs_srcPut, ↓Pt.ox_add, ↓Pt.ox_addL, ↓Pt.ox_addT, ↓Pt.ox_sub, ↓Pt.ox_mul, ↓Pt.ox_div, ↓Pt.ox_mod, ↓Pt.ox_neg, ↓Pt.ox_lt, ↓Pt.ox_le, ↓Pt.ox_gt, ↓Pt.ox_ge, ↓Pt.ox_eq, ↓Pt.ox_ne, ↓Pt.ox_eqS, ↓Pt.ox_neS, ↓Pt.ox_eqL, ↓Pt.ox_neL, ↓Pt.ox_eqT, ↓Pt.ox_neT, ↓Pt.ox_ix0, ↓Pt.ox_ix1, ↓Pt.ox_ix2, ↓Pt.ox_ix3, ↓Pt.ox_ixT0, ↓Pt.ox_ixT1, ↓Pt.ox_ixT2, ↓Pt.ox_ixT3, ↓Pt.ox_pow20, ↓Pt.ox_lenL, ↓Pt.ox_lenT, ↓Pt.ox_int, ↓Pt.ox_abs, ↓Pt.ox_max, ↓Pt.ox_min, ↓Pt.ox_tup, ↓Pt.ox_tupT, ↓Pt.ox_list, ↓Pt.ox_listT, ↓Pt.ox_repr]
      refine gt_use (F_drawn4 _) ?_
      rintro _ s4 ⟨o, rfl, od, ol⟩
      refine gt_use (F_drawn4 _) ?_
      rintro _ s5 ⟨o2, rfl, od2, ol2⟩
      exact ⟨z2 _ _, _, _, rfl, o, o2, rfl, ⟨od, M4.le_mono ol (by decide)⟩, od2, M4.le_mono ol2 (by decide)⟩
end K52

/-! k52: the law. -/
namespace K52
open PySem PySem.Spec PyProof.Rows L2 Pt Pg
def I1 (e : Sg) : Prop := ∃ x0 x2 x3 x4 x5 x6 x7 x8 x9 x10 x11 x12 x13 x14 x15 x16 : Sl, e = [x0, .src, x2, x3, x4, x5, x6, x7, x8, x9, x10, x11, x12, x13, x14, x15, x16]
def ones : List Pt.D := [.tuple [.int 1, .int 0], .tuple [.int (-3), .int 1], .tuple [.int (-2), .int 1], .tuple [.int (-1), .int 1], .tuple [.int 0, .int 1], .tuple [.int 1, .int 1], .tuple [.int 2, .int 1], .tuple [.int 3, .int 1]]
theorem ones_mem {x : Pt.D} (h : x ∈ ones) : ∃ p q : Int, x = .tuple [.int p, .int q] ∧ ((p = 1 ∧ q = 0) ∨ q = 1) ∧ p.natAbs ≤ 3 ∧ q.natAbs ≤ 1 := by
  unfold ones at h
  simp only [List.mem_cons, List.not_mem_nil, or_false] at h
  rcases h with rfl | rfl | rfl | rfl | rfl | rfl | rfl | rfl <;> exact ⟨_, _, rfl, by omega, by decide, by decide⟩
theorem mulOk4 {p q r s : Int} (h : mulB p s = true ∧ mulB q r = true) : mulOk (.tuple [.int p, .int q, .int r, .int s]) := fun a b c d e => by
  simp only [PyData.tuple.injEq, List.cons.injEq, PyData.int.injEq] at e
  obtain ⟨rfl, rfl, rfl, rfl, _⟩ := e
  exact h
theorem mulOkN {v : Pt.D} (h : ∀ a b c d : Int, v ≠ .tuple [.int a, .int b, .int c, .int d]) : mulOk v := fun a b c d e => absurd e (h a b c d)
def odds (m n : M4) : List Pt.D := [PyData.tuple [.int m.a, .int m.b, .int m.c, .int m.d], .list [.int m.a, .int m.b, .int m.c, .int m.d], .tuple [.int m.a, .int m.b, .int m.c], .tuple [.int m.a, .int m.b, .int m.c, .int (m.d + 1)], .tuple [.int 1, .int 0, .int 0, .bool true], .none, .tuple [.tuple [.int m.a, .int m.b, .int m.c, .int m.d], .tuple [.int n.a, .int n.b, .int n.c, .int n.d]]]
theorem odds_ok (m n : M4) (ml : m.le 2125764) (nl : n.le 2125764) : ∀ v ∈ odds m n, mulOk v ∧ ∀ ds, v = .tuple ds → shB (.list (ds.filter fun v => !wholeB v)) = true := by
  have m1 : ∀ x y : Int, x.natAbs ≤ 2125764 → mulB x y = true := fun x y h => mul_l (by omega) (by omega)
  have se : shB (.list []) = true := by decide
  have wi : ∀ x : Int, wholeB (.int x) = true := fun _ => rfl
  have hs : shB (.list [m.D, n.D]) = true := sh_ok (by rw [Pt.plain, plainAll, plainAll, plainAll, plain_M4 (M4.le_mono ml (by decide)), plain_M4 (M4.le_mono nl (by decide))]; rfl) (by unfold M4.D; simp [PyData.depth, PyData.depthAll])
  obtain ⟨b1, b2, b3, b4⟩ := ml
  intro v hv
  unfold odds at hv
  simp only [List.mem_cons, List.not_mem_nil, or_false] at hv
  rcases hv with rfl | rfl | rfl | rfl | rfl | rfl | rfl
  · refine ⟨mulOk4 ⟨m1 _ _ b1, m1 _ _ b2⟩, fun ds h => ?_⟩
    rw [← PyData.tuple.inj h]
    simp only [List.filter_cons, List.filter_nil, wi, Bool.not_true, Bool.false_eq_true, if_false, se]
  · exact ⟨mulOkN fun _ _ _ _ => by simp, fun ds h => nomatch h⟩
  · refine ⟨mulOkN fun _ _ _ _ => by simp, fun ds h => ?_⟩
    rw [← PyData.tuple.inj h]
    simp only [List.filter_cons, List.filter_nil, wi, Bool.not_true, Bool.false_eq_true, if_false, se]
  · refine ⟨mulOk4 ⟨m1 _ _ b1, m1 _ _ b2⟩, fun ds h => ?_⟩
    rw [← PyData.tuple.inj h]
    simp only [List.filter_cons, List.filter_nil, wi, Bool.not_true, Bool.false_eq_true, if_false, se]
  · refine ⟨mulOkN fun _ _ _ _ => by simp, fun ds h => ?_⟩
    rw [← PyData.tuple.inj h]
    decide
  · exact ⟨mulOkN fun _ _ _ _ => by simp, fun ds h => nomatch h⟩
  · refine ⟨mulOkN fun _ _ _ _ => by simp, fun ds h => ?_⟩
    rw [← PyData.tuple.inj h]
    exact hs
section
variable {m n : M4} {kd : Str} {rest : List Pt.D} {x0 x1 x2 x6 x7 x8 x9 x10 x11 x12 x13 x14 x15 x16 : Sl} {s : Src}
theorem cols_ok (md : m.det = 1) (nd : n.det = 1) (ml : m.le 2125764) (nl : n.le 2125764) (told : Told m n kd rest) (hk : kd = "one" ∨ kd = "none") {Z : Sr → Prop}
    (hZ : ∀ (y9 y10 y11 : Sl) (s2 : Src), Z (.nx [x0, .src, x2, .d m.D, .d n.D, .d (.tuple (.str kd :: rest)), x6, x7, x8, y9, y10, y11, x12, x13, x14, x15, x16] s2)) :
    Gs (L_1_9b [x0, .src, x2, .d m.D, .d n.D, .d (.tuple (.str kd :: rest)), x6, x7, x8, x9, x10, x11, x12, x13, x14, x15, x16] s) Z := by
  have ms : m.le (10 ^ 10) := M4.le_mono ml (by decide)
  have ns : n.le (10 ^ 10) := M4.le_mono nl (by decide)
  have z2 : ∀ a b : Pt.D, szB [a, b].length = true := fun _ _ => rfl
  have z1 : ∀ a : Pt.D, szB [a].length = true := fun _ => rfl
  have r7 : (szB ((4 : Int) - -3).toNat && (rgB (-3) && rgB 4)) = true := by decide
  have rg7 : rangeL (-3) 1 ((4 : Int) - -3).toNat = [.int (-3), .int (-2), .int (-1), .int 0, .int 1, .int 2, .int 3] := rfl
  unfold L_1_9b
  rw [Pt.gs_seq]
  unfold L_1_9_1
  simp -implicitDefEqProofs (disch := (first | omega | assumption | exact Pt.mul_r (by omega) (by omega) | exact Pt.mul_l (by omega) (by omega) | exact ml _ _ | decide)) only [↓Pt.gt_ok, ↓Pt.gt_bind, ↓Pt.gt_lift, ↓Pt.at_0, ↓Pt.at_s, ↓Pt.nt_0, ↓Pt.nt_s, ↓Pt.vd_d, ↓Pt.vd_h, ↓Pt.vo_l, ↓Pt.vo_k, ↓Pt.vo_t, ↓Pt.vl_l, ↓Pt.vs_s, ↓Pt.pu_0, ↓Pt.pu_s, ↓Pt.wi_0, ↓Pt.wi_s, ↓Pt.bp_n, ↓Pt.bp_t, ↓Pt.bp_l, ↓Pt.bps_0, ↓Pt.bps_s, ↓Pt.bo_t, ↓Pt.bo_f, ↓Pt.bo_not, ↓Pt.gt_var, ↓Pt.gt_own, ↓Pt.gt_c, ↓Pt.gt_bin, ↓Pt.gt_un, ↓Pt.gt_tst, ↓Pt.gt_andT, ↓Pt.gt_orT, ↓Pt.gt_notT, ↓Pt.gt_and, ↓Pt.gt_or, ↓Pt.gt_not, ↓Pt.gt_if, ↓Pt.gt_chain, ↓Pt.gt_nil, ↓Pt.gt_cons, ↓Pt.gt_consA, ↓Pt.gt_consS, ↓Pt.gt_tup, ↓Pt.gt_lst, ↓Pt.gt_fz, ↓Pt.gt_fzD, ↓Pt.gt_call, ↓Pt.gt_callL, ↓Pt.gt_callK, ↓Pt.gt_app, ↓Pt.gt_sl, ↓Pt.gt_none, ↓Pt.gt_some, ↓Pt.ls_l, ↓Pt.gt_rev, ↓Pt.gt_sq, ↓Pt.ox_some, ↓Pt.seq_l, ↓Pt.seq_t, ↓Pt.tst_b, ↓Pt.intD_i, ↓Pt.z1_i, ↓Pt.z2_i, ↓Pt.gt_rg1, ↓Pt.gt_rg1J, ↓Pt.gt_rg2, ↓Pt.gt_srcI, ↓Pt.gt_srcLen, ↓Pt.gt_lc, ↓Pt.gt_yes, ↓Pt.gl_nil, ↓Pt.gl_cons, ↓Pt.gl_ok, ↓Pt.vh_h, ↓Pt.vt_t, ↓Pt.gt_ht, ↓Pt.gt_tupL, ↓Pt.lst_l, ↓Pt.gt_newD, ↓Pt.tag_t, ↓Pt.gt_get2T, ↓Pt.key_3, ↓Pt.zp_l, ↓Pt.zp_t, ↓Pt.gt_zip, ↓Pt.pair_0, ↓Pt.pair_s, ↓Pt.gs_seq, ↓Pt.sq_rt, ↓Pt.sq_bk, ↓Pt.sq_ct, ↓Pt.sq_ex, ↓Pt.gs_skip, ↓Pt.gs_brk, ↓Pt.gs_cnt, ↓Pt.gs_nx, ↓Pt.gs_put, ↓Pt.gs_putZ, ↓Pt.gt_map, ↓Pt.gs_ret, ↓Pt.gs_drop, ↓Pt.gs_if, ↓Pt.gs_bind, ↓Pt.gs_par, ↓Pt.gs_par3, ↓Pt.gs_for, ↓Pt.fg_nx, ↓Pt.fg_ct, ↓Pt.fg_bk, ↓Pt.fg_rt, ↓Pt.gs_frz, ↓Pt.fe_s, ↓Pt.fe_l, ↓Pt.fe_k, ↓Pt.fe_t, ↓Pt.fe_d, ↓Pt.gs_apd, ↓Pt.gs_putT, ↓Pt.gs_srcPut, ↓Pt.ox_add, ↓Pt.ox_addL, ↓Pt.ox_addT, ↓Pt.ox_sub, ↓Pt.ox_mul, ↓Pt.ox_div, ↓Pt.ox_mod, ↓Pt.ox_neg, ↓Pt.ox_lt, ↓Pt.ox_le, ↓Pt.ox_gt, ↓Pt.ox_ge, ↓Pt.ox_eq, ↓Pt.ox_ne, ↓Pt.ox_eqS, ↓Pt.ox_neS, ↓Pt.ox_eqL, ↓Pt.ox_neL, ↓Pt.ox_eqT, ↓Pt.ox_neT, ↓Pt.ox_ix0, ↓Pt.ox_ix1, ↓Pt.ox_ix2, ↓Pt.ox_ix3, ↓Pt.ox_ixT0, ↓Pt.ox_ixT1, ↓Pt.ox_ixT2, ↓Pt.ox_ixT3, ↓Pt.ox_pow20, ↓Pt.ox_lenL, ↓Pt.ox_lenT, ↓Pt.ox_int, ↓Pt.ox_abs, ↓Pt.ox_max, ↓Pt.ox_min, ↓Pt.ox_tup, ↓Pt.ox_tupT, ↓Pt.ox_list, ↓Pt.ox_listT, ↓Pt.ox_repr, ↓Pt.wl_nx, ↓Pt.wl_ct, ↓Pt.wl_bk, ↓Pt.wl_rt, ↓Pt.wl_ex, ↓Pt.gt_rg2J, ↓Pt.gt_isiW, ↓Pt.ox_gcdW, z1, z2, true_and, r7, rg7]
  refine ⟨rfl, ?_⟩
  rw [Pt.sq_nx]
  unfold L_1_9_2
  have ap : ∀ a b : List Pt.D, a ++ b = a ++ b := fun _ _ => rfl
  simp -implicitDefEqProofs (disch := (first | omega | assumption | exact Pt.mul_r (by omega) (by omega) | exact Pt.mul_l (by omega) (by omega) | exact ml _ _ | decide)) only [↓Pt.gt_ok, ↓Pt.gt_bind, ↓Pt.gt_lift, ↓Pt.at_0, ↓Pt.at_s, ↓Pt.nt_0, ↓Pt.nt_s, ↓Pt.vd_d, ↓Pt.vd_h, ↓Pt.vo_l, ↓Pt.vo_k, ↓Pt.vo_t, ↓Pt.vl_l, ↓Pt.vs_s, ↓Pt.pu_0, ↓Pt.pu_s, ↓Pt.wi_0, ↓Pt.wi_s, ↓Pt.bp_n, ↓Pt.bp_t, ↓Pt.bp_l, ↓Pt.bps_0, ↓Pt.bps_s, ↓Pt.bo_t, ↓Pt.bo_f, ↓Pt.bo_not, ↓Pt.gt_var, ↓Pt.gt_own, ↓Pt.gt_c, ↓Pt.gt_bin, ↓Pt.gt_un, ↓Pt.gt_tst, ↓Pt.gt_andT, ↓Pt.gt_orT, ↓Pt.gt_notT, ↓Pt.gt_and, ↓Pt.gt_or, ↓Pt.gt_not, ↓Pt.gt_if, ↓Pt.gt_chain, ↓Pt.gt_nil, ↓Pt.gt_cons, ↓Pt.gt_consA, ↓Pt.gt_consS, ↓Pt.gt_tup, ↓Pt.gt_lst, ↓Pt.gt_fz, ↓Pt.gt_fzD, ↓Pt.gt_call, ↓Pt.gt_callL, ↓Pt.gt_callK, ↓Pt.gt_app, ↓Pt.gt_sl, ↓Pt.gt_none, ↓Pt.gt_some, ↓Pt.ls_l, ↓Pt.gt_rev, ↓Pt.gt_sq, ↓Pt.ox_some, ↓Pt.seq_l, ↓Pt.seq_t, ↓Pt.tst_b, ↓Pt.intD_i, ↓Pt.z1_i, ↓Pt.z2_i, ↓Pt.gt_rg1, ↓Pt.gt_rg1J, ↓Pt.gt_rg2, ↓Pt.gt_srcI, ↓Pt.gt_srcLen, ↓Pt.gt_lc, ↓Pt.gt_yes, ↓Pt.gl_nil, ↓Pt.gl_cons, ↓Pt.gl_ok, ↓Pt.vh_h, ↓Pt.vt_t, ↓Pt.gt_ht, ↓Pt.gt_tupL, ↓Pt.lst_l, ↓Pt.gt_newD, ↓Pt.tag_t, ↓Pt.gt_get2T, ↓Pt.key_3, ↓Pt.zp_l, ↓Pt.zp_t, ↓Pt.gt_zip, ↓Pt.pair_0, ↓Pt.pair_s, ↓Pt.gs_seq, ↓Pt.sq_rt, ↓Pt.sq_bk, ↓Pt.sq_ct, ↓Pt.sq_ex, ↓Pt.gs_skip, ↓Pt.gs_brk, ↓Pt.gs_cnt, ↓Pt.gs_nx, ↓Pt.gs_put, ↓Pt.gs_putZ, ↓Pt.gt_map, ↓Pt.gs_ret, ↓Pt.gs_drop, ↓Pt.gs_if, ↓Pt.gs_bind, ↓Pt.gs_par, ↓Pt.gs_par3, ↓Pt.gs_for, ↓Pt.fg_nx, ↓Pt.fg_ct, ↓Pt.fg_bk, ↓Pt.fg_rt, ↓Pt.gs_frz, ↓Pt.fe_s, ↓Pt.fe_l, ↓Pt.fe_k, ↓Pt.fe_t, ↓Pt.fe_d, ↓Pt.gs_apd, ↓Pt.gs_putT, ↓Pt.gs_srcPut, ↓Pt.ox_add, ↓Pt.ox_addL, ↓Pt.ox_addT, ↓Pt.ox_sub, ↓Pt.ox_mul, ↓Pt.ox_div, ↓Pt.ox_mod, ↓Pt.ox_neg, ↓Pt.ox_lt, ↓Pt.ox_le, ↓Pt.ox_gt, ↓Pt.ox_ge, ↓Pt.ox_eq, ↓Pt.ox_ne, ↓Pt.ox_eqS, ↓Pt.ox_neS, ↓Pt.ox_eqL, ↓Pt.ox_neL, ↓Pt.ox_eqT, ↓Pt.ox_neT, ↓Pt.ox_ix0, ↓Pt.ox_ix1, ↓Pt.ox_ix2, ↓Pt.ox_ix3, ↓Pt.ox_ixT0, ↓Pt.ox_ixT1, ↓Pt.ox_ixT2, ↓Pt.ox_ixT3, ↓Pt.ox_pow20, ↓Pt.ox_lenL, ↓Pt.ox_lenT, ↓Pt.ox_int, ↓Pt.ox_abs, ↓Pt.ox_max, ↓Pt.ox_min, ↓Pt.ox_tup, ↓Pt.ox_tupT, ↓Pt.ox_list, ↓Pt.ox_listT, ↓Pt.ox_repr, ↓Pt.wl_nx, ↓Pt.wl_ct, ↓Pt.wl_bk, ↓Pt.wl_rt, ↓Pt.wl_ex, ↓Pt.gt_rg2J, ↓Pt.gt_isiW, ↓Pt.ox_gcdW]
  refine Pt.gs_laps (fun e => ∃ y10 y11 : Sl, e = [x0, .src, x2, .d m.D, .d n.D, .d (.tuple (.str kd :: rest)), x6, x7, x8, .d (.list ones), y10, y11, x12, x13, x14, x15, x16]) ⟨_, _, rfl⟩ (fun x hx e s1 he => ?_) fun e s1 he => ?_
  · obtain ⟨y10, y11, rfl⟩ := he
    obtain ⟨p, q, rfl, hpq, hp, hq⟩ := ones_mem hx
    have g1 := F_iskept m p q s1 ms (Nat.le_trans hp (by decide)) (Nat.le_trans hq (by decide))
    have g2 := F_iskept n p q s1 ns (Nat.le_trans hp (by decide)) (Nat.le_trans hq (by decide))
    unfold L_1_9_2b
    simp -implicitDefEqProofs (disch := (first | omega | assumption | exact Pt.mul_r (by omega) (by omega) | exact Pt.mul_l (by omega) (by omega) | exact ml _ _ | decide)) only [↓Pt.gt_ok, ↓Pt.gt_bind, ↓Pt.gt_lift, ↓Pt.at_0, ↓Pt.at_s, ↓Pt.nt_0, ↓Pt.nt_s, ↓Pt.vd_d, ↓Pt.vd_h, ↓Pt.vo_l, ↓Pt.vo_k, ↓Pt.vo_t, ↓Pt.vl_l, ↓Pt.vs_s, ↓Pt.pu_0, ↓Pt.pu_s, ↓Pt.wi_0, ↓Pt.wi_s, ↓Pt.bp_n, ↓Pt.bp_t, ↓Pt.bp_l, ↓Pt.bps_0, ↓Pt.bps_s, ↓Pt.bo_t, ↓Pt.bo_f, ↓Pt.bo_not, ↓Pt.gt_var, ↓Pt.gt_own, ↓Pt.gt_c, ↓Pt.gt_bin, ↓Pt.gt_un, ↓Pt.gt_tst, ↓Pt.gt_andT, ↓Pt.gt_orT, ↓Pt.gt_notT, ↓Pt.gt_and, ↓Pt.gt_or, ↓Pt.gt_not, ↓Pt.gt_if, ↓Pt.gt_chain, ↓Pt.gt_nil, ↓Pt.gt_cons, ↓Pt.gt_consA, ↓Pt.gt_consS, ↓Pt.gt_tup, ↓Pt.gt_lst, ↓Pt.gt_fz, ↓Pt.gt_fzD, ↓Pt.gt_call, ↓Pt.gt_callL, ↓Pt.gt_callK, ↓Pt.gt_app, ↓Pt.gt_sl, ↓Pt.gt_none, ↓Pt.gt_some, ↓Pt.ls_l, ↓Pt.gt_rev, ↓Pt.gt_sq, ↓Pt.ox_some, ↓Pt.seq_l, ↓Pt.seq_t, ↓Pt.tst_b, ↓Pt.intD_i, ↓Pt.z1_i, ↓Pt.z2_i, ↓Pt.gt_rg1, ↓Pt.gt_rg1J, ↓Pt.gt_rg2, ↓Pt.gt_srcI, ↓Pt.gt_srcLen, ↓Pt.gt_lc, ↓Pt.gt_yes, ↓Pt.gl_nil, ↓Pt.gl_cons, ↓Pt.gl_ok, ↓Pt.vh_h, ↓Pt.vt_t, ↓Pt.gt_ht, ↓Pt.gt_tupL, ↓Pt.lst_l, ↓Pt.gt_newD, ↓Pt.tag_t, ↓Pt.gt_get2T, ↓Pt.key_3, ↓Pt.zp_l, ↓Pt.zp_t, ↓Pt.gt_zip, ↓Pt.pair_0, ↓Pt.pair_s, ↓Pt.gs_seq, ↓Pt.sq_rt, ↓Pt.sq_bk, ↓Pt.sq_ct, ↓Pt.sq_ex, ↓Pt.gs_skip, ↓Pt.gs_brk, ↓Pt.gs_cnt, ↓Pt.gs_nx, ↓Pt.gs_put, ↓Pt.gs_putZ, ↓Pt.gt_map, ↓Pt.gs_ret, ↓Pt.gs_drop, ↓Pt.gs_if, ↓Pt.gs_bind, ↓Pt.gs_par, ↓Pt.gs_par3, ↓Pt.gs_for, ↓Pt.fg_nx, ↓Pt.fg_ct, ↓Pt.fg_bk, ↓Pt.fg_rt, ↓Pt.gs_frz, ↓Pt.fe_s, ↓Pt.fe_l, ↓Pt.fe_k, ↓Pt.fe_t, ↓Pt.fe_d, ↓Pt.gs_apd, ↓Pt.gs_putT, ↓Pt.gs_srcPut, ↓Pt.ox_add, ↓Pt.ox_addL, ↓Pt.ox_addT, ↓Pt.ox_sub, ↓Pt.ox_mul, ↓Pt.ox_div, ↓Pt.ox_mod, ↓Pt.ox_neg, ↓Pt.ox_lt, ↓Pt.ox_le, ↓Pt.ox_gt, ↓Pt.ox_ge, ↓Pt.ox_eq, ↓Pt.ox_ne, ↓Pt.ox_eqS, ↓Pt.ox_neS, ↓Pt.ox_eqL, ↓Pt.ox_neL, ↓Pt.ox_eqT, ↓Pt.ox_neT, ↓Pt.ox_ix0, ↓Pt.ox_ix1, ↓Pt.ox_ix2, ↓Pt.ox_ix3, ↓Pt.ox_ixT0, ↓Pt.ox_ixT1, ↓Pt.ox_ixT2, ↓Pt.ox_ixT3, ↓Pt.ox_pow20, ↓Pt.ox_lenL, ↓Pt.ox_lenT, ↓Pt.ox_int, ↓Pt.ox_abs, ↓Pt.ox_max, ↓Pt.ox_min, ↓Pt.ox_tup, ↓Pt.ox_tupT, ↓Pt.ox_list, ↓Pt.ox_listT, ↓Pt.ox_repr, ↓Pt.wl_nx, ↓Pt.wl_ct, ↓Pt.wl_bk, ↓Pt.wl_rt, ↓Pt.wl_ex, ↓Pt.gt_rg2J, ↓Pt.gt_isiW, ↓Pt.ox_gcdW]
    unfold L_1_9_2_1
    have vl : ∀ y10 y11 : Sl, mAnd (mApp F_law_is_kept (mConsA (mVar 3) (mConsA (mVar 10) mNil))) (mApp F_law_is_kept (mConsA (mVar 4) (mConsA (mVar 10) mNil))) [x0, .src, x2, .d m.D, .d n.D, .d (.tuple (.str kd :: rest)), x6, x7, x8, .d (.list ones), .d (.tuple [.int p, .int q]), y11, x12, x13, x14, x15, x16] s1 = .ok (.bool (decide (m.kf p q = 0) && decide (n.kf p q = 0))) s1 := fun y10 y11 => by
      refine gt_val ?_
      simp -implicitDefEqProofs (disch := (first | omega | assumption | exact Pt.mul_r (by omega) (by omega) | exact Pt.mul_l (by omega) (by omega) | exact ml _ _ | decide)) only [↓Pt.gt_ok, ↓Pt.gt_bind, ↓Pt.gt_lift, ↓Pt.at_0, ↓Pt.at_s, ↓Pt.nt_0, ↓Pt.nt_s, ↓Pt.vd_d, ↓Pt.vd_h, ↓Pt.vo_l, ↓Pt.vo_k, ↓Pt.vo_t, ↓Pt.vl_l, ↓Pt.vs_s, ↓Pt.pu_0, ↓Pt.pu_s, ↓Pt.wi_0, ↓Pt.wi_s, ↓Pt.bp_n, ↓Pt.bp_t, ↓Pt.bp_l, ↓Pt.bps_0, ↓Pt.bps_s, ↓Pt.bo_t, ↓Pt.bo_f, ↓Pt.bo_not, ↓Pt.gt_var, ↓Pt.gt_own, ↓Pt.gt_c, ↓Pt.gt_bin, ↓Pt.gt_un, ↓Pt.gt_tst, ↓Pt.gt_andT, ↓Pt.gt_orT, ↓Pt.gt_notT, ↓Pt.gt_and, ↓Pt.gt_or, ↓Pt.gt_not, ↓Pt.gt_if, ↓Pt.gt_chain, ↓Pt.gt_nil, ↓Pt.gt_cons, ↓Pt.gt_consA, ↓Pt.gt_consS, ↓Pt.gt_tup, ↓Pt.gt_lst, ↓Pt.gt_fz, ↓Pt.gt_fzD, ↓Pt.gt_call, ↓Pt.gt_callL, ↓Pt.gt_callK, ↓Pt.gt_app, ↓Pt.gt_sl, ↓Pt.gt_none, ↓Pt.gt_some, ↓Pt.ls_l, ↓Pt.gt_rev, ↓Pt.gt_sq, ↓Pt.ox_some, ↓Pt.seq_l, ↓Pt.seq_t, ↓Pt.tst_b, ↓Pt.intD_i, ↓Pt.z1_i, ↓Pt.z2_i, ↓Pt.gt_rg1, ↓Pt.gt_rg1J, ↓Pt.gt_rg2, ↓Pt.gt_srcI, ↓Pt.gt_srcLen, ↓Pt.gt_lc, ↓Pt.gt_yes, ↓Pt.gl_nil, ↓Pt.gl_cons, ↓Pt.gl_ok, ↓Pt.vh_h, ↓Pt.vt_t, ↓Pt.gt_ht, ↓Pt.gt_tupL, ↓Pt.lst_l, ↓Pt.gt_newD, ↓Pt.tag_t, ↓Pt.gt_get2T, ↓Pt.key_3, ↓Pt.zp_l, ↓Pt.zp_t, ↓Pt.gt_zip, ↓Pt.pair_0, ↓Pt.pair_s, ↓Pt.gs_seq, ↓Pt.sq_nx, ↓Pt.sq_rt, ↓Pt.sq_bk, ↓Pt.sq_ct, ↓Pt.sq_ex, ↓Pt.gs_skip, ↓Pt.gs_brk, ↓Pt.gs_cnt, ↓Pt.gs_nx, ↓Pt.gs_put, ↓Pt.gs_putZ, ↓Pt.gt_map, ↓Pt.gs_ret, ↓Pt.gs_drop, ↓Pt.gs_if, ↓Pt.gs_bind, ↓Pt.gs_par, ↓Pt.gs_par3, ↓Pt.gs_for, ↓Pt.fg_nx, ↓Pt.fg_ct, ↓Pt.fg_bk, ↓Pt.fg_rt, ↓Pt.gs_frz, ↓Pt.fe_s, ↓Pt.fe_l, ↓Pt.fe_k, ↓Pt.fe_t, ↓Pt.fe_d, ↓Pt.gs_apd, ↓Pt.gs_putT, ↓Pt.gs_srcPut, ↓Pt.ox_add, ↓Pt.ox_addL, ↓Pt.ox_addT, ↓Pt.ox_sub, ↓Pt.ox_mul, ↓Pt.ox_div, ↓Pt.ox_mod, ↓Pt.ox_neg, ↓Pt.ox_lt, ↓Pt.ox_le, ↓Pt.ox_gt, ↓Pt.ox_ge, ↓Pt.ox_eq, ↓Pt.ox_ne, ↓Pt.ox_eqS, ↓Pt.ox_neS, ↓Pt.ox_eqL, ↓Pt.ox_neL, ↓Pt.ox_eqT, ↓Pt.ox_neT, ↓Pt.ox_ix0, ↓Pt.ox_ix1, ↓Pt.ox_ix2, ↓Pt.ox_ix3, ↓Pt.ox_ixT0, ↓Pt.ox_ixT1, ↓Pt.ox_ixT2, ↓Pt.ox_ixT3, ↓Pt.ox_pow20, ↓Pt.ox_lenL, ↓Pt.ox_lenT, ↓Pt.ox_int, ↓Pt.ox_abs, ↓Pt.ox_max, ↓Pt.ox_min, ↓Pt.ox_tup, ↓Pt.ox_tupT, ↓Pt.ox_list, ↓Pt.ox_listT, ↓Pt.ox_repr, ↓Pt.wl_nx, ↓Pt.wl_ct, ↓Pt.wl_bk, ↓Pt.wl_rt, ↓Pt.wl_ex, ↓Pt.gt_rg2J, ↓Pt.gt_isiW, ↓Pt.ox_gcdW, ↓gt_eq g1, ↓gt_eq g2]
      refine bo_mk (fun h => ?_) fun h => ?_ <;> rw [h] <;> simp
    rw [Pt.gs_put, Pt.gt_map, gt_eq (vl y10 y11)]
    simp -implicitDefEqProofs (disch := (first | omega | assumption | exact Pt.mul_r (by omega) (by omega) | exact Pt.mul_l (by omega) (by omega) | exact ml _ _ | decide)) only [↓Pt.gt_ok, ↓Pt.gt_bind, ↓Pt.gt_lift, ↓Pt.at_0, ↓Pt.at_s, ↓Pt.nt_0, ↓Pt.nt_s, ↓Pt.vd_d, ↓Pt.vd_h, ↓Pt.vo_l, ↓Pt.vo_k, ↓Pt.vo_t, ↓Pt.vl_l, ↓Pt.vs_s, ↓Pt.pu_0, ↓Pt.pu_s, ↓Pt.wi_0, ↓Pt.wi_s, ↓Pt.bp_n, ↓Pt.bp_t, ↓Pt.bp_l, ↓Pt.bps_0, ↓Pt.bps_s, ↓Pt.bo_t, ↓Pt.bo_f, ↓Pt.bo_not, ↓Pt.gt_var, ↓Pt.gt_own, ↓Pt.gt_c, ↓Pt.gt_bin, ↓Pt.gt_un, ↓Pt.gt_tst, ↓Pt.gt_andT, ↓Pt.gt_orT, ↓Pt.gt_notT, ↓Pt.gt_and, ↓Pt.gt_or, ↓Pt.gt_not, ↓Pt.gt_if, ↓Pt.gt_chain, ↓Pt.gt_nil, ↓Pt.gt_cons, ↓Pt.gt_consA, ↓Pt.gt_consS, ↓Pt.gt_tup, ↓Pt.gt_lst, ↓Pt.gt_fz, ↓Pt.gt_fzD, ↓Pt.gt_call, ↓Pt.gt_callL, ↓Pt.gt_callK, ↓Pt.gt_app, ↓Pt.gt_sl, ↓Pt.gt_none, ↓Pt.gt_some, ↓Pt.ls_l, ↓Pt.gt_rev, ↓Pt.gt_sq, ↓Pt.ox_some, ↓Pt.seq_l, ↓Pt.seq_t, ↓Pt.tst_b, ↓Pt.intD_i, ↓Pt.z1_i, ↓Pt.z2_i, ↓Pt.gt_rg1, ↓Pt.gt_rg1J, ↓Pt.gt_rg2, ↓Pt.gt_srcI, ↓Pt.gt_srcLen, ↓Pt.gt_lc, ↓Pt.gt_yes, ↓Pt.gl_nil, ↓Pt.gl_cons, ↓Pt.gl_ok, ↓Pt.vh_h, ↓Pt.vt_t, ↓Pt.gt_ht, ↓Pt.gt_tupL, ↓Pt.lst_l, ↓Pt.gt_newD, ↓Pt.tag_t, ↓Pt.gt_get2T, ↓Pt.key_3, ↓Pt.zp_l, ↓Pt.zp_t, ↓Pt.gt_zip, ↓Pt.pair_0, ↓Pt.pair_s, ↓Pt.gs_seq, ↓Pt.sq_rt, ↓Pt.sq_bk, ↓Pt.sq_ct, ↓Pt.sq_ex, ↓Pt.gs_skip, ↓Pt.gs_brk, ↓Pt.gs_cnt, ↓Pt.gs_nx, ↓Pt.gs_put, ↓Pt.gs_putZ, ↓Pt.gt_map, ↓Pt.gs_ret, ↓Pt.gs_drop, ↓Pt.gs_if, ↓Pt.gs_bind, ↓Pt.gs_par, ↓Pt.gs_par3, ↓Pt.gs_for, ↓Pt.fg_nx, ↓Pt.fg_ct, ↓Pt.fg_bk, ↓Pt.fg_rt, ↓Pt.gs_frz, ↓Pt.fe_s, ↓Pt.fe_l, ↓Pt.fe_k, ↓Pt.fe_t, ↓Pt.fe_d, ↓Pt.gs_apd, ↓Pt.gs_putT, ↓Pt.gs_srcPut, ↓Pt.ox_add, ↓Pt.ox_addL, ↓Pt.ox_addT, ↓Pt.ox_sub, ↓Pt.ox_mul, ↓Pt.ox_div, ↓Pt.ox_mod, ↓Pt.ox_neg, ↓Pt.ox_lt, ↓Pt.ox_le, ↓Pt.ox_gt, ↓Pt.ox_ge, ↓Pt.ox_eq, ↓Pt.ox_ne, ↓Pt.ox_eqS, ↓Pt.ox_neS, ↓Pt.ox_eqL, ↓Pt.ox_neL, ↓Pt.ox_eqT, ↓Pt.ox_neT, ↓Pt.ox_ix0, ↓Pt.ox_ix1, ↓Pt.ox_ix2, ↓Pt.ox_ix3, ↓Pt.ox_ixT0, ↓Pt.ox_ixT1, ↓Pt.ox_ixT2, ↓Pt.ox_ixT3, ↓Pt.ox_pow20, ↓Pt.ox_lenL, ↓Pt.ox_lenT, ↓Pt.ox_int, ↓Pt.ox_abs, ↓Pt.ox_max, ↓Pt.ox_min, ↓Pt.ox_tup, ↓Pt.ox_tupT, ↓Pt.ox_list, ↓Pt.ox_listT, ↓Pt.ox_repr, ↓Pt.wl_nx, ↓Pt.wl_ct, ↓Pt.wl_bk, ↓Pt.wl_rt, ↓Pt.wl_ex, ↓Pt.gt_rg2J, ↓Pt.gt_isiW, ↓Pt.ox_gcdW]
    rw [Pt.sq_nx]
    unfold L_1_9_2_2
    refine gs_keepW ?_ ⟨_, _, rfl, _, _, rfl⟩
    simp -implicitDefEqProofs (disch := (first | omega | assumption | exact Pt.mul_r (by omega) (by omega) | exact Pt.mul_l (by omega) (by omega) | exact ml _ _ | decide)) only [↓Pt.gt_ok, ↓Pt.gt_bind, ↓Pt.gt_lift, ↓Pt.at_0, ↓Pt.at_s, ↓Pt.nt_0, ↓Pt.nt_s, ↓Pt.vd_d, ↓Pt.vd_h, ↓Pt.vo_l, ↓Pt.vo_k, ↓Pt.vo_t, ↓Pt.vl_l, ↓Pt.vs_s, ↓Pt.pu_0, ↓Pt.pu_s, ↓Pt.wi_0, ↓Pt.wi_s, ↓Pt.bp_n, ↓Pt.bp_t, ↓Pt.bp_l, ↓Pt.bps_0, ↓Pt.bps_s, ↓Pt.bo_t, ↓Pt.bo_f, ↓Pt.bo_not, ↓Pt.gt_var, ↓Pt.gt_own, ↓Pt.gt_c, ↓Pt.gt_bin, ↓Pt.gt_un, ↓Pt.gt_tst, ↓Pt.gt_andT, ↓Pt.gt_orT, ↓Pt.gt_notT, ↓Pt.gt_and, ↓Pt.gt_or, ↓Pt.gt_not, ↓Pt.gt_if, ↓Pt.gt_chain, ↓Pt.gt_nil, ↓Pt.gt_cons, ↓Pt.gt_consA, ↓Pt.gt_consS, ↓Pt.gt_tup, ↓Pt.gt_lst, ↓Pt.gt_fz, ↓Pt.gt_fzD, ↓Pt.gt_call, ↓Pt.gt_callL, ↓Pt.gt_callK, ↓Pt.gt_app, ↓Pt.gt_sl, ↓Pt.gt_none, ↓Pt.gt_some, ↓Pt.ls_l, ↓Pt.gt_rev, ↓Pt.gt_sq, ↓Pt.ox_some, ↓Pt.seq_l, ↓Pt.seq_t, ↓Pt.tst_b, ↓Pt.intD_i, ↓Pt.z1_i, ↓Pt.z2_i, ↓Pt.gt_rg1, ↓Pt.gt_rg1J, ↓Pt.gt_rg2, ↓Pt.gt_srcI, ↓Pt.gt_srcLen, ↓Pt.gt_lc, ↓Pt.gt_yes, ↓Pt.gl_nil, ↓Pt.gl_cons, ↓Pt.gl_ok, ↓Pt.vh_h, ↓Pt.vt_t, ↓Pt.gt_ht, ↓Pt.gt_tupL, ↓Pt.lst_l, ↓Pt.gt_newD, ↓Pt.tag_t, ↓Pt.gt_get2T, ↓Pt.key_3, ↓Pt.zp_l, ↓Pt.zp_t, ↓Pt.gt_zip, ↓Pt.pair_0, ↓Pt.pair_s, ↓Pt.gs_seq, ↓Pt.sq_nx, ↓Pt.sq_rt, ↓Pt.sq_bk, ↓Pt.sq_ct, ↓Pt.sq_ex, ↓Pt.gs_skip, ↓Pt.gs_brk, ↓Pt.gs_cnt, ↓Pt.gs_nx, ↓Pt.gs_put, ↓Pt.gs_putZ, ↓Pt.gt_map, ↓Pt.gs_ret, ↓Pt.gs_drop, ↓Pt.gs_if, ↓Pt.gs_bind, ↓Pt.gs_par, ↓Pt.gs_par3, ↓Pt.gs_for, ↓Pt.fg_nx, ↓Pt.fg_ct, ↓Pt.fg_bk, ↓Pt.fg_rt, ↓Pt.gs_frz, ↓Pt.fe_s, ↓Pt.fe_l, ↓Pt.fe_k, ↓Pt.fe_t, ↓Pt.fe_d, ↓Pt.gs_apd, ↓Pt.gs_putT, ↓Pt.gs_srcPut, ↓Pt.ox_add, ↓Pt.ox_addL, ↓Pt.ox_addT, ↓Pt.ox_sub, ↓Pt.ox_mul, ↓Pt.ox_div, ↓Pt.ox_mod, ↓Pt.ox_neg, ↓Pt.ox_lt, ↓Pt.ox_le, ↓Pt.ox_gt, ↓Pt.ox_ge, ↓Pt.ox_eq, ↓Pt.ox_ne, ↓Pt.ox_eqS, ↓Pt.ox_neS, ↓Pt.ox_eqL, ↓Pt.ox_neL, ↓Pt.ox_eqT, ↓Pt.ox_neT, ↓Pt.ox_ix0, ↓Pt.ox_ix1, ↓Pt.ox_ix2, ↓Pt.ox_ix3, ↓Pt.ox_ixT0, ↓Pt.ox_ixT1, ↓Pt.ox_ixT2, ↓Pt.ox_ixT3, ↓Pt.ox_pow20, ↓Pt.ox_lenL, ↓Pt.ox_lenT, ↓Pt.ox_int, ↓Pt.ox_abs, ↓Pt.ox_max, ↓Pt.ox_min, ↓Pt.ox_tup, ↓Pt.ox_tupT, ↓Pt.ox_list, ↓Pt.ox_listT, ↓Pt.ox_repr, ↓Pt.wl_nx, ↓Pt.wl_ct, ↓Pt.wl_bk, ↓Pt.wl_rt, ↓Pt.wl_ex, ↓Pt.gt_rg2J, ↓Pt.gt_isiW, ↓Pt.ox_gcdW]
    refine bo_mk (fun h => ?_) fun h => by simp
    rw [Bool.and_eq_true, decide_eq_true_eq, decide_eq_true_eq] at h
    refine bo_mk (fun h1 => ?_) fun h1 => ?_
    · exact absurd (M4.both_k md nd hpq h.1 h.2) (told.none (of_decide_eq_true h1)).1
    · have k1 : kd = "one" := hk.resolve_right (of_decide_eq_false h1)
      obtain ⟨u, v, hr, hu, hv, nn, _, _, only⟩ := told.one k1
      have e1 := only p q h.1 h.2
      have m1 : mulB u q = true := mul_r (by omega) (by omega)
      have m2 : mulB v p = true := mul_r (by omega) (by omega)
      rw [hr]
      simp -implicitDefEqProofs (disch := (first | assumption | decide)) only [↓Pt.gt_ok, ↓Pt.gt_bind, ↓Pt.gt_lift, ↓Pt.at_0, ↓Pt.at_s, ↓Pt.nt_0, ↓Pt.nt_s, ↓Pt.vd_d, ↓Pt.vd_h, ↓Pt.vo_l, ↓Pt.vo_k, ↓Pt.vo_t, ↓Pt.vl_l, ↓Pt.vs_s, ↓Pt.pu_0, ↓Pt.pu_s, ↓Pt.wi_0, ↓Pt.wi_s, ↓Pt.bp_n, ↓Pt.bp_t, ↓Pt.bp_l, ↓Pt.bps_0, ↓Pt.bps_s, ↓Pt.bo_t, ↓Pt.bo_f, ↓Pt.bo_not, ↓Pt.gt_var, ↓Pt.gt_own, ↓Pt.gt_c, ↓Pt.gt_bin, ↓Pt.gt_un, ↓Pt.gt_tst, ↓Pt.gt_andT, ↓Pt.gt_orT, ↓Pt.gt_notT, ↓Pt.gt_and, ↓Pt.gt_or, ↓Pt.gt_not, ↓Pt.gt_if, ↓Pt.gt_chain, ↓Pt.gt_nil, ↓Pt.gt_cons, ↓Pt.gt_consA, ↓Pt.gt_consS, ↓Pt.gt_tup, ↓Pt.gt_lst, ↓Pt.gt_fz, ↓Pt.gt_fzD, ↓Pt.gt_call, ↓Pt.gt_callL, ↓Pt.gt_callK, ↓Pt.gt_app, ↓Pt.gt_sl, ↓Pt.gt_none, ↓Pt.gt_some, ↓Pt.ls_l, ↓Pt.gt_rev, ↓Pt.gt_sq, ↓Pt.ox_some, ↓Pt.seq_l, ↓Pt.seq_t, ↓Pt.tst_b, ↓Pt.intD_i, ↓Pt.z1_i, ↓Pt.z2_i, ↓Pt.gt_rg1, ↓Pt.gt_rg1J, ↓Pt.gt_rg2, ↓Pt.gt_srcI, ↓Pt.gt_srcLen, ↓Pt.gt_lc, ↓Pt.gt_yes, ↓Pt.gl_nil, ↓Pt.gl_cons, ↓Pt.gl_ok, ↓Pt.vh_h, ↓Pt.vt_t, ↓Pt.gt_ht, ↓Pt.gt_tupL, ↓Pt.lst_l, ↓Pt.gt_newD, ↓Pt.tag_t, ↓Pt.gt_get2T, ↓Pt.key_3, ↓Pt.zp_l, ↓Pt.zp_t, ↓Pt.gt_zip, ↓Pt.pair_0, ↓Pt.pair_s, ↓Pt.gs_seq, ↓Pt.sq_nx, ↓Pt.sq_rt, ↓Pt.sq_bk, ↓Pt.sq_ct, ↓Pt.sq_ex, ↓Pt.gs_skip, ↓Pt.gs_brk, ↓Pt.gs_cnt, ↓Pt.gs_nx, ↓Pt.gs_put, ↓Pt.gs_putZ, ↓Pt.gt_map, ↓Pt.gs_ret, ↓Pt.gs_drop, ↓Pt.gs_if, ↓Pt.gs_bind, ↓Pt.gs_par, ↓Pt.gs_par3, ↓Pt.gs_for, ↓Pt.fg_nx, ↓Pt.fg_ct, ↓Pt.fg_bk, ↓Pt.fg_rt, ↓Pt.gs_frz, ↓Pt.fe_s, ↓Pt.fe_l, ↓Pt.fe_k, ↓Pt.fe_t, ↓Pt.fe_d, ↓Pt.gs_apd, ↓Pt.gs_putT, ↓Pt.gs_srcPut, ↓Pt.ox_add, ↓Pt.ox_addL, ↓Pt.ox_addT, ↓Pt.ox_sub, ↓Pt.ox_mul, ↓Pt.ox_div, ↓Pt.ox_mod, ↓Pt.ox_neg, ↓Pt.ox_lt, ↓Pt.ox_le, ↓Pt.ox_gt, ↓Pt.ox_ge, ↓Pt.ox_eq, ↓Pt.ox_ne, ↓Pt.ox_eqS, ↓Pt.ox_neS, ↓Pt.ox_eqL, ↓Pt.ox_neL, ↓Pt.ox_eqT, ↓Pt.ox_neT, ↓Pt.ox_ix0, ↓Pt.ox_ix1, ↓Pt.ox_ix2, ↓Pt.ox_ix3, ↓Pt.ox_ixT0, ↓Pt.ox_ixT1, ↓Pt.ox_ixT2, ↓Pt.ox_ixT3, ↓Pt.ox_pow20, ↓Pt.ox_lenL, ↓Pt.ox_lenT, ↓Pt.ox_int, ↓Pt.ox_abs, ↓Pt.ox_max, ↓Pt.ox_min, ↓Pt.ox_tup, ↓Pt.ox_tupT, ↓Pt.ox_list, ↓Pt.ox_listT, ↓Pt.ox_repr, ↓Pt.wl_nx, ↓Pt.wl_ct, ↓Pt.wl_bk, ↓Pt.wl_rt, ↓Pt.wl_ex, ↓Pt.gt_rg2J, ↓Pt.gt_isiW, ↓Pt.ox_gcdW, e1, decide_true, Bool.not_true, and_self]
  · obtain ⟨y10, y11, rfl⟩ := he
    exact hZ _ _ _ _
theorem okD_told (md : m.det = 1) (nd : n.det = 1) (ml : m.le 1073000000) (nl : n.le 1073000000) : OkD (lineD m n) := by
  obtain ⟨kd, rest, hL, told⟩ := line_told_facts m n md nd ml nl
  rw [hL]
  have p1 : Pt.plain (.str "none") = true ∧ Pt.plain (.str "every") = true ∧ Pt.plain (.str "one") = true ∧ Pt.plain (.str "root") = true := by decide +kernel
  rcases told.kinds with h | h | h | h
  · obtain ⟨u, v, hr, hu, hv, _⟩ := told.one h
    rw [hr, h]
    refine ⟨?_, ?_, ?_⟩
    · simp only [Pt.plain, plainAll, wide_of (show -18446744073709551616 < u by omega) (by omega), wide_of (show -18446744073709551616 < v by omega) (by omega), Bool.and_true]
      exact p1.2.2.1
    · simp [nodes, nodesAll]
    · simp [PyData.depth, PyData.depthAll]
  · obtain ⟨_, z, hz, _, hr, _⟩ := told.root h
    rw [hr, h]
    have zl : z.le 1073000000 := by rcases hz with rfl | rfl <;> assumption
    have tl := M4.tr_le zl
    have sq := mul_le' tl tl
    refine ⟨?_, ?_, ?_⟩
    · simp only [Pt.plain, plainAll, wide_of (show -18446744073709551616 < z.tr * z.tr - 4 by omega) (by omega), Bool.and_true]
      exact p1.2.2.2
    · simp [nodes, nodesAll]
    · simp [PyData.depth, PyData.depthAll]
  · rw [(told.none h).2, h]
    refine ⟨?_, ?_, ?_⟩
    · simp only [Pt.plain, plainAll, Bool.and_true]
      exact p1.1
    · simp [nodes, nodesAll]
    · simp [PyData.depth, PyData.depthAll]
  · rw [told.every h, h]
    refine ⟨?_, ?_, ?_⟩
    · simp only [Pt.plain, plainAll, Bool.and_true]
      exact p1.2.1
    · simp [nodes, nodesAll]
    · simp [PyData.depth, PyData.depthAll]
theorem late_ok (md : m.det = 1) (nd : n.det = 1) (ml : m.le 2125764) (nl : n.le 2125764) (told : Told m n kd rest) (hL : lineD m n = .tuple (.str kd :: rest)) :
    Gs (mSeq L_1_10 (mSeq L_1_11 (mSeq L_1_12 (mSeq L_1_13 (mSeq L_1_14 (mSeq L_1_15 L_1_16))))) [x0, .src, x2, .d m.D, .d n.D, .d (.tuple (.str kd :: rest)), x6, x7, x8, x9, x10, x11, x12, x13, x14, x15, x16] s) fun r => ∃ e2 s2, r = .nx e2 s2 ∧ I1 e2 := by
  rw [Pt.gs_seq]
  unfold L_1_10
  simp -implicitDefEqProofs (disch := (first | omega | assumption | exact Pt.mul_r (by omega) (by omega) | exact Pt.mul_l (by omega) (by omega) | exact ml _ _ | decide)) only [↓Pt.gt_ok, ↓Pt.gt_bind, ↓Pt.gt_lift, ↓Pt.at_0, ↓Pt.at_s, ↓Pt.nt_0, ↓Pt.nt_s, ↓Pt.vd_d, ↓Pt.vd_h, ↓Pt.vo_l, ↓Pt.vo_k, ↓Pt.vo_t, ↓Pt.vl_l, ↓Pt.vs_s, ↓Pt.pu_0, ↓Pt.pu_s, ↓Pt.wi_0, ↓Pt.wi_s, ↓Pt.bp_n, ↓Pt.bp_t, ↓Pt.bp_l, ↓Pt.bps_0, ↓Pt.bps_s, ↓Pt.bo_t, ↓Pt.bo_f, ↓Pt.bo_not, ↓Pt.gt_var, ↓Pt.gt_own, ↓Pt.gt_c, ↓Pt.gt_bin, ↓Pt.gt_un, ↓Pt.gt_tst, ↓Pt.gt_andT, ↓Pt.gt_orT, ↓Pt.gt_notT, ↓Pt.gt_and, ↓Pt.gt_or, ↓Pt.gt_not, ↓Pt.gt_if, ↓Pt.gt_chain, ↓Pt.gt_nil, ↓Pt.gt_cons, ↓Pt.gt_consA, ↓Pt.gt_consS, ↓Pt.gt_tup, ↓Pt.gt_lst, ↓Pt.gt_fz, ↓Pt.gt_fzD, ↓Pt.gt_call, ↓Pt.gt_callL, ↓Pt.gt_callK, ↓Pt.gt_app, ↓Pt.gt_sl, ↓Pt.gt_none, ↓Pt.gt_some, ↓Pt.ls_l, ↓Pt.gt_rev, ↓Pt.gt_sq, ↓Pt.ox_some, ↓Pt.seq_l, ↓Pt.seq_t, ↓Pt.tst_b, ↓Pt.intD_i, ↓Pt.z1_i, ↓Pt.z2_i, ↓Pt.gt_rg1, ↓Pt.gt_rg1J, ↓Pt.gt_rg2, ↓Pt.gt_srcI, ↓Pt.gt_srcLen, ↓Pt.gt_lc, ↓Pt.gt_yes, ↓Pt.gl_nil, ↓Pt.gl_cons, ↓Pt.gl_ok, ↓Pt.vh_h, ↓Pt.vt_t, ↓Pt.gt_ht, ↓Pt.gt_tupL, ↓Pt.lst_l, ↓Pt.gt_newD, ↓Pt.tag_t, ↓Pt.gt_get2T, ↓Pt.key_3, ↓Pt.zp_l, ↓Pt.zp_t, ↓Pt.gt_zip, ↓Pt.pair_0, ↓Pt.pair_s, ↓Pt.gs_seq, ↓Pt.sq_rt, ↓Pt.sq_bk, ↓Pt.sq_ct, ↓Pt.sq_ex, ↓Pt.gs_skip, ↓Pt.gs_brk, ↓Pt.gs_cnt, ↓Pt.gs_nx, ↓Pt.gs_put, ↓Pt.gs_putZ, ↓Pt.gt_map, ↓Pt.gs_ret, ↓Pt.gs_drop, ↓Pt.gs_if, ↓Pt.gs_bind, ↓Pt.gs_par, ↓Pt.gs_par3, ↓Pt.gs_for, ↓Pt.fg_nx, ↓Pt.fg_ct, ↓Pt.fg_bk, ↓Pt.fg_rt, ↓Pt.gs_frz, ↓Pt.fe_s, ↓Pt.fe_l, ↓Pt.fe_k, ↓Pt.fe_t, ↓Pt.fe_d, ↓Pt.gs_apd, ↓Pt.gs_putT, ↓Pt.gs_srcPut, ↓Pt.ox_add, ↓Pt.ox_addL, ↓Pt.ox_addT, ↓Pt.ox_sub, ↓Pt.ox_mul, ↓Pt.ox_div, ↓Pt.ox_mod, ↓Pt.ox_neg, ↓Pt.ox_lt, ↓Pt.ox_le, ↓Pt.ox_gt, ↓Pt.ox_ge, ↓Pt.ox_eq, ↓Pt.ox_ne, ↓Pt.ox_eqS, ↓Pt.ox_neS, ↓Pt.ox_eqL, ↓Pt.ox_neL, ↓Pt.ox_eqT, ↓Pt.ox_neT, ↓Pt.ox_ix0, ↓Pt.ox_ix1, ↓Pt.ox_ix2, ↓Pt.ox_ix3, ↓Pt.ox_ixT0, ↓Pt.ox_ixT1, ↓Pt.ox_ixT2, ↓Pt.ox_ixT3, ↓Pt.ox_pow20, ↓Pt.ox_lenL, ↓Pt.ox_lenT, ↓Pt.ox_int, ↓Pt.ox_abs, ↓Pt.ox_max, ↓Pt.ox_min, ↓Pt.ox_tup, ↓Pt.ox_tupT, ↓Pt.ox_list, ↓Pt.ox_listT, ↓Pt.ox_repr, ↓Pt.wl_nx, ↓Pt.wl_ct, ↓Pt.wl_bk, ↓Pt.wl_rt, ↓Pt.wl_ex, ↓Pt.gt_rg2J, ↓Pt.gt_isiW, ↓Pt.ox_gcdW]
  refine gt_use (F_drawn2 s) ?_
  rintro _ s1 ⟨l, rfl, ld, ll⟩
  have li := M4.inv_le ll
  have z2 : ∀ a b : Pt.D, szB [a, b].length = true := fun _ _ => rfl
  have lm : (l.led m).le 1073000000 := M4.le_mono (M4.mul_le (M4.mul_le ll ml) li) (by decide)
  have ln : (l.led n).le 1073000000 := M4.le_mono (M4.mul_le (M4.mul_le ll nl) li) (by decide)
  have f1 : F_law_led [.d l.D, .d m.D] s1 = .ok (l.led m).D s1 := F_led l m s1 (M4.le_mono ml (by decide)) (M4.le_mono li (by decide))
  have f2 : F_law_led [.d l.D, .d n.D] s1 = .ok (l.led n).D s1 := F_led l n s1 (M4.le_mono nl (by decide)) (M4.le_mono li (by decide))
  have f3 := F_line (l.led m) (l.led n) s1 lm ln
  obtain ⟨kd2, rest2, hL2, told2⟩ := line_told_facts (l.led m) (l.led n) (by rw [M4.det_led ld, md]) (by rw [M4.det_led ld, nd]) lm ln
  obtain ⟨hk, hr⟩ := line_led ld hL hL2
  subst hk
  rw [hL2] at f3
  rw [Pt.sq_nx, Pt.gs_seq]
  unfold L_1_11
  simp -implicitDefEqProofs (disch := (first | omega | assumption | exact Pt.mul_r (by omega) (by omega) | exact Pt.mul_l (by omega) (by omega) | exact ml _ _ | decide)) only [↓Pt.gt_ok, ↓Pt.gt_bind, ↓Pt.gt_lift, ↓Pt.at_0, ↓Pt.at_s, ↓Pt.nt_0, ↓Pt.nt_s, ↓Pt.vd_d, ↓Pt.vd_h, ↓Pt.vo_l, ↓Pt.vo_k, ↓Pt.vo_t, ↓Pt.vl_l, ↓Pt.vs_s, ↓Pt.pu_0, ↓Pt.pu_s, ↓Pt.wi_0, ↓Pt.wi_s, ↓Pt.bp_n, ↓Pt.bp_t, ↓Pt.bp_l, ↓Pt.bps_0, ↓Pt.bps_s, ↓Pt.bo_t, ↓Pt.bo_f, ↓Pt.bo_not, ↓Pt.gt_var, ↓Pt.gt_own, ↓Pt.gt_c, ↓Pt.gt_bin, ↓Pt.gt_un, ↓Pt.gt_tst, ↓Pt.gt_andT, ↓Pt.gt_orT, ↓Pt.gt_notT, ↓Pt.gt_and, ↓Pt.gt_or, ↓Pt.gt_not, ↓Pt.gt_if, ↓Pt.gt_chain, ↓Pt.gt_nil, ↓Pt.gt_cons, ↓Pt.gt_consA, ↓Pt.gt_consS, ↓Pt.gt_tup, ↓Pt.gt_lst, ↓Pt.gt_fz, ↓Pt.gt_fzD, ↓Pt.gt_call, ↓Pt.gt_callL, ↓Pt.gt_callK, ↓Pt.gt_app, ↓Pt.gt_sl, ↓Pt.gt_none, ↓Pt.gt_some, ↓Pt.ls_l, ↓Pt.gt_rev, ↓Pt.gt_sq, ↓Pt.ox_some, ↓Pt.seq_l, ↓Pt.seq_t, ↓Pt.tst_b, ↓Pt.intD_i, ↓Pt.z1_i, ↓Pt.z2_i, ↓Pt.gt_rg1, ↓Pt.gt_rg1J, ↓Pt.gt_rg2, ↓Pt.gt_srcI, ↓Pt.gt_srcLen, ↓Pt.gt_lc, ↓Pt.gt_yes, ↓Pt.gl_nil, ↓Pt.gl_cons, ↓Pt.gl_ok, ↓Pt.vh_h, ↓Pt.vt_t, ↓Pt.gt_ht, ↓Pt.gt_tupL, ↓Pt.lst_l, ↓Pt.gt_newD, ↓Pt.tag_t, ↓Pt.gt_get2T, ↓Pt.key_3, ↓Pt.zp_l, ↓Pt.zp_t, ↓Pt.gt_zip, ↓Pt.pair_0, ↓Pt.pair_s, ↓Pt.gs_seq, ↓Pt.sq_rt, ↓Pt.sq_bk, ↓Pt.sq_ct, ↓Pt.sq_ex, ↓Pt.gs_skip, ↓Pt.gs_brk, ↓Pt.gs_cnt, ↓Pt.gs_nx, ↓Pt.gs_put, ↓Pt.gs_putZ, ↓Pt.gt_map, ↓Pt.gs_ret, ↓Pt.gs_drop, ↓Pt.gs_if, ↓Pt.gs_bind, ↓Pt.gs_par, ↓Pt.gs_par3, ↓Pt.gs_for, ↓Pt.fg_nx, ↓Pt.fg_ct, ↓Pt.fg_bk, ↓Pt.fg_rt, ↓Pt.gs_frz, ↓Pt.fe_s, ↓Pt.fe_l, ↓Pt.fe_k, ↓Pt.fe_t, ↓Pt.fe_d, ↓Pt.gs_apd, ↓Pt.gs_putT, ↓Pt.gs_srcPut, ↓Pt.ox_add, ↓Pt.ox_addL, ↓Pt.ox_addT, ↓Pt.ox_sub, ↓Pt.ox_mul, ↓Pt.ox_div, ↓Pt.ox_mod, ↓Pt.ox_neg, ↓Pt.ox_lt, ↓Pt.ox_le, ↓Pt.ox_gt, ↓Pt.ox_ge, ↓Pt.ox_eq, ↓Pt.ox_ne, ↓Pt.ox_eqS, ↓Pt.ox_neS, ↓Pt.ox_eqL, ↓Pt.ox_neL, ↓Pt.ox_eqT, ↓Pt.ox_neT, ↓Pt.ox_ix0, ↓Pt.ox_ix1, ↓Pt.ox_ix2, ↓Pt.ox_ix3, ↓Pt.ox_ixT0, ↓Pt.ox_ixT1, ↓Pt.ox_ixT2, ↓Pt.ox_ixT3, ↓Pt.ox_pow20, ↓Pt.ox_lenL, ↓Pt.ox_lenT, ↓Pt.ox_int, ↓Pt.ox_abs, ↓Pt.ox_max, ↓Pt.ox_min, ↓Pt.ox_tup, ↓Pt.ox_tupT, ↓Pt.ox_list, ↓Pt.ox_listT, ↓Pt.ox_repr, ↓Pt.wl_nx, ↓Pt.wl_ct, ↓Pt.wl_bk, ↓Pt.wl_rt, ↓Pt.wl_ex, ↓Pt.gt_rg2J, ↓Pt.gt_isiW, ↓Pt.ox_gcdW, z2, true_and, ↓gt_eq f1, ↓gt_eq f2, ↓gt_eq f3]
  have od := okD_told md nd (M4.le_mono ml (by decide)) (M4.le_mono nl (by decide))
  rw [hL] at od
  have es : PyData.eqvAll (.str kd2 :: rest) (.str kd2 :: rest) = true := by
    have := eqv_self _ od.pl
    simpa only [PyData.eqv] using this
  rw [Pt.sq_nx, Pt.gs_seq]
  unfold L_1_12
  refine gs_keepW ?_ ?_
  · simp -implicitDefEqProofs (disch := (first | omega | assumption | exact Pt.mul_r (by omega) (by omega) | exact Pt.mul_l (by omega) (by omega) | exact ml _ _ | decide)) only [↓Pt.gt_ok, ↓Pt.gt_bind, ↓Pt.gt_lift, ↓Pt.at_0, ↓Pt.at_s, ↓Pt.nt_0, ↓Pt.nt_s, ↓Pt.vd_d, ↓Pt.vd_h, ↓Pt.vo_l, ↓Pt.vo_k, ↓Pt.vo_t, ↓Pt.vl_l, ↓Pt.vs_s, ↓Pt.pu_0, ↓Pt.pu_s, ↓Pt.wi_0, ↓Pt.wi_s, ↓Pt.bp_n, ↓Pt.bp_t, ↓Pt.bp_l, ↓Pt.bps_0, ↓Pt.bps_s, ↓Pt.bo_t, ↓Pt.bo_f, ↓Pt.bo_not, ↓Pt.gt_var, ↓Pt.gt_own, ↓Pt.gt_c, ↓Pt.gt_bin, ↓Pt.gt_un, ↓Pt.gt_tst, ↓Pt.gt_andT, ↓Pt.gt_orT, ↓Pt.gt_notT, ↓Pt.gt_and, ↓Pt.gt_or, ↓Pt.gt_not, ↓Pt.gt_if, ↓Pt.gt_chain, ↓Pt.gt_nil, ↓Pt.gt_cons, ↓Pt.gt_consA, ↓Pt.gt_consS, ↓Pt.gt_tup, ↓Pt.gt_lst, ↓Pt.gt_fz, ↓Pt.gt_fzD, ↓Pt.gt_call, ↓Pt.gt_callL, ↓Pt.gt_callK, ↓Pt.gt_app, ↓Pt.gt_sl, ↓Pt.gt_none, ↓Pt.gt_some, ↓Pt.ls_l, ↓Pt.gt_rev, ↓Pt.gt_sq, ↓Pt.ox_some, ↓Pt.seq_l, ↓Pt.seq_t, ↓Pt.tst_b, ↓Pt.intD_i, ↓Pt.z1_i, ↓Pt.z2_i, ↓Pt.gt_rg1, ↓Pt.gt_rg1J, ↓Pt.gt_rg2, ↓Pt.gt_srcI, ↓Pt.gt_srcLen, ↓Pt.gt_lc, ↓Pt.gt_yes, ↓Pt.gl_nil, ↓Pt.gl_cons, ↓Pt.gl_ok, ↓Pt.vh_h, ↓Pt.vt_t, ↓Pt.gt_ht, ↓Pt.gt_tupL, ↓Pt.lst_l, ↓Pt.gt_newD, ↓Pt.tag_t, ↓Pt.gt_get2T, ↓Pt.key_3, ↓Pt.zp_l, ↓Pt.zp_t, ↓Pt.gt_zip, ↓Pt.pair_0, ↓Pt.pair_s, ↓Pt.gs_seq, ↓Pt.sq_nx, ↓Pt.sq_rt, ↓Pt.sq_bk, ↓Pt.sq_ct, ↓Pt.sq_ex, ↓Pt.gs_skip, ↓Pt.gs_brk, ↓Pt.gs_cnt, ↓Pt.gs_nx, ↓Pt.gs_put, ↓Pt.gs_putZ, ↓Pt.gt_map, ↓Pt.gs_ret, ↓Pt.gs_drop, ↓Pt.gs_if, ↓Pt.gs_bind, ↓Pt.gs_par, ↓Pt.gs_par3, ↓Pt.gs_for, ↓Pt.fg_nx, ↓Pt.fg_ct, ↓Pt.fg_bk, ↓Pt.fg_rt, ↓Pt.gs_frz, ↓Pt.fe_s, ↓Pt.fe_l, ↓Pt.fe_k, ↓Pt.fe_t, ↓Pt.fe_d, ↓Pt.gs_apd, ↓Pt.gs_putT, ↓Pt.gs_srcPut, ↓Pt.ox_add, ↓Pt.ox_addL, ↓Pt.ox_addT, ↓Pt.ox_sub, ↓Pt.ox_mul, ↓Pt.ox_div, ↓Pt.ox_mod, ↓Pt.ox_neg, ↓Pt.ox_lt, ↓Pt.ox_le, ↓Pt.ox_gt, ↓Pt.ox_ge, ↓Pt.ox_eq, ↓Pt.ox_ne, ↓Pt.ox_eqS, ↓Pt.ox_neS, ↓Pt.ox_eqL, ↓Pt.ox_neL, ↓Pt.ox_eqT, ↓Pt.ox_neT, ↓Pt.ox_ix0, ↓Pt.ox_ix1, ↓Pt.ox_ix2, ↓Pt.ox_ix3, ↓Pt.ox_ixT0, ↓Pt.ox_ixT1, ↓Pt.ox_ixT2, ↓Pt.ox_ixT3, ↓Pt.ox_pow20, ↓Pt.ox_lenL, ↓Pt.ox_lenT, ↓Pt.ox_int, ↓Pt.ox_abs, ↓Pt.ox_max, ↓Pt.ox_min, ↓Pt.ox_tup, ↓Pt.ox_tupT, ↓Pt.ox_list, ↓Pt.ox_listT, ↓Pt.ox_repr, ↓Pt.wl_nx, ↓Pt.wl_ct, ↓Pt.wl_bk, ↓Pt.wl_rt, ↓Pt.wl_ex, ↓Pt.gt_rg2J, ↓Pt.gt_isiW, ↓Pt.ox_gcdW, decide_true, Bool.not_true]
    refine bo_mk (fun h => ?_) fun h => by simp
    rw [hr (of_decide_eq_true h)]
    simp -implicitDefEqProofs (disch := (first | omega | assumption | exact Pt.mul_r (by omega) (by omega) | exact Pt.mul_l (by omega) (by omega) | exact ml _ _ | decide)) only [↓Pt.gt_ok, ↓Pt.gt_bind, ↓Pt.gt_lift, ↓Pt.at_0, ↓Pt.at_s, ↓Pt.nt_0, ↓Pt.nt_s, ↓Pt.vd_d, ↓Pt.vd_h, ↓Pt.vo_l, ↓Pt.vo_k, ↓Pt.vo_t, ↓Pt.vl_l, ↓Pt.vs_s, ↓Pt.pu_0, ↓Pt.pu_s, ↓Pt.wi_0, ↓Pt.wi_s, ↓Pt.bp_n, ↓Pt.bp_t, ↓Pt.bp_l, ↓Pt.bps_0, ↓Pt.bps_s, ↓Pt.bo_t, ↓Pt.bo_f, ↓Pt.bo_not, ↓Pt.gt_var, ↓Pt.gt_own, ↓Pt.gt_c, ↓Pt.gt_bin, ↓Pt.gt_un, ↓Pt.gt_tst, ↓Pt.gt_andT, ↓Pt.gt_orT, ↓Pt.gt_notT, ↓Pt.gt_and, ↓Pt.gt_or, ↓Pt.gt_not, ↓Pt.gt_if, ↓Pt.gt_chain, ↓Pt.gt_nil, ↓Pt.gt_cons, ↓Pt.gt_consA, ↓Pt.gt_consS, ↓Pt.gt_tup, ↓Pt.gt_lst, ↓Pt.gt_fz, ↓Pt.gt_fzD, ↓Pt.gt_call, ↓Pt.gt_callL, ↓Pt.gt_callK, ↓Pt.gt_app, ↓Pt.gt_sl, ↓Pt.gt_none, ↓Pt.gt_some, ↓Pt.ls_l, ↓Pt.gt_rev, ↓Pt.gt_sq, ↓Pt.ox_some, ↓Pt.seq_l, ↓Pt.seq_t, ↓Pt.tst_b, ↓Pt.intD_i, ↓Pt.z1_i, ↓Pt.z2_i, ↓Pt.gt_rg1, ↓Pt.gt_rg1J, ↓Pt.gt_rg2, ↓Pt.gt_srcI, ↓Pt.gt_srcLen, ↓Pt.gt_lc, ↓Pt.gt_yes, ↓Pt.gl_nil, ↓Pt.gl_cons, ↓Pt.gl_ok, ↓Pt.vh_h, ↓Pt.vt_t, ↓Pt.gt_ht, ↓Pt.gt_tupL, ↓Pt.lst_l, ↓Pt.gt_newD, ↓Pt.tag_t, ↓Pt.gt_get2T, ↓Pt.key_3, ↓Pt.zp_l, ↓Pt.zp_t, ↓Pt.gt_zip, ↓Pt.pair_0, ↓Pt.pair_s, ↓Pt.gs_seq, ↓Pt.sq_nx, ↓Pt.sq_rt, ↓Pt.sq_bk, ↓Pt.sq_ct, ↓Pt.sq_ex, ↓Pt.gs_skip, ↓Pt.gs_brk, ↓Pt.gs_cnt, ↓Pt.gs_nx, ↓Pt.gs_put, ↓Pt.gs_putZ, ↓Pt.gt_map, ↓Pt.gs_ret, ↓Pt.gs_drop, ↓Pt.gs_if, ↓Pt.gs_bind, ↓Pt.gs_par, ↓Pt.gs_par3, ↓Pt.gs_for, ↓Pt.fg_nx, ↓Pt.fg_ct, ↓Pt.fg_bk, ↓Pt.fg_rt, ↓Pt.gs_frz, ↓Pt.fe_s, ↓Pt.fe_l, ↓Pt.fe_k, ↓Pt.fe_t, ↓Pt.fe_d, ↓Pt.gs_apd, ↓Pt.gs_putT, ↓Pt.gs_srcPut, ↓Pt.ox_add, ↓Pt.ox_addL, ↓Pt.ox_addT, ↓Pt.ox_sub, ↓Pt.ox_mul, ↓Pt.ox_div, ↓Pt.ox_mod, ↓Pt.ox_neg, ↓Pt.ox_lt, ↓Pt.ox_le, ↓Pt.ox_gt, ↓Pt.ox_ge, ↓Pt.ox_eq, ↓Pt.ox_ne, ↓Pt.ox_eqS, ↓Pt.ox_neS, ↓Pt.ox_eqL, ↓Pt.ox_neL, ↓Pt.ox_eqT, ↓Pt.ox_neT, ↓Pt.ox_ix0, ↓Pt.ox_ix1, ↓Pt.ox_ix2, ↓Pt.ox_ix3, ↓Pt.ox_ixT0, ↓Pt.ox_ixT1, ↓Pt.ox_ixT2, ↓Pt.ox_ixT3, ↓Pt.ox_pow20, ↓Pt.ox_lenL, ↓Pt.ox_lenT, ↓Pt.ox_int, ↓Pt.ox_abs, ↓Pt.ox_max, ↓Pt.ox_min, ↓Pt.ox_tup, ↓Pt.ox_tupT, ↓Pt.ox_list, ↓Pt.ox_listT, ↓Pt.ox_repr, ↓Pt.wl_nx, ↓Pt.wl_ct, ↓Pt.wl_bk, ↓Pt.wl_rt, ↓Pt.wl_ex, ↓Pt.gt_rg2J, ↓Pt.gt_isiW, ↓Pt.ox_gcdW, od.sh, es, Bool.and_self, true_and, Bool.not_true, and_self]
  -- what is a table
  have z3 : ∀ a b c : Pt.D, szB [a, b, c].length = true := fun _ _ _ => rfl
  have z1 : ∀ a : Pt.D, szB [a].length = true := fun _ => rfl
  have z7 : ∀ a b c d e f g : Pt.D, szB [a, b, c, d, e, f, g].length = true := fun _ _ _ _ _ _ _ => rfl
  have z5 : ∀ a b c d e : Pt.D, szB [a, b, c, d, e].length = true := fun _ _ _ _ _ => rfl
  rw [Pt.sq_nx, Pt.gs_seq]
  unfold L_1_13
  have ml0 := ml
  obtain ⟨m0, hm0'⟩ : ∃ m0 : M4, m0 = m := ⟨m, rfl⟩
  rw [← hm0'] at ml0
  obtain ⟨a, b, c, d⟩ := m
  unfold M4.D
  simp -implicitDefEqProofs (disch := (first | omega | assumption | exact Pt.mul_r (by omega) (by omega) | exact Pt.mul_l (by omega) (by omega) | exact ml _ _ | decide)) only [↓Pt.gt_ok, ↓Pt.gt_bind, ↓Pt.gt_lift, ↓Pt.at_0, ↓Pt.at_s, ↓Pt.nt_0, ↓Pt.nt_s, ↓Pt.vd_d, ↓Pt.vd_h, ↓Pt.vo_l, ↓Pt.vo_k, ↓Pt.vo_t, ↓Pt.vl_l, ↓Pt.vs_s, ↓Pt.pu_0, ↓Pt.pu_s, ↓Pt.wi_0, ↓Pt.wi_s, ↓Pt.bp_n, ↓Pt.bp_t, ↓Pt.bp_l, ↓Pt.bps_0, ↓Pt.bps_s, ↓Pt.bo_t, ↓Pt.bo_f, ↓Pt.bo_not, ↓Pt.gt_var, ↓Pt.gt_own, ↓Pt.gt_c, ↓Pt.gt_bin, ↓Pt.gt_un, ↓Pt.gt_tst, ↓Pt.gt_andT, ↓Pt.gt_orT, ↓Pt.gt_notT, ↓Pt.gt_and, ↓Pt.gt_or, ↓Pt.gt_not, ↓Pt.gt_if, ↓Pt.gt_chain, ↓Pt.gt_nil, ↓Pt.gt_cons, ↓Pt.gt_consA, ↓Pt.gt_consS, ↓Pt.gt_tup, ↓Pt.gt_lst, ↓Pt.gt_fz, ↓Pt.gt_fzD, ↓Pt.gt_call, ↓Pt.gt_callL, ↓Pt.gt_callK, ↓Pt.gt_app, ↓Pt.gt_sl, ↓Pt.gt_none, ↓Pt.gt_some, ↓Pt.ls_l, ↓Pt.gt_rev, ↓Pt.gt_sq, ↓Pt.ox_some, ↓Pt.seq_l, ↓Pt.seq_t, ↓Pt.tst_b, ↓Pt.intD_i, ↓Pt.z1_i, ↓Pt.z2_i, ↓Pt.gt_rg1, ↓Pt.gt_rg1J, ↓Pt.gt_rg2, ↓Pt.gt_srcI, ↓Pt.gt_srcLen, ↓Pt.gt_lc, ↓Pt.gt_yes, ↓Pt.gl_nil, ↓Pt.gl_cons, ↓Pt.gl_ok, ↓Pt.vh_h, ↓Pt.vt_t, ↓Pt.gt_ht, ↓Pt.gt_tupL, ↓Pt.lst_l, ↓Pt.gt_newD, ↓Pt.tag_t, ↓Pt.gt_get2T, ↓Pt.key_3, ↓Pt.zp_l, ↓Pt.zp_t, ↓Pt.gt_zip, ↓Pt.pair_0, ↓Pt.pair_s, ↓Pt.gs_seq, ↓Pt.sq_rt, ↓Pt.sq_bk, ↓Pt.sq_ct, ↓Pt.sq_ex, ↓Pt.gs_skip, ↓Pt.gs_brk, ↓Pt.gs_cnt, ↓Pt.gs_nx, ↓Pt.gs_put, ↓Pt.gs_putZ, ↓Pt.gt_map, ↓Pt.gs_ret, ↓Pt.gs_drop, ↓Pt.gs_if, ↓Pt.gs_bind, ↓Pt.gs_par, ↓Pt.gs_par3, ↓Pt.gs_for, ↓Pt.fg_nx, ↓Pt.fg_ct, ↓Pt.fg_bk, ↓Pt.fg_rt, ↓Pt.gs_frz, ↓Pt.fe_s, ↓Pt.fe_l, ↓Pt.fe_k, ↓Pt.fe_t, ↓Pt.fe_d, ↓Pt.gs_apd, ↓Pt.gs_putT, ↓Pt.gs_srcPut, ↓Pt.ox_add, ↓Pt.ox_addL, ↓Pt.ox_addT, ↓Pt.ox_sub, ↓Pt.ox_mul, ↓Pt.ox_div, ↓Pt.ox_mod, ↓Pt.ox_neg, ↓Pt.ox_lt, ↓Pt.ox_le, ↓Pt.ox_gt, ↓Pt.ox_ge, ↓Pt.ox_eq, ↓Pt.ox_ne, ↓Pt.ox_eqS, ↓Pt.ox_neS, ↓Pt.ox_eqL, ↓Pt.ox_neL, ↓Pt.ox_eqT, ↓Pt.ox_neT, ↓Pt.ox_ix0, ↓Pt.ox_ix1, ↓Pt.ox_ix2, ↓Pt.ox_ix3, ↓Pt.ox_ixT0, ↓Pt.ox_ixT1, ↓Pt.ox_ixT2, ↓Pt.ox_ixT3, ↓Pt.ox_pow20, ↓Pt.ox_lenL, ↓Pt.ox_lenT, ↓Pt.ox_int, ↓Pt.ox_abs, ↓Pt.ox_max, ↓Pt.ox_min, ↓Pt.ox_tup, ↓Pt.ox_tupT, ↓Pt.ox_list, ↓Pt.ox_listT, ↓Pt.ox_repr, ↓Pt.wl_nx, ↓Pt.wl_ct, ↓Pt.wl_bk, ↓Pt.wl_rt, ↓Pt.wl_ex, ↓Pt.gt_rg2J, ↓Pt.gt_isiW, ↓Pt.ox_gcdW, z1, z2, z3, z7, sz4, true_and]
  have sl3 : ∀ (a b c d : Pt.D) (K : Pt.D → Prop), Ox (dSl (.tuple [a, b, c, d]) none (some 3)) K = K (.tuple [a, b, c]) := fun _ _ _ _ _ => rfl
  have ad1 : ∀ (a b c d : Pt.D) (K : Pt.D → Prop), Ox (dAdd (.tuple [a, b, c]) (.tuple [d])) K = K (.tuple [a, b, c, d]) := fun _ _ _ _ _ => rfl
  simp -implicitDefEqProofs (disch := (first | omega | assumption | exact Pt.mul_r (by omega) (by omega) | exact Pt.mul_l (by omega) (by omega) | exact ml _ _ | decide)) only [↓sl3, ↓ad1]
  obtain ⟨b1, b2, b3, b4⟩ := ml
  obtain ⟨n1, n2, n3, n4⟩ := nl
  have b1 : a.natAbs ≤ 2125764 := b1
  have b2 : b.natAbs ≤ 2125764 := b2
  have b3 : c.natAbs ≤ 2125764 := b3
  have b4 : d.natAbs ≤ 2125764 := b4
  have mo := odds_ok m0 n ml0 ⟨n1, n2, n3, n4⟩
  subst hm0'
  unfold odds at mo
  simp only [] at mo
  have tb : ∀ k : Bool, textOk (.bool k) = true := fun k => by cases k <;> decide +kernel
  rw [Pt.sq_nx, Pt.gs_seq]
  unfold L_1_14
  simp -implicitDefEqProofs (disch := (first | omega | assumption | exact Pt.mul_r (by omega) (by omega) | exact Pt.mul_l (by omega) (by omega) | exact ml _ _ | decide)) only [↓Pt.gt_ok, ↓Pt.gt_bind, ↓Pt.gt_lift, ↓Pt.at_0, ↓Pt.at_s, ↓Pt.nt_0, ↓Pt.nt_s, ↓Pt.vd_d, ↓Pt.vd_h, ↓Pt.vo_l, ↓Pt.vo_k, ↓Pt.vo_t, ↓Pt.vl_l, ↓Pt.vs_s, ↓Pt.pu_0, ↓Pt.pu_s, ↓Pt.wi_0, ↓Pt.wi_s, ↓Pt.bp_n, ↓Pt.bp_t, ↓Pt.bp_l, ↓Pt.bps_0, ↓Pt.bps_s, ↓Pt.bo_t, ↓Pt.bo_f, ↓Pt.bo_not, ↓Pt.gt_var, ↓Pt.gt_own, ↓Pt.gt_c, ↓Pt.gt_bin, ↓Pt.gt_un, ↓Pt.gt_tst, ↓Pt.gt_andT, ↓Pt.gt_orT, ↓Pt.gt_notT, ↓Pt.gt_and, ↓Pt.gt_or, ↓Pt.gt_not, ↓Pt.gt_if, ↓Pt.gt_chain, ↓Pt.gt_nil, ↓Pt.gt_cons, ↓Pt.gt_consA, ↓Pt.gt_consS, ↓Pt.gt_tup, ↓Pt.gt_lst, ↓Pt.gt_fz, ↓Pt.gt_fzD, ↓Pt.gt_call, ↓Pt.gt_callL, ↓Pt.gt_callK, ↓Pt.gt_app, ↓Pt.gt_sl, ↓Pt.gt_none, ↓Pt.gt_some, ↓Pt.ls_l, ↓Pt.gt_rev, ↓Pt.gt_sq, ↓Pt.ox_some, ↓Pt.seq_l, ↓Pt.seq_t, ↓Pt.tst_b, ↓Pt.intD_i, ↓Pt.z1_i, ↓Pt.z2_i, ↓Pt.gt_rg1, ↓Pt.gt_rg1J, ↓Pt.gt_rg2, ↓Pt.gt_srcI, ↓Pt.gt_srcLen, ↓Pt.gt_lc, ↓Pt.gt_yes, ↓Pt.gl_nil, ↓Pt.gl_cons, ↓Pt.gl_ok, ↓Pt.vh_h, ↓Pt.vt_t, ↓Pt.gt_ht, ↓Pt.gt_tupL, ↓Pt.lst_l, ↓Pt.gt_newD, ↓Pt.tag_t, ↓Pt.gt_get2T, ↓Pt.key_3, ↓Pt.zp_l, ↓Pt.zp_t, ↓Pt.gt_zip, ↓Pt.pair_0, ↓Pt.pair_s, ↓Pt.gs_seq, ↓Pt.sq_rt, ↓Pt.sq_bk, ↓Pt.sq_ct, ↓Pt.sq_ex, ↓Pt.gs_skip, ↓Pt.gs_brk, ↓Pt.gs_cnt, ↓Pt.gs_nx, ↓Pt.gs_put, ↓Pt.gs_putZ, ↓Pt.gt_map, ↓Pt.gs_ret, ↓Pt.gs_drop, ↓Pt.gs_if, ↓Pt.gs_bind, ↓Pt.gs_par, ↓Pt.gs_par3, ↓Pt.gs_for, ↓Pt.fg_nx, ↓Pt.fg_ct, ↓Pt.fg_bk, ↓Pt.fg_rt, ↓Pt.gs_frz, ↓Pt.fe_s, ↓Pt.fe_l, ↓Pt.fe_k, ↓Pt.fe_t, ↓Pt.fe_d, ↓Pt.gs_apd, ↓Pt.gs_putT, ↓Pt.gs_srcPut, ↓Pt.ox_add, ↓Pt.ox_addL, ↓Pt.ox_addT, ↓Pt.ox_sub, ↓Pt.ox_mul, ↓Pt.ox_div, ↓Pt.ox_mod, ↓Pt.ox_neg, ↓Pt.ox_lt, ↓Pt.ox_le, ↓Pt.ox_gt, ↓Pt.ox_ge, ↓Pt.ox_eq, ↓Pt.ox_ne, ↓Pt.ox_eqS, ↓Pt.ox_neS, ↓Pt.ox_eqL, ↓Pt.ox_neL, ↓Pt.ox_eqT, ↓Pt.ox_neT, ↓Pt.ox_ix0, ↓Pt.ox_ix1, ↓Pt.ox_ix2, ↓Pt.ox_ix3, ↓Pt.ox_ixT0, ↓Pt.ox_ixT1, ↓Pt.ox_ixT2, ↓Pt.ox_ixT3, ↓Pt.ox_pow20, ↓Pt.ox_lenL, ↓Pt.ox_lenT, ↓Pt.ox_int, ↓Pt.ox_abs, ↓Pt.ox_max, ↓Pt.ox_min, ↓Pt.ox_tup, ↓Pt.ox_tupT, ↓Pt.ox_list, ↓Pt.ox_listT, ↓Pt.ox_repr, ↓Pt.wl_nx, ↓Pt.wl_ct, ↓Pt.wl_bk, ↓Pt.wl_rt, ↓Pt.wl_ex, ↓Pt.gt_rg2J, ↓Pt.gt_isiW, ↓Pt.ox_gcdW]
  generalize ho : [PyData.tuple [.int a, .int b, .int c, .int d], .list [.int a, .int b, .int c, .int d], .tuple [.int a, .int b, .int c], .tuple [.int a, .int b, .int c, .int (d + 1)], .tuple [.int 1, .int 0, .int 0, .bool true], .none, .tuple [.tuple [.int a, .int b, .int c, .int d], .tuple [.int n.a, .int n.b, .int n.c, .int n.d]]] = odd at mo ⊢
  refine Pt.gs_laps (fun e => ∃ (y0 y2 y5 y6 y7 y8 y9 y10 y11 y12 y13 y15 y16 : Sl), e = [y0, .src, y2, .d (.tuple [.int a, .int b, .int c, .int d]), .d (.tuple [.int n.a, .int n.b, .int n.c, .int n.d]), y5, y6, y7, y8, y9, y10, y11, y12, y13, .d (.list odd), y15, y16]) ⟨_, _, _, _, _, _, _, _, _, _, _, _, _, rfl⟩ (fun x hx e s1 he => ?_) fun e s1 he => ?_
  · obtain ⟨y0, y2, y5, y6, y7, y8, y9, y10, y11, y12, y13, y15, y16, rfl⟩ := he
    obtain ⟨o1, o2⟩ := mo x hx
    have g1 := F_isT x s1 o1
    have g2 := F_lisT x s1 o1 o2
    simp -implicitDefEqProofs (disch := (first | omega | assumption | exact Pt.mul_r (by omega) (by omega) | exact Pt.mul_l (by omega) (by omega) | exact ml _ _ | decide)) only [↓Pt.gt_ok, ↓Pt.gt_bind, ↓Pt.gt_lift, ↓Pt.at_0, ↓Pt.at_s, ↓Pt.nt_0, ↓Pt.nt_s, ↓Pt.vd_d, ↓Pt.vd_h, ↓Pt.vo_l, ↓Pt.vo_k, ↓Pt.vo_t, ↓Pt.vl_l, ↓Pt.vs_s, ↓Pt.pu_0, ↓Pt.pu_s, ↓Pt.wi_0, ↓Pt.wi_s, ↓Pt.bp_n, ↓Pt.bp_t, ↓Pt.bp_l, ↓Pt.bps_0, ↓Pt.bps_s, ↓Pt.bo_t, ↓Pt.bo_f, ↓Pt.bo_not, ↓Pt.gt_var, ↓Pt.gt_own, ↓Pt.gt_c, ↓Pt.gt_bin, ↓Pt.gt_un, ↓Pt.gt_tst, ↓Pt.gt_andT, ↓Pt.gt_orT, ↓Pt.gt_notT, ↓Pt.gt_and, ↓Pt.gt_or, ↓Pt.gt_not, ↓Pt.gt_if, ↓Pt.gt_chain, ↓Pt.gt_nil, ↓Pt.gt_cons, ↓Pt.gt_consA, ↓Pt.gt_consS, ↓Pt.gt_tup, ↓Pt.gt_lst, ↓Pt.gt_fz, ↓Pt.gt_fzD, ↓Pt.gt_call, ↓Pt.gt_callL, ↓Pt.gt_callK, ↓Pt.gt_app, ↓Pt.gt_sl, ↓Pt.gt_none, ↓Pt.gt_some, ↓Pt.ls_l, ↓Pt.gt_rev, ↓Pt.gt_sq, ↓Pt.ox_some, ↓Pt.seq_l, ↓Pt.seq_t, ↓Pt.tst_b, ↓Pt.intD_i, ↓Pt.z1_i, ↓Pt.z2_i, ↓Pt.gt_rg1, ↓Pt.gt_rg1J, ↓Pt.gt_rg2, ↓Pt.gt_srcI, ↓Pt.gt_srcLen, ↓Pt.gt_lc, ↓Pt.gt_yes, ↓Pt.gl_nil, ↓Pt.gl_cons, ↓Pt.gl_ok, ↓Pt.vh_h, ↓Pt.vt_t, ↓Pt.gt_ht, ↓Pt.gt_tupL, ↓Pt.lst_l, ↓Pt.gt_newD, ↓Pt.tag_t, ↓Pt.gt_get2T, ↓Pt.key_3, ↓Pt.zp_l, ↓Pt.zp_t, ↓Pt.gt_zip, ↓Pt.pair_0, ↓Pt.pair_s, ↓Pt.gs_seq, ↓Pt.sq_rt, ↓Pt.sq_bk, ↓Pt.sq_ct, ↓Pt.sq_ex, ↓Pt.gs_skip, ↓Pt.gs_brk, ↓Pt.gs_cnt, ↓Pt.gs_nx, ↓Pt.gs_put, ↓Pt.gs_putZ, ↓Pt.gt_map, ↓Pt.gs_ret, ↓Pt.gs_drop, ↓Pt.gs_if, ↓Pt.gs_bind, ↓Pt.gs_par, ↓Pt.gs_par3, ↓Pt.gs_for, ↓Pt.fg_nx, ↓Pt.fg_ct, ↓Pt.fg_bk, ↓Pt.fg_rt, ↓Pt.gs_frz, ↓Pt.fe_s, ↓Pt.fe_l, ↓Pt.fe_k, ↓Pt.fe_t, ↓Pt.fe_d, ↓Pt.gs_apd, ↓Pt.gs_putT, ↓Pt.gs_srcPut, ↓Pt.ox_add, ↓Pt.ox_addL, ↓Pt.ox_addT, ↓Pt.ox_sub, ↓Pt.ox_mul, ↓Pt.ox_div, ↓Pt.ox_mod, ↓Pt.ox_neg, ↓Pt.ox_lt, ↓Pt.ox_le, ↓Pt.ox_gt, ↓Pt.ox_ge, ↓Pt.ox_eq, ↓Pt.ox_ne, ↓Pt.ox_eqS, ↓Pt.ox_neS, ↓Pt.ox_eqL, ↓Pt.ox_neL, ↓Pt.ox_eqT, ↓Pt.ox_neT, ↓Pt.ox_ix0, ↓Pt.ox_ix1, ↓Pt.ox_ix2, ↓Pt.ox_ix3, ↓Pt.ox_ixT0, ↓Pt.ox_ixT1, ↓Pt.ox_ixT2, ↓Pt.ox_ixT3, ↓Pt.ox_pow20, ↓Pt.ox_lenL, ↓Pt.ox_lenT, ↓Pt.ox_int, ↓Pt.ox_abs, ↓Pt.ox_max, ↓Pt.ox_min, ↓Pt.ox_tup, ↓Pt.ox_tupT, ↓Pt.ox_list, ↓Pt.ox_listT, ↓Pt.ox_repr, ↓Pt.wl_nx, ↓Pt.wl_ct, ↓Pt.wl_bk, ↓Pt.wl_rt, ↓Pt.wl_ex, ↓Pt.gt_rg2J, ↓Pt.gt_isiW, ↓Pt.ox_gcdW]
    unfold L_1_14_1
    refine gs_keepW ?_ ⟨_, _, rfl, _, _, _, _, _, _, _, _, _, _, _, _, _, rfl⟩
    simp -implicitDefEqProofs (disch := (first | omega | assumption | exact Pt.mul_r (by omega) (by omega) | exact Pt.mul_l (by omega) (by omega) | exact ml _ _ | decide)) only [↓Pt.gt_ok, ↓Pt.gt_bind, ↓Pt.gt_lift, ↓Pt.at_0, ↓Pt.at_s, ↓Pt.nt_0, ↓Pt.nt_s, ↓Pt.vd_d, ↓Pt.vd_h, ↓Pt.vo_l, ↓Pt.vo_k, ↓Pt.vo_t, ↓Pt.vl_l, ↓Pt.vs_s, ↓Pt.pu_0, ↓Pt.pu_s, ↓Pt.wi_0, ↓Pt.wi_s, ↓Pt.bp_n, ↓Pt.bp_t, ↓Pt.bp_l, ↓Pt.bps_0, ↓Pt.bps_s, ↓Pt.bo_t, ↓Pt.bo_f, ↓Pt.bo_not, ↓Pt.gt_var, ↓Pt.gt_own, ↓Pt.gt_c, ↓Pt.gt_bin, ↓Pt.gt_un, ↓Pt.gt_tst, ↓Pt.gt_andT, ↓Pt.gt_orT, ↓Pt.gt_notT, ↓Pt.gt_and, ↓Pt.gt_or, ↓Pt.gt_not, ↓Pt.gt_if, ↓Pt.gt_chain, ↓Pt.gt_nil, ↓Pt.gt_cons, ↓Pt.gt_consA, ↓Pt.gt_consS, ↓Pt.gt_tup, ↓Pt.gt_lst, ↓Pt.gt_fz, ↓Pt.gt_fzD, ↓Pt.gt_call, ↓Pt.gt_callL, ↓Pt.gt_callK, ↓Pt.gt_app, ↓Pt.gt_sl, ↓Pt.gt_none, ↓Pt.gt_some, ↓Pt.ls_l, ↓Pt.gt_rev, ↓Pt.gt_sq, ↓Pt.ox_some, ↓Pt.seq_l, ↓Pt.seq_t, ↓Pt.tst_b, ↓Pt.intD_i, ↓Pt.z1_i, ↓Pt.z2_i, ↓Pt.gt_rg1, ↓Pt.gt_rg1J, ↓Pt.gt_rg2, ↓Pt.gt_srcI, ↓Pt.gt_srcLen, ↓Pt.gt_lc, ↓Pt.gt_yes, ↓Pt.gl_nil, ↓Pt.gl_cons, ↓Pt.gl_ok, ↓Pt.vh_h, ↓Pt.vt_t, ↓Pt.gt_ht, ↓Pt.gt_tupL, ↓Pt.lst_l, ↓Pt.gt_newD, ↓Pt.tag_t, ↓Pt.gt_get2T, ↓Pt.key_3, ↓Pt.zp_l, ↓Pt.zp_t, ↓Pt.gt_zip, ↓Pt.pair_0, ↓Pt.pair_s, ↓Pt.gs_seq, ↓Pt.sq_nx, ↓Pt.sq_rt, ↓Pt.sq_bk, ↓Pt.sq_ct, ↓Pt.sq_ex, ↓Pt.gs_skip, ↓Pt.gs_brk, ↓Pt.gs_cnt, ↓Pt.gs_nx, ↓Pt.gs_put, ↓Pt.gs_putZ, ↓Pt.gt_map, ↓Pt.gs_ret, ↓Pt.gs_drop, ↓Pt.gs_if, ↓Pt.gs_bind, ↓Pt.gs_par, ↓Pt.gs_par3, ↓Pt.gs_for, ↓Pt.fg_nx, ↓Pt.fg_ct, ↓Pt.fg_bk, ↓Pt.fg_rt, ↓Pt.gs_frz, ↓Pt.fe_s, ↓Pt.fe_l, ↓Pt.fe_k, ↓Pt.fe_t, ↓Pt.fe_d, ↓Pt.gs_apd, ↓Pt.gs_putT, ↓Pt.gs_srcPut, ↓Pt.ox_add, ↓Pt.ox_addL, ↓Pt.ox_addT, ↓Pt.ox_sub, ↓Pt.ox_mul, ↓Pt.ox_div, ↓Pt.ox_mod, ↓Pt.ox_neg, ↓Pt.ox_lt, ↓Pt.ox_le, ↓Pt.ox_gt, ↓Pt.ox_ge, ↓Pt.ox_eq, ↓Pt.ox_ne, ↓Pt.ox_eqS, ↓Pt.ox_neS, ↓Pt.ox_eqL, ↓Pt.ox_neL, ↓Pt.ox_eqT, ↓Pt.ox_neT, ↓Pt.ox_ix0, ↓Pt.ox_ix1, ↓Pt.ox_ix2, ↓Pt.ox_ix3, ↓Pt.ox_ixT0, ↓Pt.ox_ixT1, ↓Pt.ox_ixT2, ↓Pt.ox_ixT3, ↓Pt.ox_pow20, ↓Pt.ox_lenL, ↓Pt.ox_lenT, ↓Pt.ox_int, ↓Pt.ox_abs, ↓Pt.ox_max, ↓Pt.ox_min, ↓Pt.ox_tup, ↓Pt.ox_tupT, ↓Pt.ox_list, ↓Pt.ox_listT, ↓Pt.ox_repr, ↓Pt.wl_nx, ↓Pt.wl_ct, ↓Pt.wl_bk, ↓Pt.wl_rt, ↓Pt.wl_ex, ↓Pt.gt_rg2J, ↓Pt.gt_isiW, ↓Pt.ox_gcdW, ↓gt_eq g1, ↓gt_eq g2, tb, true_and, decide_true, Bool.not_true, and_self]
  · obtain ⟨y0, y2, y5, y6, y7, y8, y9, y10, y11, y12, y13, y15, y16, rfl⟩ := he
    clear ho mo
    rw [Pt.sq_nx, Pt.gs_seq]
    unfold L_1_15
    simp -implicitDefEqProofs (disch := (first | omega | assumption | exact Pt.mul_r (by omega) (by omega) | exact Pt.mul_l (by omega) (by omega) | exact ml _ _ | decide)) only [↓Pt.gt_ok, ↓Pt.gt_bind, ↓Pt.gt_lift, ↓Pt.at_0, ↓Pt.at_s, ↓Pt.nt_0, ↓Pt.nt_s, ↓Pt.vd_d, ↓Pt.vd_h, ↓Pt.vo_l, ↓Pt.vo_k, ↓Pt.vo_t, ↓Pt.vl_l, ↓Pt.vs_s, ↓Pt.pu_0, ↓Pt.pu_s, ↓Pt.wi_0, ↓Pt.wi_s, ↓Pt.bp_n, ↓Pt.bp_t, ↓Pt.bp_l, ↓Pt.bps_0, ↓Pt.bps_s, ↓Pt.bo_t, ↓Pt.bo_f, ↓Pt.bo_not, ↓Pt.gt_var, ↓Pt.gt_own, ↓Pt.gt_c, ↓Pt.gt_bin, ↓Pt.gt_un, ↓Pt.gt_tst, ↓Pt.gt_andT, ↓Pt.gt_orT, ↓Pt.gt_notT, ↓Pt.gt_and, ↓Pt.gt_or, ↓Pt.gt_not, ↓Pt.gt_if, ↓Pt.gt_chain, ↓Pt.gt_nil, ↓Pt.gt_cons, ↓Pt.gt_consA, ↓Pt.gt_consS, ↓Pt.gt_tup, ↓Pt.gt_lst, ↓Pt.gt_fz, ↓Pt.gt_fzD, ↓Pt.gt_call, ↓Pt.gt_callL, ↓Pt.gt_callK, ↓Pt.gt_app, ↓Pt.gt_sl, ↓Pt.gt_none, ↓Pt.gt_some, ↓Pt.ls_l, ↓Pt.gt_rev, ↓Pt.gt_sq, ↓Pt.ox_some, ↓Pt.seq_l, ↓Pt.seq_t, ↓Pt.tst_b, ↓Pt.intD_i, ↓Pt.z1_i, ↓Pt.z2_i, ↓Pt.gt_rg1, ↓Pt.gt_rg1J, ↓Pt.gt_rg2, ↓Pt.gt_srcI, ↓Pt.gt_srcLen, ↓Pt.gt_lc, ↓Pt.gt_yes, ↓Pt.gl_nil, ↓Pt.gl_cons, ↓Pt.gl_ok, ↓Pt.vh_h, ↓Pt.vt_t, ↓Pt.gt_ht, ↓Pt.gt_tupL, ↓Pt.lst_l, ↓Pt.gt_newD, ↓Pt.tag_t, ↓Pt.gt_get2T, ↓Pt.key_3, ↓Pt.zp_l, ↓Pt.zp_t, ↓Pt.gt_zip, ↓Pt.pair_0, ↓Pt.pair_s, ↓Pt.gs_seq, ↓Pt.sq_rt, ↓Pt.sq_bk, ↓Pt.sq_ct, ↓Pt.sq_ex, ↓Pt.gs_skip, ↓Pt.gs_brk, ↓Pt.gs_cnt, ↓Pt.gs_nx, ↓Pt.gs_put, ↓Pt.gs_putZ, ↓Pt.gt_map, ↓Pt.gs_ret, ↓Pt.gs_drop, ↓Pt.gs_if, ↓Pt.gs_bind, ↓Pt.gs_par, ↓Pt.gs_par3, ↓Pt.gs_for, ↓Pt.fg_nx, ↓Pt.fg_ct, ↓Pt.fg_bk, ↓Pt.fg_rt, ↓Pt.gs_frz, ↓Pt.fe_s, ↓Pt.fe_l, ↓Pt.fe_k, ↓Pt.fe_t, ↓Pt.fe_d, ↓Pt.gs_apd, ↓Pt.gs_putT, ↓Pt.gs_srcPut, ↓Pt.ox_add, ↓Pt.ox_addL, ↓Pt.ox_addT, ↓Pt.ox_sub, ↓Pt.ox_mul, ↓Pt.ox_div, ↓Pt.ox_mod, ↓Pt.ox_neg, ↓Pt.ox_lt, ↓Pt.ox_le, ↓Pt.ox_gt, ↓Pt.ox_ge, ↓Pt.ox_eq, ↓Pt.ox_ne, ↓Pt.ox_eqS, ↓Pt.ox_neS, ↓Pt.ox_eqL, ↓Pt.ox_neL, ↓Pt.ox_eqT, ↓Pt.ox_neT, ↓Pt.ox_ix0, ↓Pt.ox_ix1, ↓Pt.ox_ix2, ↓Pt.ox_ix3, ↓Pt.ox_ixT0, ↓Pt.ox_ixT1, ↓Pt.ox_ixT2, ↓Pt.ox_ixT3, ↓Pt.ox_pow20, ↓Pt.ox_lenL, ↓Pt.ox_lenT, ↓Pt.ox_int, ↓Pt.ox_abs, ↓Pt.ox_max, ↓Pt.ox_min, ↓Pt.ox_tup, ↓Pt.ox_tupT, ↓Pt.ox_list, ↓Pt.ox_listT, ↓Pt.ox_repr, ↓Pt.wl_nx, ↓Pt.wl_ct, ↓Pt.wl_bk, ↓Pt.wl_rt, ↓Pt.wl_ex, ↓Pt.gt_rg2J, ↓Pt.gt_isiW, ↓Pt.ox_gcdW, z1, z2, z5, true_and, ↓sl3]
    rw [Pt.sq_nx]
    unfold L_1_16
    have m1 : ∀ x y : Int, x.natAbs ≤ 2125764 → mulB x y = true := fun x y h => mul_l (by omega) (by omega)
    have ia : mulOk (.tuple [.int a, .int b, .int c, .int d]) := mulOk4 ⟨m1 _ _ b1, m1 _ _ b2⟩
    have ib : mulOk (.tuple [.int n.a, .int n.b, .int n.c, .int n.d]) := mulOk4 ⟨m1 _ _ n1, m1 _ _ n2⟩
    have i3 : mulOk (.tuple [.int a, .int b, .int c]) := mulOkN fun _ _ _ _ => by simp
    have md : a * d - b * c = 1 := md
    have nd : n.a * n.d - n.b * n.c = 1 := nd
    have two : ∀ (x y : Pt.D), mulOk x → mulOk y → ∀ ds, PyData.tuple [x, y] = .tuple ds → ∀ z ∈ ds, mulOk z := fun x y hx hy ds h z hz => by
      rw [← PyData.tuple.inj h] at hz
      simp only [List.mem_cons, List.not_mem_nil, or_false] at hz
      rcases hz with rfl | rfl <;> assumption
    have one : ∀ (x : Pt.D), mulOk x → ∀ ds, PyData.tuple [x] = .tuple ds → ∀ z ∈ ds, mulOk z := fun x hx ds h z hz => by
      rw [← PyData.tuple.inj h] at hz
      simp only [List.mem_cons, List.not_mem_nil, or_false] at hz
      rcases hz with rfl; assumption
    have g1 := F_isP (.tuple [.tuple [.int a, .int b, .int c, .int d], .tuple [.int n.a, .int n.b, .int n.c, .int n.d]]) s1 (two _ _ ia ib)
    have g2 := F_isP (.list [.tuple [.int a, .int b, .int c, .int d], .tuple [.int n.a, .int n.b, .int n.c, .int n.d]]) s1 (fun ds h => nomatch h)
    have g3 := F_isP (.tuple [.tuple [.int a, .int b, .int c, .int d]]) s1 (one _ ia)
    have g4 := F_isP (.tuple [.tuple [.int a, .int b, .int c, .int d], .tuple [.int a, .int b, .int c]]) s1 (two _ _ ia i3)
    have g5 := F_isP .none s1 (fun ds h => nomatch h)
    have p1 : pairB (.tuple [.tuple [.int a, .int b, .int c, .int d], .tuple [.int n.a, .int n.b, .int n.c, .int n.d]]) = true := by
      show (decide (_ = _) && decide (_ = _)) = true
      rw [decide_eq_true md, decide_eq_true nd]
      rfl
    have p2 : pairB (.list [.tuple [.int a, .int b, .int c, .int d], .tuple [.int n.a, .int n.b, .int n.c, .int n.d]]) = false := rfl
    have p3 : pairB (.tuple [.tuple [.int a, .int b, .int c, .int d]]) = false := rfl
    have p4 : pairB (.tuple [.tuple [.int a, .int b, .int c, .int d], .tuple [.int a, .int b, .int c]]) = false := by
      show (_ && false) = false
      rw [Bool.and_false]
    have p5 : pairB .none = false := rfl
    rw [p1] at g1
    rw [p2] at g2
    rw [p3] at g3
    rw [p4] at g4
    rw [p5] at g5
    have mulL : ∀ K : Pt.D → Prop, Ox (dMul (.list [.bool false]) (.int 4)) K = K (.list [.bool false, .bool false, .bool false, .bool false]) := fun K => rfl
    have adL : ∀ K : Pt.D → Prop, Ox (dAdd (.list [.bool true]) (.list [.bool false, .bool false, .bool false, .bool false])) K = K (.list [.bool true, .bool false, .bool false, .bool false, .bool false]) := fun K => rfl
    have neL : ∀ K : Pt.D → Prop, Ox (dNe (.list [.bool true, .bool false, .bool false, .bool false, .bool false]) (.list [.bool true, .bool false, .bool false, .bool false, .bool false])) K = K (.bool false) := fun K => by
      show Ox (if (shB (.list [.bool true, .bool false, .bool false, .bool false, .bool false]) && shB (.list [.bool true, .bool false, .bool false, .bool false, .bool false])) = true then some (PyData.bool (!PyData.eqv (.list [.bool true, .bool false, .bool false, .bool false, .bool false]) (.list [.bool true, .bool false, .bool false, .bool false, .bool false]))) else none) K = _
      have e1 : shB (.list [.bool true, .bool false, .bool false, .bool false, .bool false]) = true := by decide
      have e2 : PyData.eqv (.list [.bool true, .bool false, .bool false, .bool false, .bool false]) (.list [.bool true, .bool false, .bool false, .bool false, .bool false]) = true := by decide
      rw [e1, e2]
      rfl
    refine gs_keepW ?_ ?_
    · simp -implicitDefEqProofs (disch := (first | omega | assumption | exact Pt.mul_r (by omega) (by omega) | exact Pt.mul_l (by omega) (by omega) | exact ml _ _ | decide)) only [↓Pt.gt_ok, ↓Pt.gt_bind, ↓Pt.gt_lift, ↓Pt.at_0, ↓Pt.at_s, ↓Pt.nt_0, ↓Pt.nt_s, ↓Pt.vd_d, ↓Pt.vd_h, ↓Pt.vo_l, ↓Pt.vo_k, ↓Pt.vo_t, ↓Pt.vl_l, ↓Pt.vs_s, ↓Pt.pu_0, ↓Pt.pu_s, ↓Pt.wi_0, ↓Pt.wi_s, ↓Pt.bp_n, ↓Pt.bp_t, ↓Pt.bp_l, ↓Pt.bps_0, ↓Pt.bps_s, ↓Pt.bo_t, ↓Pt.bo_f, ↓Pt.bo_not, ↓Pt.gt_var, ↓Pt.gt_own, ↓Pt.gt_c, ↓Pt.gt_bin, ↓Pt.gt_un, ↓Pt.gt_tst, ↓Pt.gt_andT, ↓Pt.gt_orT, ↓Pt.gt_notT, ↓Pt.gt_and, ↓Pt.gt_or, ↓Pt.gt_not, ↓Pt.gt_if, ↓Pt.gt_chain, ↓Pt.gt_nil, ↓Pt.gt_cons, ↓Pt.gt_consA, ↓Pt.gt_consS, ↓Pt.gt_tup, ↓Pt.gt_lst, ↓Pt.gt_fz, ↓Pt.gt_fzD, ↓Pt.gt_call, ↓Pt.gt_callL, ↓Pt.gt_callK, ↓Pt.gt_app, ↓Pt.gt_sl, ↓Pt.gt_none, ↓Pt.gt_some, ↓Pt.ls_l, ↓Pt.gt_rev, ↓Pt.gt_sq, ↓Pt.ox_some, ↓Pt.seq_l, ↓Pt.seq_t, ↓Pt.tst_b, ↓Pt.intD_i, ↓Pt.z1_i, ↓Pt.z2_i, ↓Pt.gt_rg1, ↓Pt.gt_rg1J, ↓Pt.gt_rg2, ↓Pt.gt_srcI, ↓Pt.gt_srcLen, ↓Pt.gt_lc, ↓Pt.gt_yes, ↓Pt.gl_nil, ↓Pt.gl_cons, ↓Pt.gl_ok, ↓Pt.vh_h, ↓Pt.vt_t, ↓Pt.gt_ht, ↓Pt.gt_tupL, ↓Pt.lst_l, ↓Pt.gt_newD, ↓Pt.tag_t, ↓Pt.gt_get2T, ↓Pt.key_3, ↓Pt.zp_l, ↓Pt.zp_t, ↓Pt.gt_zip, ↓Pt.pair_0, ↓Pt.pair_s, ↓Pt.gs_seq, ↓Pt.sq_nx, ↓Pt.sq_rt, ↓Pt.sq_bk, ↓Pt.sq_ct, ↓Pt.sq_ex, ↓Pt.gs_skip, ↓Pt.gs_brk, ↓Pt.gs_cnt, ↓Pt.gs_nx, ↓Pt.gs_put, ↓Pt.gs_putZ, ↓Pt.gt_map, ↓Pt.gs_ret, ↓Pt.gs_drop, ↓Pt.gs_if, ↓Pt.gs_bind, ↓Pt.gs_par, ↓Pt.gs_par3, ↓Pt.gs_for, ↓Pt.fg_nx, ↓Pt.fg_ct, ↓Pt.fg_bk, ↓Pt.fg_rt, ↓Pt.gs_frz, ↓Pt.fe_s, ↓Pt.fe_l, ↓Pt.fe_k, ↓Pt.fe_t, ↓Pt.fe_d, ↓Pt.gs_apd, ↓Pt.gs_putT, ↓Pt.gs_srcPut, ↓Pt.ox_add, ↓Pt.ox_addL, ↓Pt.ox_addT, ↓Pt.ox_sub, ↓Pt.ox_mul, ↓Pt.ox_div, ↓Pt.ox_mod, ↓Pt.ox_neg, ↓Pt.ox_lt, ↓Pt.ox_le, ↓Pt.ox_gt, ↓Pt.ox_ge, ↓Pt.ox_eq, ↓Pt.ox_ne, ↓Pt.ox_eqS, ↓Pt.ox_neS, ↓Pt.ox_eqL, ↓Pt.ox_neL, ↓Pt.ox_eqT, ↓Pt.ox_neT, ↓Pt.ox_ix0, ↓Pt.ox_ix1, ↓Pt.ox_ix2, ↓Pt.ox_ix3, ↓Pt.ox_ixT0, ↓Pt.ox_ixT1, ↓Pt.ox_ixT2, ↓Pt.ox_ixT3, ↓Pt.ox_pow20, ↓Pt.ox_lenL, ↓Pt.ox_lenT, ↓Pt.ox_int, ↓Pt.ox_abs, ↓Pt.ox_max, ↓Pt.ox_min, ↓Pt.ox_tup, ↓Pt.ox_tupT, ↓Pt.ox_list, ↓Pt.ox_listT, ↓Pt.ox_repr, ↓Pt.wl_nx, ↓Pt.wl_ct, ↓Pt.wl_bk, ↓Pt.wl_rt, ↓Pt.wl_ex, ↓Pt.gt_rg2J, ↓Pt.gt_isiW, ↓Pt.ox_gcdW, ↓gt_eq g1, ↓gt_eq g2, ↓gt_eq g3, ↓gt_eq g4, ↓gt_eq g5, z1, true_and, ↓mulL, ↓adL, ↓neL, and_self]
    · exact ⟨_, _, rfl, _, _, _, _, _, _, _, _, _, _, _, _, _, _, _, _, rfl⟩
end
theorem lap_ok (x : Pt.D) (e : Sg) (s : Src) (hI : I1 e) : Bp (.n 2) x e fun e1 => Gs (L_1b e1 s) fun r => ∃ e2 s2, r = .nx e2 s2 ∧ I1 e2 := by
  obtain ⟨x0, x2, x3, x4, x5, x6, x7, x8, x9, x10, x11, x12, x13, x14, x15, x16, rfl⟩ := hI
  simp -implicitDefEqProofs (disch := (first | omega | assumption | exact Pt.mul_r (by omega) (by omega) | exact Pt.mul_l (by omega) (by omega) | exact ml _ _ | decide)) only [↓Pt.gt_ok, ↓Pt.gt_bind, ↓Pt.gt_lift, ↓Pt.at_0, ↓Pt.at_s, ↓Pt.nt_0, ↓Pt.nt_s, ↓Pt.vd_d, ↓Pt.vd_h, ↓Pt.vo_l, ↓Pt.vo_k, ↓Pt.vo_t, ↓Pt.vl_l, ↓Pt.vs_s, ↓Pt.pu_0, ↓Pt.pu_s, ↓Pt.wi_0, ↓Pt.wi_s, ↓Pt.bp_n, ↓Pt.bp_t, ↓Pt.bp_l, ↓Pt.bps_0, ↓Pt.bps_s, ↓Pt.bo_t, ↓Pt.bo_f, ↓Pt.bo_not, ↓Pt.gt_var, ↓Pt.gt_own, ↓Pt.gt_c, ↓Pt.gt_bin, ↓Pt.gt_un, ↓Pt.gt_tst, ↓Pt.gt_andT, ↓Pt.gt_orT, ↓Pt.gt_notT, ↓Pt.gt_and, ↓Pt.gt_or, ↓Pt.gt_not, ↓Pt.gt_if, ↓Pt.gt_chain, ↓Pt.gt_nil, ↓Pt.gt_cons, ↓Pt.gt_consA, ↓Pt.gt_consS, ↓Pt.gt_tup, ↓Pt.gt_lst, ↓Pt.gt_fz, ↓Pt.gt_fzD, ↓Pt.gt_call, ↓Pt.gt_callL, ↓Pt.gt_callK, ↓Pt.gt_app, ↓Pt.gt_sl, ↓Pt.gt_none, ↓Pt.gt_some, ↓Pt.ls_l, ↓Pt.gt_rev, ↓Pt.gt_sq, ↓Pt.ox_some, ↓Pt.seq_l, ↓Pt.seq_t, ↓Pt.tst_b, ↓Pt.intD_i, ↓Pt.z1_i, ↓Pt.z2_i, ↓Pt.gt_rg1, ↓Pt.gt_rg1J, ↓Pt.gt_rg2, ↓Pt.gt_srcI, ↓Pt.gt_srcLen, ↓Pt.gt_lc, ↓Pt.gt_yes, ↓Pt.gl_nil, ↓Pt.gl_cons, ↓Pt.gl_ok, ↓Pt.vh_h, ↓Pt.vt_t, ↓Pt.gt_ht, ↓Pt.gt_tupL, ↓Pt.lst_l, ↓Pt.gt_newD, ↓Pt.tag_t, ↓Pt.gt_get2T, ↓Pt.key_3, ↓Pt.zp_l, ↓Pt.zp_t, ↓Pt.gt_zip, ↓Pt.pair_0, ↓Pt.pair_s, ↓Pt.gs_seq, ↓Pt.sq_rt, ↓Pt.sq_bk, ↓Pt.sq_ct, ↓Pt.sq_ex, ↓Pt.gs_skip, ↓Pt.gs_brk, ↓Pt.gs_cnt, ↓Pt.gs_nx, ↓Pt.gs_put, ↓Pt.gs_putZ, ↓Pt.gt_map, ↓Pt.gs_ret, ↓Pt.gs_drop, ↓Pt.gs_if, ↓Pt.gs_bind, ↓Pt.gs_par, ↓Pt.gs_par3, ↓Pt.gs_for, ↓Pt.fg_nx, ↓Pt.fg_ct, ↓Pt.fg_bk, ↓Pt.fg_rt, ↓Pt.gs_frz, ↓Pt.fe_s, ↓Pt.fe_l, ↓Pt.fe_k, ↓Pt.fe_t, ↓Pt.fe_d, ↓Pt.gs_apd, ↓Pt.gs_putT, ↓Pt.gs_srcPut, ↓Pt.ox_add, ↓Pt.ox_addL, ↓Pt.ox_addT, ↓Pt.ox_sub, ↓Pt.ox_mul, ↓Pt.ox_div, ↓Pt.ox_mod, ↓Pt.ox_neg, ↓Pt.ox_lt, ↓Pt.ox_le, ↓Pt.ox_gt, ↓Pt.ox_ge, ↓Pt.ox_eq, ↓Pt.ox_ne, ↓Pt.ox_eqS, ↓Pt.ox_neS, ↓Pt.ox_eqL, ↓Pt.ox_neL, ↓Pt.ox_eqT, ↓Pt.ox_neT, ↓Pt.ox_ix0, ↓Pt.ox_ix1, ↓Pt.ox_ix2, ↓Pt.ox_ix3, ↓Pt.ox_ixT0, ↓Pt.ox_ixT1, ↓Pt.ox_ixT2, ↓Pt.ox_ixT3, ↓Pt.ox_pow20, ↓Pt.ox_lenL, ↓Pt.ox_lenT, ↓Pt.ox_int, ↓Pt.ox_abs, ↓Pt.ox_max, ↓Pt.ox_min, ↓Pt.ox_tup, ↓Pt.ox_tupT, ↓Pt.ox_list, ↓Pt.ox_listT, ↓Pt.ox_repr]
  unfold L_1b
  rw [Pt.gs_seq]
  unfold L_1_1
  simp -implicitDefEqProofs (disch := (first | omega | assumption | exact Pt.mul_r (by omega) (by omega) | exact Pt.mul_l (by omega) (by omega) | exact ml _ _ | decide)) only [↓Pt.gt_ok, ↓Pt.gt_bind, ↓Pt.gt_lift, ↓Pt.at_0, ↓Pt.at_s, ↓Pt.nt_0, ↓Pt.nt_s, ↓Pt.vd_d, ↓Pt.vd_h, ↓Pt.vo_l, ↓Pt.vo_k, ↓Pt.vo_t, ↓Pt.vl_l, ↓Pt.vs_s, ↓Pt.pu_0, ↓Pt.pu_s, ↓Pt.wi_0, ↓Pt.wi_s, ↓Pt.bp_n, ↓Pt.bp_t, ↓Pt.bp_l, ↓Pt.bps_0, ↓Pt.bps_s, ↓Pt.bo_t, ↓Pt.bo_f, ↓Pt.bo_not, ↓Pt.gt_var, ↓Pt.gt_own, ↓Pt.gt_c, ↓Pt.gt_bin, ↓Pt.gt_un, ↓Pt.gt_tst, ↓Pt.gt_andT, ↓Pt.gt_orT, ↓Pt.gt_notT, ↓Pt.gt_and, ↓Pt.gt_or, ↓Pt.gt_not, ↓Pt.gt_if, ↓Pt.gt_chain, ↓Pt.gt_nil, ↓Pt.gt_cons, ↓Pt.gt_consA, ↓Pt.gt_consS, ↓Pt.gt_tup, ↓Pt.gt_lst, ↓Pt.gt_fz, ↓Pt.gt_fzD, ↓Pt.gt_call, ↓Pt.gt_callL, ↓Pt.gt_callK, ↓Pt.gt_app, ↓Pt.gt_sl, ↓Pt.gt_none, ↓Pt.gt_some, ↓Pt.ls_l, ↓Pt.gt_rev, ↓Pt.gt_sq, ↓Pt.ox_some, ↓Pt.seq_l, ↓Pt.seq_t, ↓Pt.tst_b, ↓Pt.intD_i, ↓Pt.z1_i, ↓Pt.z2_i, ↓Pt.gt_rg1, ↓Pt.gt_rg1J, ↓Pt.gt_rg2, ↓Pt.gt_srcI, ↓Pt.gt_srcLen, ↓Pt.gt_lc, ↓Pt.gt_yes, ↓Pt.gl_nil, ↓Pt.gl_cons, ↓Pt.gl_ok, ↓Pt.vh_h, ↓Pt.vt_t, ↓Pt.gt_ht, ↓Pt.gt_tupL, ↓Pt.lst_l, ↓Pt.gt_newD, ↓Pt.tag_t, ↓Pt.gt_get2T, ↓Pt.key_3, ↓Pt.zp_l, ↓Pt.zp_t, ↓Pt.gt_zip, ↓Pt.pair_0, ↓Pt.pair_s, ↓Pt.gs_seq, ↓Pt.sq_rt, ↓Pt.sq_bk, ↓Pt.sq_ct, ↓Pt.sq_ex, ↓Pt.gs_skip, ↓Pt.gs_brk, ↓Pt.gs_cnt, ↓Pt.gs_nx, ↓Pt.gs_put, ↓Pt.gs_putZ, ↓Pt.gt_map, ↓Pt.gs_ret, ↓Pt.gs_drop, ↓Pt.gs_if, ↓Pt.gs_bind, ↓Pt.gs_par, ↓Pt.gs_par3, ↓Pt.gs_for, ↓Pt.fg_nx, ↓Pt.fg_ct, ↓Pt.fg_bk, ↓Pt.fg_rt, ↓Pt.gs_frz, ↓Pt.fe_s, ↓Pt.fe_l, ↓Pt.fe_k, ↓Pt.fe_t, ↓Pt.fe_d, ↓Pt.gs_apd, ↓Pt.gs_putT, ↓Pt.gs_srcPut, ↓Pt.ox_add, ↓Pt.ox_addL, ↓Pt.ox_addT, ↓Pt.ox_sub, ↓Pt.ox_mul, ↓Pt.ox_div, ↓Pt.ox_mod, ↓Pt.ox_neg, ↓Pt.ox_lt, ↓Pt.ox_le, ↓Pt.ox_gt, ↓Pt.ox_ge, ↓Pt.ox_eq, ↓Pt.ox_ne, ↓Pt.ox_eqS, ↓Pt.ox_neS, ↓Pt.ox_eqL, ↓Pt.ox_neL, ↓Pt.ox_eqT, ↓Pt.ox_neT, ↓Pt.ox_ix0, ↓Pt.ox_ix1, ↓Pt.ox_ix2, ↓Pt.ox_ix3, ↓Pt.ox_ixT0, ↓Pt.ox_ixT1, ↓Pt.ox_ixT2, ↓Pt.ox_ixT3, ↓Pt.ox_pow20, ↓Pt.ox_lenL, ↓Pt.ox_lenT, ↓Pt.ox_int, ↓Pt.ox_abs, ↓Pt.ox_max, ↓Pt.ox_min, ↓Pt.ox_tup, ↓Pt.ox_tupT, ↓Pt.ox_list, ↓Pt.ox_listT, ↓Pt.ox_repr]
  refine gt_use (F_pair s) ?_
  rintro _ s1 ⟨m, n, rfl, ⟨md, ml⟩, nd, nl⟩
  simp -implicitDefEqProofs (disch := (first | omega | assumption | exact Pt.mul_r (by omega) (by omega) | exact Pt.mul_l (by omega) (by omega) | exact ml _ _ | decide)) only [↓Pt.gt_ok, ↓Pt.gt_bind, ↓Pt.gt_lift, ↓Pt.at_0, ↓Pt.at_s, ↓Pt.nt_0, ↓Pt.nt_s, ↓Pt.vd_d, ↓Pt.vd_h, ↓Pt.vo_l, ↓Pt.vo_k, ↓Pt.vo_t, ↓Pt.vl_l, ↓Pt.vs_s, ↓Pt.pu_0, ↓Pt.pu_s, ↓Pt.wi_0, ↓Pt.wi_s, ↓Pt.bp_n, ↓Pt.bp_t, ↓Pt.bp_l, ↓Pt.bps_0, ↓Pt.bps_s, ↓Pt.bo_t, ↓Pt.bo_f, ↓Pt.bo_not, ↓Pt.gt_var, ↓Pt.gt_own, ↓Pt.gt_c, ↓Pt.gt_bin, ↓Pt.gt_un, ↓Pt.gt_tst, ↓Pt.gt_andT, ↓Pt.gt_orT, ↓Pt.gt_notT, ↓Pt.gt_and, ↓Pt.gt_or, ↓Pt.gt_not, ↓Pt.gt_if, ↓Pt.gt_chain, ↓Pt.gt_nil, ↓Pt.gt_cons, ↓Pt.gt_consA, ↓Pt.gt_consS, ↓Pt.gt_tup, ↓Pt.gt_lst, ↓Pt.gt_fz, ↓Pt.gt_fzD, ↓Pt.gt_call, ↓Pt.gt_callL, ↓Pt.gt_callK, ↓Pt.gt_app, ↓Pt.gt_sl, ↓Pt.gt_none, ↓Pt.gt_some, ↓Pt.ls_l, ↓Pt.gt_rev, ↓Pt.gt_sq, ↓Pt.ox_some, ↓Pt.seq_l, ↓Pt.seq_t, ↓Pt.tst_b, ↓Pt.intD_i, ↓Pt.z1_i, ↓Pt.z2_i, ↓Pt.gt_rg1, ↓Pt.gt_rg1J, ↓Pt.gt_rg2, ↓Pt.gt_srcI, ↓Pt.gt_srcLen, ↓Pt.gt_lc, ↓Pt.gt_yes, ↓Pt.gl_nil, ↓Pt.gl_cons, ↓Pt.gl_ok, ↓Pt.vh_h, ↓Pt.vt_t, ↓Pt.gt_ht, ↓Pt.gt_tupL, ↓Pt.lst_l, ↓Pt.gt_newD, ↓Pt.tag_t, ↓Pt.gt_get2T, ↓Pt.key_3, ↓Pt.zp_l, ↓Pt.zp_t, ↓Pt.gt_zip, ↓Pt.pair_0, ↓Pt.pair_s, ↓Pt.gs_seq, ↓Pt.sq_rt, ↓Pt.sq_bk, ↓Pt.sq_ct, ↓Pt.sq_ex, ↓Pt.gs_skip, ↓Pt.gs_brk, ↓Pt.gs_cnt, ↓Pt.gs_nx, ↓Pt.gs_put, ↓Pt.gs_putZ, ↓Pt.gt_map, ↓Pt.gs_ret, ↓Pt.gs_drop, ↓Pt.gs_if, ↓Pt.gs_bind, ↓Pt.gs_par, ↓Pt.gs_par3, ↓Pt.gs_for, ↓Pt.fg_nx, ↓Pt.fg_ct, ↓Pt.fg_bk, ↓Pt.fg_rt, ↓Pt.gs_frz, ↓Pt.fe_s, ↓Pt.fe_l, ↓Pt.fe_k, ↓Pt.fe_t, ↓Pt.fe_d, ↓Pt.gs_apd, ↓Pt.gs_putT, ↓Pt.gs_srcPut, ↓Pt.ox_add, ↓Pt.ox_addL, ↓Pt.ox_addT, ↓Pt.ox_sub, ↓Pt.ox_mul, ↓Pt.ox_div, ↓Pt.ox_mod, ↓Pt.ox_neg, ↓Pt.ox_lt, ↓Pt.ox_le, ↓Pt.ox_gt, ↓Pt.ox_ge, ↓Pt.ox_eq, ↓Pt.ox_ne, ↓Pt.ox_eqS, ↓Pt.ox_neS, ↓Pt.ox_eqL, ↓Pt.ox_neL, ↓Pt.ox_eqT, ↓Pt.ox_neT, ↓Pt.ox_ix0, ↓Pt.ox_ix1, ↓Pt.ox_ix2, ↓Pt.ox_ix3, ↓Pt.ox_ixT0, ↓Pt.ox_ixT1, ↓Pt.ox_ixT2, ↓Pt.ox_ixT3, ↓Pt.ox_pow20, ↓Pt.ox_lenL, ↓Pt.ox_lenT, ↓Pt.ox_int, ↓Pt.ox_abs, ↓Pt.ox_max, ↓Pt.ox_min, ↓Pt.ox_tup, ↓Pt.ox_tupT, ↓Pt.ox_list, ↓Pt.ox_listT, ↓Pt.ox_repr]
  -- told, triple
  have ml1 : m.le 1073000000 := M4.le_mono ml (by decide)
  have nl1 : n.le 1073000000 := M4.le_mono nl (by decide)
  have f1 := F_line m n s1 ml1 nl1
  have f2 := F_triple m n s1 (M4.le_mono nl (by decide))
  have z2 : ∀ a b : Pt.D, szB [a, b].length = true := fun _ _ => rfl
  rw [Pt.sq_nx, Pt.gs_seq]
  unfold L_1_2
  simp -implicitDefEqProofs (disch := (first | omega | assumption | exact Pt.mul_r (by omega) (by omega) | exact Pt.mul_l (by omega) (by omega) | exact ml _ _ | decide)) only [↓Pt.gt_ok, ↓Pt.gt_bind, ↓Pt.gt_lift, ↓Pt.at_0, ↓Pt.at_s, ↓Pt.nt_0, ↓Pt.nt_s, ↓Pt.vd_d, ↓Pt.vd_h, ↓Pt.vo_l, ↓Pt.vo_k, ↓Pt.vo_t, ↓Pt.vl_l, ↓Pt.vs_s, ↓Pt.pu_0, ↓Pt.pu_s, ↓Pt.wi_0, ↓Pt.wi_s, ↓Pt.bp_n, ↓Pt.bp_t, ↓Pt.bp_l, ↓Pt.bps_0, ↓Pt.bps_s, ↓Pt.bo_t, ↓Pt.bo_f, ↓Pt.bo_not, ↓Pt.gt_var, ↓Pt.gt_own, ↓Pt.gt_c, ↓Pt.gt_bin, ↓Pt.gt_un, ↓Pt.gt_tst, ↓Pt.gt_andT, ↓Pt.gt_orT, ↓Pt.gt_notT, ↓Pt.gt_and, ↓Pt.gt_or, ↓Pt.gt_not, ↓Pt.gt_if, ↓Pt.gt_chain, ↓Pt.gt_nil, ↓Pt.gt_cons, ↓Pt.gt_consA, ↓Pt.gt_consS, ↓Pt.gt_tup, ↓Pt.gt_lst, ↓Pt.gt_fz, ↓Pt.gt_fzD, ↓Pt.gt_call, ↓Pt.gt_callL, ↓Pt.gt_callK, ↓Pt.gt_app, ↓Pt.gt_sl, ↓Pt.gt_none, ↓Pt.gt_some, ↓Pt.ls_l, ↓Pt.gt_rev, ↓Pt.gt_sq, ↓Pt.ox_some, ↓Pt.seq_l, ↓Pt.seq_t, ↓Pt.tst_b, ↓Pt.intD_i, ↓Pt.z1_i, ↓Pt.z2_i, ↓Pt.gt_rg1, ↓Pt.gt_rg1J, ↓Pt.gt_rg2, ↓Pt.gt_srcI, ↓Pt.gt_srcLen, ↓Pt.gt_lc, ↓Pt.gt_yes, ↓Pt.gl_nil, ↓Pt.gl_cons, ↓Pt.gl_ok, ↓Pt.vh_h, ↓Pt.vt_t, ↓Pt.gt_ht, ↓Pt.gt_tupL, ↓Pt.lst_l, ↓Pt.gt_newD, ↓Pt.tag_t, ↓Pt.gt_get2T, ↓Pt.key_3, ↓Pt.zp_l, ↓Pt.zp_t, ↓Pt.gt_zip, ↓Pt.pair_0, ↓Pt.pair_s, ↓Pt.gs_seq, ↓Pt.sq_rt, ↓Pt.sq_bk, ↓Pt.sq_ct, ↓Pt.sq_ex, ↓Pt.gs_skip, ↓Pt.gs_brk, ↓Pt.gs_cnt, ↓Pt.gs_nx, ↓Pt.gs_put, ↓Pt.gs_putZ, ↓Pt.gt_map, ↓Pt.gs_ret, ↓Pt.gs_drop, ↓Pt.gs_if, ↓Pt.gs_bind, ↓Pt.gs_par, ↓Pt.gs_par3, ↓Pt.gs_for, ↓Pt.fg_nx, ↓Pt.fg_ct, ↓Pt.fg_bk, ↓Pt.fg_rt, ↓Pt.gs_frz, ↓Pt.fe_s, ↓Pt.fe_l, ↓Pt.fe_k, ↓Pt.fe_t, ↓Pt.fe_d, ↓Pt.gs_apd, ↓Pt.gs_putT, ↓Pt.gs_srcPut, ↓Pt.ox_add, ↓Pt.ox_addL, ↓Pt.ox_addT, ↓Pt.ox_sub, ↓Pt.ox_mul, ↓Pt.ox_div, ↓Pt.ox_mod, ↓Pt.ox_neg, ↓Pt.ox_lt, ↓Pt.ox_le, ↓Pt.ox_gt, ↓Pt.ox_ge, ↓Pt.ox_eq, ↓Pt.ox_ne, ↓Pt.ox_eqS, ↓Pt.ox_neS, ↓Pt.ox_eqL, ↓Pt.ox_neL, ↓Pt.ox_eqT, ↓Pt.ox_neT, ↓Pt.ox_ix0, ↓Pt.ox_ix1, ↓Pt.ox_ix2, ↓Pt.ox_ix3, ↓Pt.ox_ixT0, ↓Pt.ox_ixT1, ↓Pt.ox_ixT2, ↓Pt.ox_ixT3, ↓Pt.ox_pow20, ↓Pt.ox_lenL, ↓Pt.ox_lenT, ↓Pt.ox_int, ↓Pt.ox_abs, ↓Pt.ox_max, ↓Pt.ox_min, ↓Pt.ox_tup, ↓Pt.ox_tupT, ↓Pt.ox_list, ↓Pt.ox_listT, ↓Pt.ox_repr, z2, true_and, ↓gt_eq f1, ↓gt_eq f2]
  -- repr
  have f3 := F_due m n s1 ml1 nl1
  have f4 := F_tracedP m n s1 (M4.le_mono nl (by decide))
  have t1 := (okD_told md nd ml1 nl1).text
  have t2 : textOk (tri m n) = true := by
    have e5 := M4.tr_le ml
    have e6 := M4.tr_le nl
    have e7 := M4.tr_le (M4.mul_le ml nl)
    refine text_ok ?_ (by simp [nodes, nodesAll]) (by simp [PyData.depth, PyData.depthAll])
    simp only [Pt.plain, plainAll, wide_of (show -18446744073709551616 < m.tr by omega) (by omega), wide_of (show -18446744073709551616 < n.tr by omega) (by omega), wide_of (show -18446744073709551616 < (m.mul n).tr by omega) (by omega), Bool.and_true]
  rw [Pt.sq_nx, Pt.gs_seq]
  unfold L_1_3
  refine gs_keepW ?_ ?_
  · simp -implicitDefEqProofs (disch := (first | omega | assumption | exact Pt.mul_r (by omega) (by omega) | exact Pt.mul_l (by omega) (by omega) | exact ml _ _ | decide)) only [↓Pt.gt_ok, ↓Pt.gt_bind, ↓Pt.gt_lift, ↓Pt.at_0, ↓Pt.at_s, ↓Pt.nt_0, ↓Pt.nt_s, ↓Pt.vd_d, ↓Pt.vd_h, ↓Pt.vo_l, ↓Pt.vo_k, ↓Pt.vo_t, ↓Pt.vl_l, ↓Pt.vs_s, ↓Pt.pu_0, ↓Pt.pu_s, ↓Pt.wi_0, ↓Pt.wi_s, ↓Pt.bp_n, ↓Pt.bp_t, ↓Pt.bp_l, ↓Pt.bps_0, ↓Pt.bps_s, ↓Pt.bo_t, ↓Pt.bo_f, ↓Pt.bo_not, ↓Pt.gt_var, ↓Pt.gt_own, ↓Pt.gt_c, ↓Pt.gt_bin, ↓Pt.gt_un, ↓Pt.gt_tst, ↓Pt.gt_andT, ↓Pt.gt_orT, ↓Pt.gt_notT, ↓Pt.gt_and, ↓Pt.gt_or, ↓Pt.gt_not, ↓Pt.gt_if, ↓Pt.gt_chain, ↓Pt.gt_nil, ↓Pt.gt_cons, ↓Pt.gt_consA, ↓Pt.gt_consS, ↓Pt.gt_tup, ↓Pt.gt_lst, ↓Pt.gt_fz, ↓Pt.gt_fzD, ↓Pt.gt_call, ↓Pt.gt_callL, ↓Pt.gt_callK, ↓Pt.gt_app, ↓Pt.gt_sl, ↓Pt.gt_none, ↓Pt.gt_some, ↓Pt.ls_l, ↓Pt.gt_rev, ↓Pt.gt_sq, ↓Pt.ox_some, ↓Pt.seq_l, ↓Pt.seq_t, ↓Pt.tst_b, ↓Pt.intD_i, ↓Pt.z1_i, ↓Pt.z2_i, ↓Pt.gt_rg1, ↓Pt.gt_rg1J, ↓Pt.gt_rg2, ↓Pt.gt_srcI, ↓Pt.gt_srcLen, ↓Pt.gt_lc, ↓Pt.gt_yes, ↓Pt.gl_nil, ↓Pt.gl_cons, ↓Pt.gl_ok, ↓Pt.vh_h, ↓Pt.vt_t, ↓Pt.gt_ht, ↓Pt.gt_tupL, ↓Pt.lst_l, ↓Pt.gt_newD, ↓Pt.tag_t, ↓Pt.gt_get2T, ↓Pt.key_3, ↓Pt.zp_l, ↓Pt.zp_t, ↓Pt.gt_zip, ↓Pt.pair_0, ↓Pt.pair_s, ↓Pt.gs_seq, ↓Pt.sq_nx, ↓Pt.sq_rt, ↓Pt.sq_bk, ↓Pt.sq_ct, ↓Pt.sq_ex, ↓Pt.gs_skip, ↓Pt.gs_brk, ↓Pt.gs_cnt, ↓Pt.gs_nx, ↓Pt.gs_put, ↓Pt.gs_putZ, ↓Pt.gt_map, ↓Pt.gs_ret, ↓Pt.gs_drop, ↓Pt.gs_if, ↓Pt.gs_bind, ↓Pt.gs_par, ↓Pt.gs_par3, ↓Pt.gs_for, ↓Pt.fg_nx, ↓Pt.fg_ct, ↓Pt.fg_bk, ↓Pt.fg_rt, ↓Pt.gs_frz, ↓Pt.fe_s, ↓Pt.fe_l, ↓Pt.fe_k, ↓Pt.fe_t, ↓Pt.fe_d, ↓Pt.gs_apd, ↓Pt.gs_putT, ↓Pt.gs_srcPut, ↓Pt.ox_add, ↓Pt.ox_addL, ↓Pt.ox_addT, ↓Pt.ox_sub, ↓Pt.ox_mul, ↓Pt.ox_div, ↓Pt.ox_mod, ↓Pt.ox_neg, ↓Pt.ox_lt, ↓Pt.ox_le, ↓Pt.ox_gt, ↓Pt.ox_ge, ↓Pt.ox_eq, ↓Pt.ox_ne, ↓Pt.ox_eqS, ↓Pt.ox_neS, ↓Pt.ox_eqL, ↓Pt.ox_neL, ↓Pt.ox_eqT, ↓Pt.ox_neT, ↓Pt.ox_ix0, ↓Pt.ox_ix1, ↓Pt.ox_ix2, ↓Pt.ox_ix3, ↓Pt.ox_ixT0, ↓Pt.ox_ixT1, ↓Pt.ox_ixT2, ↓Pt.ox_ixT3, ↓Pt.ox_pow20, ↓Pt.ox_lenL, ↓Pt.ox_lenT, ↓Pt.ox_int, ↓Pt.ox_abs, ↓Pt.ox_max, ↓Pt.ox_min, ↓Pt.ox_tup, ↓Pt.ox_tupT, ↓Pt.ox_list, ↓Pt.ox_listT, ↓Pt.ox_repr, z2, ↓gt_eq f3, ↓gt_eq f4, t1, t2, true_and, decide_true, Bool.not_true, and_self]
  -- k
  have e5 := M4.tr_le ml
  have e6 := M4.tr_le nl
  have e7 := M4.tr_le (M4.mul_le ml nl)
  have f5 := F_lk (x := m.tr) (y := n.tr) (z := (m.mul n).tr) s1 (Nat.le_trans e5 (by decide)) (Nat.le_trans e6 (by decide)) (Nat.le_trans e7 (by decide))
  have f6 := F_kof (x := m.tr) (y := n.tr) (z := (m.mul n).tr) s1 (Nat.le_trans e5 (by decide)) (Nat.le_trans e6 (by decide)) (Nat.le_trans e7 (by decide))
  have hk : kk m.tr n.tr (m.mul n).tr = m.k n := rfl
  rw [hk] at f5 f6
  rw [Pt.sq_nx, Pt.gs_seq]
  unfold L_1_4
  simp -implicitDefEqProofs (disch := (first | omega | assumption | exact Pt.mul_r (by omega) (by omega) | exact Pt.mul_l (by omega) (by omega) | exact ml _ _ | decide)) only [↓Pt.gt_ok, ↓Pt.gt_bind, ↓Pt.gt_lift, ↓Pt.at_0, ↓Pt.at_s, ↓Pt.nt_0, ↓Pt.nt_s, ↓Pt.vd_d, ↓Pt.vd_h, ↓Pt.vo_l, ↓Pt.vo_k, ↓Pt.vo_t, ↓Pt.vl_l, ↓Pt.vs_s, ↓Pt.pu_0, ↓Pt.pu_s, ↓Pt.wi_0, ↓Pt.wi_s, ↓Pt.bp_n, ↓Pt.bp_t, ↓Pt.bp_l, ↓Pt.bps_0, ↓Pt.bps_s, ↓Pt.bo_t, ↓Pt.bo_f, ↓Pt.bo_not, ↓Pt.gt_var, ↓Pt.gt_own, ↓Pt.gt_c, ↓Pt.gt_bin, ↓Pt.gt_un, ↓Pt.gt_tst, ↓Pt.gt_andT, ↓Pt.gt_orT, ↓Pt.gt_notT, ↓Pt.gt_and, ↓Pt.gt_or, ↓Pt.gt_not, ↓Pt.gt_if, ↓Pt.gt_chain, ↓Pt.gt_nil, ↓Pt.gt_cons, ↓Pt.gt_consA, ↓Pt.gt_consS, ↓Pt.gt_tup, ↓Pt.gt_lst, ↓Pt.gt_fz, ↓Pt.gt_fzD, ↓Pt.gt_call, ↓Pt.gt_callL, ↓Pt.gt_callK, ↓Pt.gt_app, ↓Pt.gt_sl, ↓Pt.gt_none, ↓Pt.gt_some, ↓Pt.ls_l, ↓Pt.gt_rev, ↓Pt.gt_sq, ↓Pt.ox_some, ↓Pt.seq_l, ↓Pt.seq_t, ↓Pt.tst_b, ↓Pt.intD_i, ↓Pt.z1_i, ↓Pt.z2_i, ↓Pt.gt_rg1, ↓Pt.gt_rg1J, ↓Pt.gt_rg2, ↓Pt.gt_srcI, ↓Pt.gt_srcLen, ↓Pt.gt_lc, ↓Pt.gt_yes, ↓Pt.gl_nil, ↓Pt.gl_cons, ↓Pt.gl_ok, ↓Pt.vh_h, ↓Pt.vt_t, ↓Pt.gt_ht, ↓Pt.gt_tupL, ↓Pt.lst_l, ↓Pt.gt_newD, ↓Pt.tag_t, ↓Pt.gt_get2T, ↓Pt.key_3, ↓Pt.zp_l, ↓Pt.zp_t, ↓Pt.gt_zip, ↓Pt.pair_0, ↓Pt.pair_s, ↓Pt.gs_seq, ↓Pt.sq_rt, ↓Pt.sq_bk, ↓Pt.sq_ct, ↓Pt.sq_ex, ↓Pt.gs_skip, ↓Pt.gs_brk, ↓Pt.gs_cnt, ↓Pt.gs_nx, ↓Pt.gs_put, ↓Pt.gs_putZ, ↓Pt.gt_map, ↓Pt.gs_ret, ↓Pt.gs_drop, ↓Pt.gs_if, ↓Pt.gs_bind, ↓Pt.gs_par, ↓Pt.gs_par3, ↓Pt.gs_for, ↓Pt.fg_nx, ↓Pt.fg_ct, ↓Pt.fg_bk, ↓Pt.fg_rt, ↓Pt.gs_frz, ↓Pt.fe_s, ↓Pt.fe_l, ↓Pt.fe_k, ↓Pt.fe_t, ↓Pt.fe_d, ↓Pt.gs_apd, ↓Pt.gs_putT, ↓Pt.gs_srcPut, ↓Pt.ox_add, ↓Pt.ox_addL, ↓Pt.ox_addT, ↓Pt.ox_sub, ↓Pt.ox_mul, ↓Pt.ox_div, ↓Pt.ox_mod, ↓Pt.ox_neg, ↓Pt.ox_lt, ↓Pt.ox_le, ↓Pt.ox_gt, ↓Pt.ox_ge, ↓Pt.ox_eq, ↓Pt.ox_ne, ↓Pt.ox_eqS, ↓Pt.ox_neS, ↓Pt.ox_eqL, ↓Pt.ox_neL, ↓Pt.ox_eqT, ↓Pt.ox_neT, ↓Pt.ox_ix0, ↓Pt.ox_ix1, ↓Pt.ox_ix2, ↓Pt.ox_ix3, ↓Pt.ox_ixT0, ↓Pt.ox_ixT1, ↓Pt.ox_ixT2, ↓Pt.ox_ixT3, ↓Pt.ox_pow20, ↓Pt.ox_lenL, ↓Pt.ox_lenT, ↓Pt.ox_int, ↓Pt.ox_abs, ↓Pt.ox_max, ↓Pt.ox_min, ↓Pt.ox_tup, ↓Pt.ox_tupT, ↓Pt.ox_list, ↓Pt.ox_listT, ↓Pt.ox_repr, ↓gt_eq f5]
  -- turned
  have f7 := F_ltimes m n s1 (M4.le_mono nl (by decide))
  have f8 := F_ltimes n m s1 (M4.le_mono ml (by decide))
  have f9 := F_undone (n.mul m) s1
  have f10 := F_ltimes (m.mul n) (n.mul m).inv s1 (M4.le_mono (M4.inv_le (M4.mul_le nl ml)) (by decide))
  rw [Pt.sq_nx, Pt.gs_seq]
  unfold L_1_5
  simp -implicitDefEqProofs (disch := (first | omega | assumption | exact Pt.mul_r (by omega) (by omega) | exact Pt.mul_l (by omega) (by omega) | exact ml _ _ | decide)) only [↓Pt.gt_ok, ↓Pt.gt_bind, ↓Pt.gt_lift, ↓Pt.at_0, ↓Pt.at_s, ↓Pt.nt_0, ↓Pt.nt_s, ↓Pt.vd_d, ↓Pt.vd_h, ↓Pt.vo_l, ↓Pt.vo_k, ↓Pt.vo_t, ↓Pt.vl_l, ↓Pt.vs_s, ↓Pt.pu_0, ↓Pt.pu_s, ↓Pt.wi_0, ↓Pt.wi_s, ↓Pt.bp_n, ↓Pt.bp_t, ↓Pt.bp_l, ↓Pt.bps_0, ↓Pt.bps_s, ↓Pt.bo_t, ↓Pt.bo_f, ↓Pt.bo_not, ↓Pt.gt_var, ↓Pt.gt_own, ↓Pt.gt_c, ↓Pt.gt_bin, ↓Pt.gt_un, ↓Pt.gt_tst, ↓Pt.gt_andT, ↓Pt.gt_orT, ↓Pt.gt_notT, ↓Pt.gt_and, ↓Pt.gt_or, ↓Pt.gt_not, ↓Pt.gt_if, ↓Pt.gt_chain, ↓Pt.gt_nil, ↓Pt.gt_cons, ↓Pt.gt_consA, ↓Pt.gt_consS, ↓Pt.gt_tup, ↓Pt.gt_lst, ↓Pt.gt_fz, ↓Pt.gt_fzD, ↓Pt.gt_call, ↓Pt.gt_callL, ↓Pt.gt_callK, ↓Pt.gt_app, ↓Pt.gt_sl, ↓Pt.gt_none, ↓Pt.gt_some, ↓Pt.ls_l, ↓Pt.gt_rev, ↓Pt.gt_sq, ↓Pt.ox_some, ↓Pt.seq_l, ↓Pt.seq_t, ↓Pt.tst_b, ↓Pt.intD_i, ↓Pt.z1_i, ↓Pt.z2_i, ↓Pt.gt_rg1, ↓Pt.gt_rg1J, ↓Pt.gt_rg2, ↓Pt.gt_srcI, ↓Pt.gt_srcLen, ↓Pt.gt_lc, ↓Pt.gt_yes, ↓Pt.gl_nil, ↓Pt.gl_cons, ↓Pt.gl_ok, ↓Pt.vh_h, ↓Pt.vt_t, ↓Pt.gt_ht, ↓Pt.gt_tupL, ↓Pt.lst_l, ↓Pt.gt_newD, ↓Pt.tag_t, ↓Pt.gt_get2T, ↓Pt.key_3, ↓Pt.zp_l, ↓Pt.zp_t, ↓Pt.gt_zip, ↓Pt.pair_0, ↓Pt.pair_s, ↓Pt.gs_seq, ↓Pt.sq_rt, ↓Pt.sq_bk, ↓Pt.sq_ct, ↓Pt.sq_ex, ↓Pt.gs_skip, ↓Pt.gs_brk, ↓Pt.gs_cnt, ↓Pt.gs_nx, ↓Pt.gs_put, ↓Pt.gs_putZ, ↓Pt.gt_map, ↓Pt.gs_ret, ↓Pt.gs_drop, ↓Pt.gs_if, ↓Pt.gs_bind, ↓Pt.gs_par, ↓Pt.gs_par3, ↓Pt.gs_for, ↓Pt.fg_nx, ↓Pt.fg_ct, ↓Pt.fg_bk, ↓Pt.fg_rt, ↓Pt.gs_frz, ↓Pt.fe_s, ↓Pt.fe_l, ↓Pt.fe_k, ↓Pt.fe_t, ↓Pt.fe_d, ↓Pt.gs_apd, ↓Pt.gs_putT, ↓Pt.gs_srcPut, ↓Pt.ox_add, ↓Pt.ox_addL, ↓Pt.ox_addT, ↓Pt.ox_sub, ↓Pt.ox_mul, ↓Pt.ox_div, ↓Pt.ox_mod, ↓Pt.ox_neg, ↓Pt.ox_lt, ↓Pt.ox_le, ↓Pt.ox_gt, ↓Pt.ox_ge, ↓Pt.ox_eq, ↓Pt.ox_ne, ↓Pt.ox_eqS, ↓Pt.ox_neS, ↓Pt.ox_eqL, ↓Pt.ox_neL, ↓Pt.ox_eqT, ↓Pt.ox_neT, ↓Pt.ox_ix0, ↓Pt.ox_ix1, ↓Pt.ox_ix2, ↓Pt.ox_ix3, ↓Pt.ox_ixT0, ↓Pt.ox_ixT1, ↓Pt.ox_ixT2, ↓Pt.ox_ixT3, ↓Pt.ox_pow20, ↓Pt.ox_lenL, ↓Pt.ox_lenT, ↓Pt.ox_int, ↓Pt.ox_abs, ↓Pt.ox_max, ↓Pt.ox_min, ↓Pt.ox_tup, ↓Pt.ox_tupT, ↓Pt.ox_list, ↓Pt.ox_listT, ↓Pt.ox_repr, ↓gt_eq f7, ↓gt_eq f8, ↓gt_eq f9, ↓gt_eq f10]
  have kt := M4.k_turn md nd
  have d0 : ∀ (z : M4) (K : Pt.D → Prop), Ox (dIx z.D (.int 0)) K = K (.int z.a) := fun z K => by unfold M4.D; exact ox_ixT0
  have d3 : ∀ (z : M4) (K : Pt.D → Prop), Ox (dIx z.D (.int 3)) K = K (.int z.d) := fun z K => by unfold M4.D; exact ox_ixT3
  rw [Pt.sq_nx, Pt.gs_seq]
  unfold L_1_6
  unfold M4.tr at kt
  refine gs_keepW ?_ ?_
  · simp -implicitDefEqProofs (disch := (first | omega | assumption | exact Pt.mul_r (by omega) (by omega) | exact Pt.mul_l (by omega) (by omega) | exact ml _ _ | decide)) only [↓Pt.gt_ok, ↓Pt.gt_bind, ↓Pt.gt_lift, ↓Pt.at_0, ↓Pt.at_s, ↓Pt.nt_0, ↓Pt.nt_s, ↓Pt.vd_d, ↓Pt.vd_h, ↓Pt.vo_l, ↓Pt.vo_k, ↓Pt.vo_t, ↓Pt.vl_l, ↓Pt.vs_s, ↓Pt.pu_0, ↓Pt.pu_s, ↓Pt.wi_0, ↓Pt.wi_s, ↓Pt.bp_n, ↓Pt.bp_t, ↓Pt.bp_l, ↓Pt.bps_0, ↓Pt.bps_s, ↓Pt.bo_t, ↓Pt.bo_f, ↓Pt.bo_not, ↓Pt.gt_var, ↓Pt.gt_own, ↓Pt.gt_c, ↓Pt.gt_bin, ↓Pt.gt_un, ↓Pt.gt_tst, ↓Pt.gt_andT, ↓Pt.gt_orT, ↓Pt.gt_notT, ↓Pt.gt_and, ↓Pt.gt_or, ↓Pt.gt_not, ↓Pt.gt_if, ↓Pt.gt_chain, ↓Pt.gt_nil, ↓Pt.gt_cons, ↓Pt.gt_consA, ↓Pt.gt_consS, ↓Pt.gt_tup, ↓Pt.gt_lst, ↓Pt.gt_fz, ↓Pt.gt_fzD, ↓Pt.gt_call, ↓Pt.gt_callL, ↓Pt.gt_callK, ↓Pt.gt_app, ↓Pt.gt_sl, ↓Pt.gt_none, ↓Pt.gt_some, ↓Pt.ls_l, ↓Pt.gt_rev, ↓Pt.gt_sq, ↓Pt.ox_some, ↓Pt.seq_l, ↓Pt.seq_t, ↓Pt.tst_b, ↓Pt.intD_i, ↓Pt.z1_i, ↓Pt.z2_i, ↓Pt.gt_rg1, ↓Pt.gt_rg1J, ↓Pt.gt_rg2, ↓Pt.gt_srcI, ↓Pt.gt_srcLen, ↓Pt.gt_lc, ↓Pt.gt_yes, ↓Pt.gl_nil, ↓Pt.gl_cons, ↓Pt.gl_ok, ↓Pt.vh_h, ↓Pt.vt_t, ↓Pt.gt_ht, ↓Pt.gt_tupL, ↓Pt.lst_l, ↓Pt.gt_newD, ↓Pt.tag_t, ↓Pt.gt_get2T, ↓Pt.key_3, ↓Pt.zp_l, ↓Pt.zp_t, ↓Pt.gt_zip, ↓Pt.pair_0, ↓Pt.pair_s, ↓Pt.gs_seq, ↓Pt.sq_nx, ↓Pt.sq_rt, ↓Pt.sq_bk, ↓Pt.sq_ct, ↓Pt.sq_ex, ↓Pt.gs_skip, ↓Pt.gs_brk, ↓Pt.gs_cnt, ↓Pt.gs_nx, ↓Pt.gs_put, ↓Pt.gs_putZ, ↓Pt.gt_map, ↓Pt.gs_ret, ↓Pt.gs_drop, ↓Pt.gs_if, ↓Pt.gs_bind, ↓Pt.gs_par, ↓Pt.gs_par3, ↓Pt.gs_for, ↓Pt.fg_nx, ↓Pt.fg_ct, ↓Pt.fg_bk, ↓Pt.fg_rt, ↓Pt.gs_frz, ↓Pt.fe_s, ↓Pt.fe_l, ↓Pt.fe_k, ↓Pt.fe_t, ↓Pt.fe_d, ↓Pt.gs_apd, ↓Pt.gs_putT, ↓Pt.gs_srcPut, ↓Pt.ox_add, ↓Pt.ox_addL, ↓Pt.ox_addT, ↓Pt.ox_sub, ↓Pt.ox_mul, ↓Pt.ox_div, ↓Pt.ox_mod, ↓Pt.ox_neg, ↓Pt.ox_lt, ↓Pt.ox_le, ↓Pt.ox_gt, ↓Pt.ox_ge, ↓Pt.ox_eq, ↓Pt.ox_ne, ↓Pt.ox_eqS, ↓Pt.ox_neS, ↓Pt.ox_eqL, ↓Pt.ox_neL, ↓Pt.ox_eqT, ↓Pt.ox_neT, ↓Pt.ox_ix0, ↓Pt.ox_ix1, ↓Pt.ox_ix2, ↓Pt.ox_ix3, ↓Pt.ox_ixT0, ↓Pt.ox_ixT1, ↓Pt.ox_ixT2, ↓Pt.ox_ixT3, ↓Pt.ox_pow20, ↓Pt.ox_lenL, ↓Pt.ox_lenT, ↓Pt.ox_int, ↓Pt.ox_abs, ↓Pt.ox_max, ↓Pt.ox_min, ↓Pt.ox_tup, ↓Pt.ox_tupT, ↓Pt.ox_list, ↓Pt.ox_listT, ↓Pt.ox_repr, ↓gt_eq f6, d0, d3, kt, decide_true, Bool.not_true, and_self]
  -- one
  obtain ⟨kd, rest, hL, told⟩ := line_told_facts m n md nd ml1 nl1
  have ms : m.le (10 ^ 10) := M4.le_mono ml (by decide)
  have ns : n.le (10 ^ 10) := M4.le_mono nl (by decide)
  rw [hL]
  rw [Pt.sq_nx, Pt.gs_seq]
  unfold L_1_7
  refine gs_keepW ?_ ?_
  · simp -implicitDefEqProofs (disch := (first | omega | assumption | exact Pt.mul_r (by omega) (by omega) | exact Pt.mul_l (by omega) (by omega) | exact ml _ _ | decide)) only [↓Pt.gt_ok, ↓Pt.gt_bind, ↓Pt.gt_lift, ↓Pt.at_0, ↓Pt.at_s, ↓Pt.nt_0, ↓Pt.nt_s, ↓Pt.vd_d, ↓Pt.vd_h, ↓Pt.vo_l, ↓Pt.vo_k, ↓Pt.vo_t, ↓Pt.vl_l, ↓Pt.vs_s, ↓Pt.pu_0, ↓Pt.pu_s, ↓Pt.wi_0, ↓Pt.wi_s, ↓Pt.bp_n, ↓Pt.bp_t, ↓Pt.bp_l, ↓Pt.bps_0, ↓Pt.bps_s, ↓Pt.bo_t, ↓Pt.bo_f, ↓Pt.bo_not, ↓Pt.gt_var, ↓Pt.gt_own, ↓Pt.gt_c, ↓Pt.gt_bin, ↓Pt.gt_un, ↓Pt.gt_tst, ↓Pt.gt_andT, ↓Pt.gt_orT, ↓Pt.gt_notT, ↓Pt.gt_and, ↓Pt.gt_or, ↓Pt.gt_not, ↓Pt.gt_if, ↓Pt.gt_chain, ↓Pt.gt_nil, ↓Pt.gt_cons, ↓Pt.gt_consA, ↓Pt.gt_consS, ↓Pt.gt_tup, ↓Pt.gt_lst, ↓Pt.gt_fz, ↓Pt.gt_fzD, ↓Pt.gt_call, ↓Pt.gt_callL, ↓Pt.gt_callK, ↓Pt.gt_app, ↓Pt.gt_sl, ↓Pt.gt_none, ↓Pt.gt_some, ↓Pt.ls_l, ↓Pt.gt_rev, ↓Pt.gt_sq, ↓Pt.ox_some, ↓Pt.seq_l, ↓Pt.seq_t, ↓Pt.tst_b, ↓Pt.intD_i, ↓Pt.z1_i, ↓Pt.z2_i, ↓Pt.gt_rg1, ↓Pt.gt_rg1J, ↓Pt.gt_rg2, ↓Pt.gt_srcI, ↓Pt.gt_srcLen, ↓Pt.gt_lc, ↓Pt.gt_yes, ↓Pt.gl_nil, ↓Pt.gl_cons, ↓Pt.gl_ok, ↓Pt.vh_h, ↓Pt.vt_t, ↓Pt.gt_ht, ↓Pt.gt_tupL, ↓Pt.lst_l, ↓Pt.gt_newD, ↓Pt.tag_t, ↓Pt.gt_get2T, ↓Pt.key_3, ↓Pt.zp_l, ↓Pt.zp_t, ↓Pt.gt_zip, ↓Pt.pair_0, ↓Pt.pair_s, ↓Pt.gs_seq, ↓Pt.sq_nx, ↓Pt.sq_rt, ↓Pt.sq_bk, ↓Pt.sq_ct, ↓Pt.sq_ex, ↓Pt.gs_skip, ↓Pt.gs_brk, ↓Pt.gs_cnt, ↓Pt.gs_nx, ↓Pt.gs_put, ↓Pt.gs_putZ, ↓Pt.gt_map, ↓Pt.gs_ret, ↓Pt.gs_drop, ↓Pt.gs_if, ↓Pt.gs_bind, ↓Pt.gs_par, ↓Pt.gs_par3, ↓Pt.gs_for, ↓Pt.fg_nx, ↓Pt.fg_ct, ↓Pt.fg_bk, ↓Pt.fg_rt, ↓Pt.gs_frz, ↓Pt.fe_s, ↓Pt.fe_l, ↓Pt.fe_k, ↓Pt.fe_t, ↓Pt.fe_d, ↓Pt.gs_apd, ↓Pt.gs_putT, ↓Pt.gs_srcPut, ↓Pt.ox_add, ↓Pt.ox_addL, ↓Pt.ox_addT, ↓Pt.ox_sub, ↓Pt.ox_mul, ↓Pt.ox_div, ↓Pt.ox_mod, ↓Pt.ox_neg, ↓Pt.ox_lt, ↓Pt.ox_le, ↓Pt.ox_gt, ↓Pt.ox_ge, ↓Pt.ox_eq, ↓Pt.ox_ne, ↓Pt.ox_eqS, ↓Pt.ox_neS, ↓Pt.ox_eqL, ↓Pt.ox_neL, ↓Pt.ox_eqT, ↓Pt.ox_neT, ↓Pt.ox_ix0, ↓Pt.ox_ix1, ↓Pt.ox_ix2, ↓Pt.ox_ix3, ↓Pt.ox_ixT0, ↓Pt.ox_ixT1, ↓Pt.ox_ixT2, ↓Pt.ox_ixT3, ↓Pt.ox_pow20, ↓Pt.ox_lenL, ↓Pt.ox_lenT, ↓Pt.ox_int, ↓Pt.ox_abs, ↓Pt.ox_max, ↓Pt.ox_min, ↓Pt.ox_tup, ↓Pt.ox_tupT, ↓Pt.ox_list, ↓Pt.ox_listT, ↓Pt.ox_repr]
    refine bo_mk (fun h => ?_) fun h => ?_
    · obtain ⟨u, v, hr, hu, hv, nn, k1, k2, _⟩ := told.one (of_decide_eq_true h)
      have g1 := F_iskept m u v s1 ms (Nat.le_trans hu (by decide)) (Nat.le_trans hv (by decide))
      have g2 := F_iskept n u v s1 ns (Nat.le_trans hu (by decide)) (Nat.le_trans hv (by decide))
      rw [hr]
      simp -implicitDefEqProofs (disch := (first | omega | assumption | exact Pt.mul_r (by omega) (by omega) | exact Pt.mul_l (by omega) (by omega) | exact ml _ _ | decide)) only [↓Pt.gt_ok, ↓Pt.gt_bind, ↓Pt.gt_lift, ↓Pt.at_0, ↓Pt.at_s, ↓Pt.nt_0, ↓Pt.nt_s, ↓Pt.vd_d, ↓Pt.vd_h, ↓Pt.vo_l, ↓Pt.vo_k, ↓Pt.vo_t, ↓Pt.vl_l, ↓Pt.vs_s, ↓Pt.pu_0, ↓Pt.pu_s, ↓Pt.wi_0, ↓Pt.wi_s, ↓Pt.bp_n, ↓Pt.bp_t, ↓Pt.bp_l, ↓Pt.bps_0, ↓Pt.bps_s, ↓Pt.bo_t, ↓Pt.bo_f, ↓Pt.bo_not, ↓Pt.gt_var, ↓Pt.gt_own, ↓Pt.gt_c, ↓Pt.gt_bin, ↓Pt.gt_un, ↓Pt.gt_tst, ↓Pt.gt_andT, ↓Pt.gt_orT, ↓Pt.gt_notT, ↓Pt.gt_and, ↓Pt.gt_or, ↓Pt.gt_not, ↓Pt.gt_if, ↓Pt.gt_chain, ↓Pt.gt_nil, ↓Pt.gt_cons, ↓Pt.gt_consA, ↓Pt.gt_consS, ↓Pt.gt_tup, ↓Pt.gt_lst, ↓Pt.gt_fz, ↓Pt.gt_fzD, ↓Pt.gt_call, ↓Pt.gt_callL, ↓Pt.gt_callK, ↓Pt.gt_app, ↓Pt.gt_sl, ↓Pt.gt_none, ↓Pt.gt_some, ↓Pt.ls_l, ↓Pt.gt_rev, ↓Pt.gt_sq, ↓Pt.ox_some, ↓Pt.seq_l, ↓Pt.seq_t, ↓Pt.tst_b, ↓Pt.intD_i, ↓Pt.z1_i, ↓Pt.z2_i, ↓Pt.gt_rg1, ↓Pt.gt_rg1J, ↓Pt.gt_rg2, ↓Pt.gt_srcI, ↓Pt.gt_srcLen, ↓Pt.gt_lc, ↓Pt.gt_yes, ↓Pt.gl_nil, ↓Pt.gl_cons, ↓Pt.gl_ok, ↓Pt.vh_h, ↓Pt.vt_t, ↓Pt.gt_ht, ↓Pt.gt_tupL, ↓Pt.lst_l, ↓Pt.gt_newD, ↓Pt.tag_t, ↓Pt.gt_get2T, ↓Pt.key_3, ↓Pt.zp_l, ↓Pt.zp_t, ↓Pt.gt_zip, ↓Pt.pair_0, ↓Pt.pair_s, ↓Pt.gs_seq, ↓Pt.sq_nx, ↓Pt.sq_rt, ↓Pt.sq_bk, ↓Pt.sq_ct, ↓Pt.sq_ex, ↓Pt.gs_skip, ↓Pt.gs_brk, ↓Pt.gs_cnt, ↓Pt.gs_nx, ↓Pt.gs_put, ↓Pt.gs_putZ, ↓Pt.gt_map, ↓Pt.gs_ret, ↓Pt.gs_drop, ↓Pt.gs_if, ↓Pt.gs_bind, ↓Pt.gs_par, ↓Pt.gs_par3, ↓Pt.gs_for, ↓Pt.fg_nx, ↓Pt.fg_ct, ↓Pt.fg_bk, ↓Pt.fg_rt, ↓Pt.gs_frz, ↓Pt.fe_s, ↓Pt.fe_l, ↓Pt.fe_k, ↓Pt.fe_t, ↓Pt.fe_d, ↓Pt.gs_apd, ↓Pt.gs_putT, ↓Pt.gs_srcPut, ↓Pt.ox_add, ↓Pt.ox_addL, ↓Pt.ox_addT, ↓Pt.ox_sub, ↓Pt.ox_mul, ↓Pt.ox_div, ↓Pt.ox_mod, ↓Pt.ox_neg, ↓Pt.ox_lt, ↓Pt.ox_le, ↓Pt.ox_gt, ↓Pt.ox_ge, ↓Pt.ox_eq, ↓Pt.ox_ne, ↓Pt.ox_eqS, ↓Pt.ox_neS, ↓Pt.ox_eqL, ↓Pt.ox_neL, ↓Pt.ox_eqT, ↓Pt.ox_neT, ↓Pt.ox_ix0, ↓Pt.ox_ix1, ↓Pt.ox_ix2, ↓Pt.ox_ix3, ↓Pt.ox_ixT0, ↓Pt.ox_ixT1, ↓Pt.ox_ixT2, ↓Pt.ox_ixT3, ↓Pt.ox_pow20, ↓Pt.ox_lenL, ↓Pt.ox_lenT, ↓Pt.ox_int, ↓Pt.ox_abs, ↓Pt.ox_max, ↓Pt.ox_min, ↓Pt.ox_tup, ↓Pt.ox_tupT, ↓Pt.ox_list, ↓Pt.ox_listT, ↓Pt.ox_repr, ↓gt_eq g1, ↓gt_eq g2, k1, k2, decide_true, Bool.not_true, and_self]
    · simp
  -- root
  have sm1 : shB (m.mul n).D = true := sh_ok (plain_M4 (M4.le_mono (M4.mul_le ml nl) (by decide))) (by unfold M4.D; simp [PyData.depth, PyData.depthAll])
  rw [Pt.sq_nx, Pt.gs_seq]
  unfold L_1_8
  refine gs_keepW ?_ ?_
  · simp -implicitDefEqProofs (disch := (first | omega | assumption | exact Pt.mul_r (by omega) (by omega) | exact Pt.mul_l (by omega) (by omega) | exact ml _ _ | decide)) only [↓Pt.gt_ok, ↓Pt.gt_bind, ↓Pt.gt_lift, ↓Pt.at_0, ↓Pt.at_s, ↓Pt.nt_0, ↓Pt.nt_s, ↓Pt.vd_d, ↓Pt.vd_h, ↓Pt.vo_l, ↓Pt.vo_k, ↓Pt.vo_t, ↓Pt.vl_l, ↓Pt.vs_s, ↓Pt.pu_0, ↓Pt.pu_s, ↓Pt.wi_0, ↓Pt.wi_s, ↓Pt.bp_n, ↓Pt.bp_t, ↓Pt.bp_l, ↓Pt.bps_0, ↓Pt.bps_s, ↓Pt.bo_t, ↓Pt.bo_f, ↓Pt.bo_not, ↓Pt.gt_var, ↓Pt.gt_own, ↓Pt.gt_c, ↓Pt.gt_bin, ↓Pt.gt_un, ↓Pt.gt_tst, ↓Pt.gt_andT, ↓Pt.gt_orT, ↓Pt.gt_notT, ↓Pt.gt_and, ↓Pt.gt_or, ↓Pt.gt_not, ↓Pt.gt_if, ↓Pt.gt_chain, ↓Pt.gt_nil, ↓Pt.gt_cons, ↓Pt.gt_consA, ↓Pt.gt_consS, ↓Pt.gt_tup, ↓Pt.gt_lst, ↓Pt.gt_fz, ↓Pt.gt_fzD, ↓Pt.gt_call, ↓Pt.gt_callL, ↓Pt.gt_callK, ↓Pt.gt_app, ↓Pt.gt_sl, ↓Pt.gt_none, ↓Pt.gt_some, ↓Pt.ls_l, ↓Pt.gt_rev, ↓Pt.gt_sq, ↓Pt.ox_some, ↓Pt.seq_l, ↓Pt.seq_t, ↓Pt.tst_b, ↓Pt.intD_i, ↓Pt.z1_i, ↓Pt.z2_i, ↓Pt.gt_rg1, ↓Pt.gt_rg1J, ↓Pt.gt_rg2, ↓Pt.gt_srcI, ↓Pt.gt_srcLen, ↓Pt.gt_lc, ↓Pt.gt_yes, ↓Pt.gl_nil, ↓Pt.gl_cons, ↓Pt.gl_ok, ↓Pt.vh_h, ↓Pt.vt_t, ↓Pt.gt_ht, ↓Pt.gt_tupL, ↓Pt.lst_l, ↓Pt.gt_newD, ↓Pt.tag_t, ↓Pt.gt_get2T, ↓Pt.key_3, ↓Pt.zp_l, ↓Pt.zp_t, ↓Pt.gt_zip, ↓Pt.pair_0, ↓Pt.pair_s, ↓Pt.gs_seq, ↓Pt.sq_nx, ↓Pt.sq_rt, ↓Pt.sq_bk, ↓Pt.sq_ct, ↓Pt.sq_ex, ↓Pt.gs_skip, ↓Pt.gs_brk, ↓Pt.gs_cnt, ↓Pt.gs_nx, ↓Pt.gs_put, ↓Pt.gs_putZ, ↓Pt.gt_map, ↓Pt.gs_ret, ↓Pt.gs_drop, ↓Pt.gs_if, ↓Pt.gs_bind, ↓Pt.gs_par, ↓Pt.gs_par3, ↓Pt.gs_for, ↓Pt.fg_nx, ↓Pt.fg_ct, ↓Pt.fg_bk, ↓Pt.fg_rt, ↓Pt.gs_frz, ↓Pt.fe_s, ↓Pt.fe_l, ↓Pt.fe_k, ↓Pt.fe_t, ↓Pt.fe_d, ↓Pt.gs_apd, ↓Pt.gs_putT, ↓Pt.gs_srcPut, ↓Pt.ox_add, ↓Pt.ox_addL, ↓Pt.ox_addT, ↓Pt.ox_sub, ↓Pt.ox_mul, ↓Pt.ox_div, ↓Pt.ox_mod, ↓Pt.ox_neg, ↓Pt.ox_lt, ↓Pt.ox_le, ↓Pt.ox_gt, ↓Pt.ox_ge, ↓Pt.ox_eq, ↓Pt.ox_ne, ↓Pt.ox_eqS, ↓Pt.ox_neS, ↓Pt.ox_eqL, ↓Pt.ox_neL, ↓Pt.ox_eqT, ↓Pt.ox_neT, ↓Pt.ox_ix0, ↓Pt.ox_ix1, ↓Pt.ox_ix2, ↓Pt.ox_ix3, ↓Pt.ox_ixT0, ↓Pt.ox_ixT1, ↓Pt.ox_ixT2, ↓Pt.ox_ixT3, ↓Pt.ox_pow20, ↓Pt.ox_lenL, ↓Pt.ox_lenT, ↓Pt.ox_int, ↓Pt.ox_abs, ↓Pt.ox_max, ↓Pt.ox_min, ↓Pt.ox_tup, ↓Pt.ox_tupT, ↓Pt.ox_list, ↓Pt.ox_listT, ↓Pt.ox_repr]
    refine bo_mk (fun h => ?_) fun h => ?_
    · obtain ⟨hr, _⟩ := told.root (of_decide_eq_true h)
      rw [← hr] at f8
      have es := eqv_self _ (plain_M4 (M4.le_mono (M4.mul_le ml nl) (by decide)) : Pt.plain (m.mul n).D = true)
      have ne : ∀ K : Pt.D → Prop, Ox (dNe (m.mul n).D (m.mul n).D) K = K (.bool false) := fun K => by
        show Ox (match flat2 (m.mul n).D (m.mul n).D with
          | some k => some (PyData.bool (!k))
          | none => if (shB (m.mul n).D && shB (m.mul n).D) = true then some (.bool (!PyData.eqv (m.mul n).D (m.mul n).D)) else none) K = _
        have f0 : flat2 (m.mul n).D (m.mul n).D = none := rfl
        rw [f0, sm1, es]
        rfl
      simp -implicitDefEqProofs (disch := (first | omega | assumption | exact Pt.mul_r (by omega) (by omega) | exact Pt.mul_l (by omega) (by omega) | exact ml _ _ | decide)) only [↓Pt.gt_ok, ↓Pt.gt_bind, ↓Pt.gt_lift, ↓Pt.at_0, ↓Pt.at_s, ↓Pt.nt_0, ↓Pt.nt_s, ↓Pt.vd_d, ↓Pt.vd_h, ↓Pt.vo_l, ↓Pt.vo_k, ↓Pt.vo_t, ↓Pt.vl_l, ↓Pt.vs_s, ↓Pt.pu_0, ↓Pt.pu_s, ↓Pt.wi_0, ↓Pt.wi_s, ↓Pt.bp_n, ↓Pt.bp_t, ↓Pt.bp_l, ↓Pt.bps_0, ↓Pt.bps_s, ↓Pt.bo_t, ↓Pt.bo_f, ↓Pt.bo_not, ↓Pt.gt_var, ↓Pt.gt_own, ↓Pt.gt_c, ↓Pt.gt_bin, ↓Pt.gt_un, ↓Pt.gt_tst, ↓Pt.gt_andT, ↓Pt.gt_orT, ↓Pt.gt_notT, ↓Pt.gt_and, ↓Pt.gt_or, ↓Pt.gt_not, ↓Pt.gt_if, ↓Pt.gt_chain, ↓Pt.gt_nil, ↓Pt.gt_cons, ↓Pt.gt_consA, ↓Pt.gt_consS, ↓Pt.gt_tup, ↓Pt.gt_lst, ↓Pt.gt_fz, ↓Pt.gt_fzD, ↓Pt.gt_call, ↓Pt.gt_callL, ↓Pt.gt_callK, ↓Pt.gt_app, ↓Pt.gt_sl, ↓Pt.gt_none, ↓Pt.gt_some, ↓Pt.ls_l, ↓Pt.gt_rev, ↓Pt.gt_sq, ↓Pt.ox_some, ↓Pt.seq_l, ↓Pt.seq_t, ↓Pt.tst_b, ↓Pt.intD_i, ↓Pt.z1_i, ↓Pt.z2_i, ↓Pt.gt_rg1, ↓Pt.gt_rg1J, ↓Pt.gt_rg2, ↓Pt.gt_srcI, ↓Pt.gt_srcLen, ↓Pt.gt_lc, ↓Pt.gt_yes, ↓Pt.gl_nil, ↓Pt.gl_cons, ↓Pt.gl_ok, ↓Pt.vh_h, ↓Pt.vt_t, ↓Pt.gt_ht, ↓Pt.gt_tupL, ↓Pt.lst_l, ↓Pt.gt_newD, ↓Pt.tag_t, ↓Pt.gt_get2T, ↓Pt.key_3, ↓Pt.zp_l, ↓Pt.zp_t, ↓Pt.gt_zip, ↓Pt.pair_0, ↓Pt.pair_s, ↓Pt.gs_seq, ↓Pt.sq_nx, ↓Pt.sq_rt, ↓Pt.sq_bk, ↓Pt.sq_ct, ↓Pt.sq_ex, ↓Pt.gs_skip, ↓Pt.gs_brk, ↓Pt.gs_cnt, ↓Pt.gs_nx, ↓Pt.gs_put, ↓Pt.gs_putZ, ↓Pt.gt_map, ↓Pt.gs_ret, ↓Pt.gs_drop, ↓Pt.gs_if, ↓Pt.gs_bind, ↓Pt.gs_par, ↓Pt.gs_par3, ↓Pt.gs_for, ↓Pt.fg_nx, ↓Pt.fg_ct, ↓Pt.fg_bk, ↓Pt.fg_rt, ↓Pt.gs_frz, ↓Pt.fe_s, ↓Pt.fe_l, ↓Pt.fe_k, ↓Pt.fe_t, ↓Pt.fe_d, ↓Pt.gs_apd, ↓Pt.gs_putT, ↓Pt.gs_srcPut, ↓Pt.ox_add, ↓Pt.ox_addL, ↓Pt.ox_addT, ↓Pt.ox_sub, ↓Pt.ox_mul, ↓Pt.ox_div, ↓Pt.ox_mod, ↓Pt.ox_neg, ↓Pt.ox_lt, ↓Pt.ox_le, ↓Pt.ox_gt, ↓Pt.ox_ge, ↓Pt.ox_eq, ↓Pt.ox_ne, ↓Pt.ox_eqS, ↓Pt.ox_neS, ↓Pt.ox_eqL, ↓Pt.ox_neL, ↓Pt.ox_eqT, ↓Pt.ox_neT, ↓Pt.ox_ix0, ↓Pt.ox_ix1, ↓Pt.ox_ix2, ↓Pt.ox_ix3, ↓Pt.ox_ixT0, ↓Pt.ox_ixT1, ↓Pt.ox_ixT2, ↓Pt.ox_ixT3, ↓Pt.ox_pow20, ↓Pt.ox_lenL, ↓Pt.ox_lenT, ↓Pt.ox_int, ↓Pt.ox_abs, ↓Pt.ox_max, ↓Pt.ox_min, ↓Pt.ox_tup, ↓Pt.ox_tupT, ↓Pt.ox_list, ↓Pt.ox_listT, ↓Pt.ox_repr, ↓gt_eq f7, ↓gt_eq f8, ne, and_self]
    · simp
  -- none, one
  rw [Pt.sq_nx, Pt.gs_seq]
  unfold L_1_9
  simp -implicitDefEqProofs (disch := (first | omega | assumption | exact Pt.mul_r (by omega) (by omega) | exact Pt.mul_l (by omega) (by omega) | exact ml _ _ | decide)) only [↓Pt.gt_ok, ↓Pt.gt_bind, ↓Pt.gt_lift, ↓Pt.at_0, ↓Pt.at_s, ↓Pt.nt_0, ↓Pt.nt_s, ↓Pt.vd_d, ↓Pt.vd_h, ↓Pt.vo_l, ↓Pt.vo_k, ↓Pt.vo_t, ↓Pt.vl_l, ↓Pt.vs_s, ↓Pt.pu_0, ↓Pt.pu_s, ↓Pt.wi_0, ↓Pt.wi_s, ↓Pt.bp_n, ↓Pt.bp_t, ↓Pt.bp_l, ↓Pt.bps_0, ↓Pt.bps_s, ↓Pt.bo_t, ↓Pt.bo_f, ↓Pt.bo_not, ↓Pt.gt_var, ↓Pt.gt_own, ↓Pt.gt_c, ↓Pt.gt_bin, ↓Pt.gt_un, ↓Pt.gt_tst, ↓Pt.gt_andT, ↓Pt.gt_orT, ↓Pt.gt_notT, ↓Pt.gt_and, ↓Pt.gt_or, ↓Pt.gt_not, ↓Pt.gt_if, ↓Pt.gt_chain, ↓Pt.gt_nil, ↓Pt.gt_cons, ↓Pt.gt_consA, ↓Pt.gt_consS, ↓Pt.gt_tup, ↓Pt.gt_lst, ↓Pt.gt_fz, ↓Pt.gt_fzD, ↓Pt.gt_call, ↓Pt.gt_callL, ↓Pt.gt_callK, ↓Pt.gt_app, ↓Pt.gt_sl, ↓Pt.gt_none, ↓Pt.gt_some, ↓Pt.ls_l, ↓Pt.gt_rev, ↓Pt.gt_sq, ↓Pt.ox_some, ↓Pt.seq_l, ↓Pt.seq_t, ↓Pt.tst_b, ↓Pt.intD_i, ↓Pt.z1_i, ↓Pt.z2_i, ↓Pt.gt_rg1, ↓Pt.gt_rg1J, ↓Pt.gt_rg2, ↓Pt.gt_srcI, ↓Pt.gt_srcLen, ↓Pt.gt_lc, ↓Pt.gt_yes, ↓Pt.gl_nil, ↓Pt.gl_cons, ↓Pt.gl_ok, ↓Pt.vh_h, ↓Pt.vt_t, ↓Pt.gt_ht, ↓Pt.gt_tupL, ↓Pt.lst_l, ↓Pt.gt_newD, ↓Pt.tag_t, ↓Pt.gt_get2T, ↓Pt.key_3, ↓Pt.zp_l, ↓Pt.zp_t, ↓Pt.gt_zip, ↓Pt.pair_0, ↓Pt.pair_s, ↓Pt.gs_seq, ↓Pt.sq_rt, ↓Pt.sq_bk, ↓Pt.sq_ct, ↓Pt.sq_ex, ↓Pt.gs_skip, ↓Pt.gs_brk, ↓Pt.gs_cnt, ↓Pt.gs_nx, ↓Pt.gs_put, ↓Pt.gs_putZ, ↓Pt.gt_map, ↓Pt.gs_ret, ↓Pt.gs_drop, ↓Pt.gs_if, ↓Pt.gs_bind, ↓Pt.gs_par, ↓Pt.gs_par3, ↓Pt.gs_for, ↓Pt.fg_nx, ↓Pt.fg_ct, ↓Pt.fg_bk, ↓Pt.fg_rt, ↓Pt.gs_frz, ↓Pt.fe_s, ↓Pt.fe_l, ↓Pt.fe_k, ↓Pt.fe_t, ↓Pt.fe_d, ↓Pt.gs_apd, ↓Pt.gs_putT, ↓Pt.gs_srcPut, ↓Pt.ox_add, ↓Pt.ox_addL, ↓Pt.ox_addT, ↓Pt.ox_sub, ↓Pt.ox_mul, ↓Pt.ox_div, ↓Pt.ox_mod, ↓Pt.ox_neg, ↓Pt.ox_lt, ↓Pt.ox_le, ↓Pt.ox_gt, ↓Pt.ox_ge, ↓Pt.ox_eq, ↓Pt.ox_ne, ↓Pt.ox_eqS, ↓Pt.ox_neS, ↓Pt.ox_eqL, ↓Pt.ox_neL, ↓Pt.ox_eqT, ↓Pt.ox_neT, ↓Pt.ox_ix0, ↓Pt.ox_ix1, ↓Pt.ox_ix2, ↓Pt.ox_ix3, ↓Pt.ox_ixT0, ↓Pt.ox_ixT1, ↓Pt.ox_ixT2, ↓Pt.ox_ixT3, ↓Pt.ox_pow20, ↓Pt.ox_lenL, ↓Pt.ox_lenT, ↓Pt.ox_int, ↓Pt.ox_abs, ↓Pt.ox_max, ↓Pt.ox_min, ↓Pt.ox_tup, ↓Pt.ox_tupT, ↓Pt.ox_list, ↓Pt.ox_listT, ↓Pt.ox_repr, z2, true_and]
  have inS : ∀ K : Pt.D → Prop, Ox (dIn false (.str kd) (.tuple [.str "none", .str "one"])) K = K (.bool (decide (kd = "one") || decide (kd = "none"))) := fun K => by
    have sb : shB (.tuple [.str "none", .str "one"]) = true := by decide +kernel
    have ke : (shB (.str kd) && shB (.tuple [.str "none", .str "one"])) = true ∧ ([PyData.str "none", .str "one"].any fun z => PyData.eqv z (.str kd)) = (decide (kd = "one") || decide (kd = "none")) := by
      rcases told.kinds with h | h | h | h <;> subst h <;> decide +kernel
    show Ox (if (shB (.str kd) && shB (.tuple [.str "none", .str "one"])) = true then some (PyData.bool (if false then !([PyData.str "none", .str "one"].any fun z => PyData.eqv z (.str kd)) else ([PyData.str "none", .str "one"].any fun z => PyData.eqv z (.str kd)))) else none) K = _
    rw [ke.1, ke.2]
    rfl
  rw [inS]
  simp -implicitDefEqProofs (disch := (first | omega | assumption | exact Pt.mul_r (by omega) (by omega) | exact Pt.mul_l (by omega) (by omega) | exact ml _ _ | decide)) only [↓Pt.gt_ok, ↓Pt.gt_bind, ↓Pt.gt_lift, ↓Pt.at_0, ↓Pt.at_s, ↓Pt.nt_0, ↓Pt.nt_s, ↓Pt.vd_d, ↓Pt.vd_h, ↓Pt.vo_l, ↓Pt.vo_k, ↓Pt.vo_t, ↓Pt.vl_l, ↓Pt.vs_s, ↓Pt.pu_0, ↓Pt.pu_s, ↓Pt.wi_0, ↓Pt.wi_s, ↓Pt.bp_n, ↓Pt.bp_t, ↓Pt.bp_l, ↓Pt.bps_0, ↓Pt.bps_s, ↓Pt.bo_t, ↓Pt.bo_f, ↓Pt.bo_not, ↓Pt.gt_var, ↓Pt.gt_own, ↓Pt.gt_c, ↓Pt.gt_bin, ↓Pt.gt_un, ↓Pt.gt_tst, ↓Pt.gt_andT, ↓Pt.gt_orT, ↓Pt.gt_notT, ↓Pt.gt_and, ↓Pt.gt_or, ↓Pt.gt_not, ↓Pt.gt_if, ↓Pt.gt_chain, ↓Pt.gt_nil, ↓Pt.gt_cons, ↓Pt.gt_consA, ↓Pt.gt_consS, ↓Pt.gt_tup, ↓Pt.gt_lst, ↓Pt.gt_fz, ↓Pt.gt_fzD, ↓Pt.gt_call, ↓Pt.gt_callL, ↓Pt.gt_callK, ↓Pt.gt_app, ↓Pt.gt_sl, ↓Pt.gt_none, ↓Pt.gt_some, ↓Pt.ls_l, ↓Pt.gt_rev, ↓Pt.gt_sq, ↓Pt.ox_some, ↓Pt.seq_l, ↓Pt.seq_t, ↓Pt.tst_b, ↓Pt.intD_i, ↓Pt.z1_i, ↓Pt.z2_i, ↓Pt.gt_rg1, ↓Pt.gt_rg1J, ↓Pt.gt_rg2, ↓Pt.gt_srcI, ↓Pt.gt_srcLen, ↓Pt.gt_lc, ↓Pt.gt_yes, ↓Pt.gl_nil, ↓Pt.gl_cons, ↓Pt.gl_ok, ↓Pt.vh_h, ↓Pt.vt_t, ↓Pt.gt_ht, ↓Pt.gt_tupL, ↓Pt.lst_l, ↓Pt.gt_newD, ↓Pt.tag_t, ↓Pt.gt_get2T, ↓Pt.key_3, ↓Pt.zp_l, ↓Pt.zp_t, ↓Pt.gt_zip, ↓Pt.pair_0, ↓Pt.pair_s, ↓Pt.gs_seq, ↓Pt.sq_rt, ↓Pt.sq_bk, ↓Pt.sq_ct, ↓Pt.sq_ex, ↓Pt.gs_skip, ↓Pt.gs_brk, ↓Pt.gs_cnt, ↓Pt.gs_nx, ↓Pt.gs_put, ↓Pt.gs_putZ, ↓Pt.gt_map, ↓Pt.gs_ret, ↓Pt.gs_drop, ↓Pt.gs_if, ↓Pt.gs_bind, ↓Pt.gs_par, ↓Pt.gs_par3, ↓Pt.gs_for, ↓Pt.fg_nx, ↓Pt.fg_ct, ↓Pt.fg_bk, ↓Pt.fg_rt, ↓Pt.gs_frz, ↓Pt.fe_s, ↓Pt.fe_l, ↓Pt.fe_k, ↓Pt.fe_t, ↓Pt.fe_d, ↓Pt.gs_apd, ↓Pt.gs_putT, ↓Pt.gs_srcPut, ↓Pt.ox_add, ↓Pt.ox_addL, ↓Pt.ox_addT, ↓Pt.ox_sub, ↓Pt.ox_mul, ↓Pt.ox_div, ↓Pt.ox_mod, ↓Pt.ox_neg, ↓Pt.ox_lt, ↓Pt.ox_le, ↓Pt.ox_gt, ↓Pt.ox_ge, ↓Pt.ox_eq, ↓Pt.ox_ne, ↓Pt.ox_eqS, ↓Pt.ox_neS, ↓Pt.ox_eqL, ↓Pt.ox_neL, ↓Pt.ox_eqT, ↓Pt.ox_neT, ↓Pt.ox_ix0, ↓Pt.ox_ix1, ↓Pt.ox_ix2, ↓Pt.ox_ix3, ↓Pt.ox_ixT0, ↓Pt.ox_ixT1, ↓Pt.ox_ixT2, ↓Pt.ox_ixT3, ↓Pt.ox_pow20, ↓Pt.ox_lenL, ↓Pt.ox_lenT, ↓Pt.ox_int, ↓Pt.ox_abs, ↓Pt.ox_max, ↓Pt.ox_min, ↓Pt.ox_tup, ↓Pt.ox_tupT, ↓Pt.ox_list, ↓Pt.ox_listT, ↓Pt.ox_repr, ↓Pt.wl_nx, ↓Pt.wl_ct, ↓Pt.wl_bk, ↓Pt.wl_rt, ↓Pt.wl_ex, ↓Pt.gt_rg2J, ↓Pt.gt_isiW, ↓Pt.ox_gcdW]
  refine bo_mk (fun h => ?_) fun h => ?_
  · rw [Bool.or_eq_true, decide_eq_true_eq, decide_eq_true_eq] at h
    refine cols_ok md nd ml nl told h fun y9 y10 y11 s2 => ?_
    rw [Pt.sq_nx]
    exact late_ok md nd ml nl told hL
  · rw [Pt.sq_nx]
    exact late_ok md nd ml nl told hL

theorem math : ∀ ns : List Int, ns.length ≤ 63 → ∃ s, m_law (eLaw N_law.length 1) (src0 ns) = .rt (.bool true) s := by
  intro ns _
  refine law_math ?_
  have r5 : rgB 5 = true := by decide
  generalize src0 ns = s0
  have z2 : ∀ a b : Pt.D, szB [a, b].length = true := fun _ _ => rfl
  show Gs (Lb [.un, .src, .un, .un, .un, .un, .un, .un, .un, .un, .un, .un, .un, .un, .un, .un, .un] s0) _
  unfold Lb
  rw [Pt.gs_seq]
  unfold L_1
  simp -implicitDefEqProofs (disch := (first | omega | assumption | exact Pt.mul_r (by omega) (by omega) | exact Pt.mul_l (by omega) (by omega) | exact ml _ _ | decide)) only [↓Pt.gt_ok, ↓Pt.gt_bind, ↓Pt.gt_lift, ↓Pt.at_0, ↓Pt.at_s, ↓Pt.nt_0, ↓Pt.nt_s, ↓Pt.vd_d, ↓Pt.vd_h, ↓Pt.vo_l, ↓Pt.vo_k, ↓Pt.vo_t, ↓Pt.vl_l, ↓Pt.vs_s, ↓Pt.pu_0, ↓Pt.pu_s, ↓Pt.wi_0, ↓Pt.wi_s, ↓Pt.bp_n, ↓Pt.bp_t, ↓Pt.bp_l, ↓Pt.bps_0, ↓Pt.bps_s, ↓Pt.bo_t, ↓Pt.bo_f, ↓Pt.bo_not, ↓Pt.gt_var, ↓Pt.gt_own, ↓Pt.gt_c, ↓Pt.gt_bin, ↓Pt.gt_un, ↓Pt.gt_tst, ↓Pt.gt_andT, ↓Pt.gt_orT, ↓Pt.gt_notT, ↓Pt.gt_and, ↓Pt.gt_or, ↓Pt.gt_not, ↓Pt.gt_if, ↓Pt.gt_chain, ↓Pt.gt_nil, ↓Pt.gt_cons, ↓Pt.gt_consA, ↓Pt.gt_consS, ↓Pt.gt_tup, ↓Pt.gt_lst, ↓Pt.gt_fz, ↓Pt.gt_fzD, ↓Pt.gt_call, ↓Pt.gt_callL, ↓Pt.gt_callK, ↓Pt.gt_app, ↓Pt.gt_sl, ↓Pt.gt_none, ↓Pt.gt_some, ↓Pt.ls_l, ↓Pt.gt_rev, ↓Pt.gt_sq, ↓Pt.ox_some, ↓Pt.seq_l, ↓Pt.seq_t, ↓Pt.tst_b, ↓Pt.intD_i, ↓Pt.z1_i, ↓Pt.z2_i, ↓Pt.gt_rg1, ↓Pt.gt_rg1J, ↓Pt.gt_rg2, ↓Pt.gt_srcI, ↓Pt.gt_srcLen, ↓Pt.gt_lc, ↓Pt.gt_yes, ↓Pt.gl_nil, ↓Pt.gl_cons, ↓Pt.gl_ok, ↓Pt.vh_h, ↓Pt.vt_t, ↓Pt.gt_ht, ↓Pt.gt_tupL, ↓Pt.lst_l, ↓Pt.gt_newD, ↓Pt.tag_t, ↓Pt.gt_get2T, ↓Pt.key_3, ↓Pt.zp_l, ↓Pt.zp_t, ↓Pt.gt_zip, ↓Pt.pair_0, ↓Pt.pair_s, ↓Pt.gs_seq, ↓Pt.sq_rt, ↓Pt.sq_bk, ↓Pt.sq_ct, ↓Pt.sq_ex, ↓Pt.gs_skip, ↓Pt.gs_brk, ↓Pt.gs_cnt, ↓Pt.gs_nx, ↓Pt.gs_put, ↓Pt.gs_putZ, ↓Pt.gt_map, ↓Pt.gs_ret, ↓Pt.gs_drop, ↓Pt.gs_if, ↓Pt.gs_bind, ↓Pt.gs_par, ↓Pt.gs_par3, ↓Pt.gs_for, ↓Pt.fg_nx, ↓Pt.fg_ct, ↓Pt.fg_bk, ↓Pt.fg_rt, ↓Pt.gs_frz, ↓Pt.fe_s, ↓Pt.fe_l, ↓Pt.fe_k, ↓Pt.fe_t, ↓Pt.fe_d, ↓Pt.gs_apd, ↓Pt.gs_putT, ↓Pt.gs_srcPut, ↓Pt.ox_add, ↓Pt.ox_addL, ↓Pt.ox_addT, ↓Pt.ox_sub, ↓Pt.ox_mul, ↓Pt.ox_div, ↓Pt.ox_mod, ↓Pt.ox_neg, ↓Pt.ox_lt, ↓Pt.ox_le, ↓Pt.ox_gt, ↓Pt.ox_ge, ↓Pt.ox_eq, ↓Pt.ox_ne, ↓Pt.ox_eqS, ↓Pt.ox_neS, ↓Pt.ox_eqL, ↓Pt.ox_neL, ↓Pt.ox_eqT, ↓Pt.ox_neT, ↓Pt.ox_ix0, ↓Pt.ox_ix1, ↓Pt.ox_ix2, ↓Pt.ox_ix3, ↓Pt.ox_ixT0, ↓Pt.ox_ixT1, ↓Pt.ox_ixT2, ↓Pt.ox_ixT3, ↓Pt.ox_pow20, ↓Pt.ox_lenL, ↓Pt.ox_lenT, ↓Pt.ox_int, ↓Pt.ox_abs, ↓Pt.ox_max, ↓Pt.ox_min, ↓Pt.ox_tup, ↓Pt.ox_tupT, ↓Pt.ox_list, ↓Pt.ox_listT, ↓Pt.ox_repr, ↓Pt.wl_nx, ↓Pt.wl_ct, ↓Pt.wl_bk, ↓Pt.wl_rt, ↓Pt.wl_ex, ↓Pt.gt_rg2J, ↓Pt.gt_isiW, ↓Pt.ox_gcdW, r5, true_and]
  refine Pt.gs_laps I1 ⟨_, _, _, _, _, _, _, _, _, _, _, _, _, _, _, _, rfl⟩ (fun x _ e s hI => lap_ok x e s hI) ?_
  intro e s hI
  obtain ⟨x0, x2, x3, x4, x5, x6, x7, x8, x9, x10, x11, x12, x13, x14, x15, x16, rfl⟩ := hI
  have f1 := F_line ⟨1, 1, 0, 1⟩ ⟨1, 5, 0, 1⟩ s (by refine ⟨?_, ?_, ?_, ?_⟩ <;> decide) (by refine ⟨?_, ?_, ?_, ?_⟩ <;> decide)
  have f2 := F_line ⟨2, 1, 1, 1⟩ ⟨2, 1, 1, 1⟩ s (by refine ⟨?_, ?_, ?_, ?_⟩ <;> decide) (by refine ⟨?_, ?_, ?_, ?_⟩ <;> decide)
  have d1 : lineD ⟨1, 1, 0, 1⟩ ⟨1, 5, 0, 1⟩ = .tuple [.str "one", .tuple [.int 1, .int 0]] := by rfl
  have d2 : lineD ⟨2, 1, 1, 1⟩ ⟨2, 1, 1, 1⟩ = .tuple [.str "root", .int 5] := by rfl
  rw [d1] at f1
  rw [d2] at f2
  unfold M4.D at f1 f2
  rw [Pt.sq_nx, Pt.gs_seq]
  unfold L_2
  simp -implicitDefEqProofs (disch := (first | omega | assumption | exact Pt.mul_r (by omega) (by omega) | exact Pt.mul_l (by omega) (by omega) | exact ml _ _ | decide)) only [↓Pt.gt_ok, ↓Pt.gt_bind, ↓Pt.gt_lift, ↓Pt.at_0, ↓Pt.at_s, ↓Pt.nt_0, ↓Pt.nt_s, ↓Pt.vd_d, ↓Pt.vd_h, ↓Pt.vo_l, ↓Pt.vo_k, ↓Pt.vo_t, ↓Pt.vl_l, ↓Pt.vs_s, ↓Pt.pu_0, ↓Pt.pu_s, ↓Pt.wi_0, ↓Pt.wi_s, ↓Pt.bp_n, ↓Pt.bp_t, ↓Pt.bp_l, ↓Pt.bps_0, ↓Pt.bps_s, ↓Pt.bo_t, ↓Pt.bo_f, ↓Pt.bo_not, ↓Pt.gt_var, ↓Pt.gt_own, ↓Pt.gt_c, ↓Pt.gt_bin, ↓Pt.gt_un, ↓Pt.gt_tst, ↓Pt.gt_andT, ↓Pt.gt_orT, ↓Pt.gt_notT, ↓Pt.gt_and, ↓Pt.gt_or, ↓Pt.gt_not, ↓Pt.gt_if, ↓Pt.gt_chain, ↓Pt.gt_nil, ↓Pt.gt_cons, ↓Pt.gt_consA, ↓Pt.gt_consS, ↓Pt.gt_tup, ↓Pt.gt_lst, ↓Pt.gt_fz, ↓Pt.gt_fzD, ↓Pt.gt_call, ↓Pt.gt_callL, ↓Pt.gt_callK, ↓Pt.gt_app, ↓Pt.gt_sl, ↓Pt.gt_none, ↓Pt.gt_some, ↓Pt.ls_l, ↓Pt.gt_rev, ↓Pt.gt_sq, ↓Pt.ox_some, ↓Pt.seq_l, ↓Pt.seq_t, ↓Pt.tst_b, ↓Pt.intD_i, ↓Pt.z1_i, ↓Pt.z2_i, ↓Pt.gt_rg1, ↓Pt.gt_rg1J, ↓Pt.gt_rg2, ↓Pt.gt_srcI, ↓Pt.gt_srcLen, ↓Pt.gt_lc, ↓Pt.gt_yes, ↓Pt.gl_nil, ↓Pt.gl_cons, ↓Pt.gl_ok, ↓Pt.vh_h, ↓Pt.vt_t, ↓Pt.gt_ht, ↓Pt.gt_tupL, ↓Pt.lst_l, ↓Pt.gt_newD, ↓Pt.tag_t, ↓Pt.gt_get2T, ↓Pt.key_3, ↓Pt.zp_l, ↓Pt.zp_t, ↓Pt.gt_zip, ↓Pt.pair_0, ↓Pt.pair_s, ↓Pt.gs_seq, ↓Pt.sq_rt, ↓Pt.sq_bk, ↓Pt.sq_ct, ↓Pt.sq_ex, ↓Pt.gs_skip, ↓Pt.gs_brk, ↓Pt.gs_cnt, ↓Pt.gs_nx, ↓Pt.gs_put, ↓Pt.gs_putZ, ↓Pt.gt_map, ↓Pt.gs_ret, ↓Pt.gs_drop, ↓Pt.gs_if, ↓Pt.gs_bind, ↓Pt.gs_par, ↓Pt.gs_par3, ↓Pt.gs_for, ↓Pt.fg_nx, ↓Pt.fg_ct, ↓Pt.fg_bk, ↓Pt.fg_rt, ↓Pt.gs_frz, ↓Pt.fe_s, ↓Pt.fe_l, ↓Pt.fe_k, ↓Pt.fe_t, ↓Pt.fe_d, ↓Pt.gs_apd, ↓Pt.gs_putT, ↓Pt.gs_srcPut, ↓Pt.ox_add, ↓Pt.ox_addL, ↓Pt.ox_addT, ↓Pt.ox_sub, ↓Pt.ox_mul, ↓Pt.ox_div, ↓Pt.ox_mod, ↓Pt.ox_neg, ↓Pt.ox_lt, ↓Pt.ox_le, ↓Pt.ox_gt, ↓Pt.ox_ge, ↓Pt.ox_eq, ↓Pt.ox_ne, ↓Pt.ox_eqS, ↓Pt.ox_neS, ↓Pt.ox_eqL, ↓Pt.ox_neL, ↓Pt.ox_eqT, ↓Pt.ox_neT, ↓Pt.ox_ix0, ↓Pt.ox_ix1, ↓Pt.ox_ix2, ↓Pt.ox_ix3, ↓Pt.ox_ixT0, ↓Pt.ox_ixT1, ↓Pt.ox_ixT2, ↓Pt.ox_ixT3, ↓Pt.ox_pow20, ↓Pt.ox_lenL, ↓Pt.ox_lenT, ↓Pt.ox_int, ↓Pt.ox_abs, ↓Pt.ox_max, ↓Pt.ox_min, ↓Pt.ox_tup, ↓Pt.ox_tupT, ↓Pt.ox_list, ↓Pt.ox_listT, ↓Pt.ox_repr, ↓Pt.wl_nx, ↓Pt.wl_ct, ↓Pt.wl_bk, ↓Pt.wl_rt, ↓Pt.wl_ex, ↓Pt.gt_rg2J, ↓Pt.gt_isiW, ↓Pt.ox_gcdW, sz4, z2, true_and, ↓gt_eq f1, ↓gt_eq f2]
  have t1 : textOk (.list [.tuple [.str "one", .tuple [.int 1, .int 0]], .tuple [.str "root", .int 5]]) = true := by decide +kernel
  rw [Pt.sq_nx]
  unfold L_3
  simp -implicitDefEqProofs (disch := (first | omega | assumption | exact Pt.mul_r (by omega) (by omega) | exact Pt.mul_l (by omega) (by omega) | exact ml _ _ | decide)) only [↓Pt.gt_ok, ↓Pt.gt_bind, ↓Pt.gt_lift, ↓Pt.at_0, ↓Pt.at_s, ↓Pt.nt_0, ↓Pt.nt_s, ↓Pt.vd_d, ↓Pt.vd_h, ↓Pt.vo_l, ↓Pt.vo_k, ↓Pt.vo_t, ↓Pt.vl_l, ↓Pt.vs_s, ↓Pt.pu_0, ↓Pt.pu_s, ↓Pt.wi_0, ↓Pt.wi_s, ↓Pt.bp_n, ↓Pt.bp_t, ↓Pt.bp_l, ↓Pt.bps_0, ↓Pt.bps_s, ↓Pt.bo_t, ↓Pt.bo_f, ↓Pt.bo_not, ↓Pt.gt_var, ↓Pt.gt_own, ↓Pt.gt_c, ↓Pt.gt_bin, ↓Pt.gt_un, ↓Pt.gt_tst, ↓Pt.gt_andT, ↓Pt.gt_orT, ↓Pt.gt_notT, ↓Pt.gt_and, ↓Pt.gt_or, ↓Pt.gt_not, ↓Pt.gt_if, ↓Pt.gt_chain, ↓Pt.gt_nil, ↓Pt.gt_cons, ↓Pt.gt_consA, ↓Pt.gt_consS, ↓Pt.gt_tup, ↓Pt.gt_lst, ↓Pt.gt_fz, ↓Pt.gt_fzD, ↓Pt.gt_call, ↓Pt.gt_callL, ↓Pt.gt_callK, ↓Pt.gt_app, ↓Pt.gt_sl, ↓Pt.gt_none, ↓Pt.gt_some, ↓Pt.ls_l, ↓Pt.gt_rev, ↓Pt.gt_sq, ↓Pt.ox_some, ↓Pt.seq_l, ↓Pt.seq_t, ↓Pt.tst_b, ↓Pt.intD_i, ↓Pt.z1_i, ↓Pt.z2_i, ↓Pt.gt_rg1, ↓Pt.gt_rg1J, ↓Pt.gt_rg2, ↓Pt.gt_srcI, ↓Pt.gt_srcLen, ↓Pt.gt_lc, ↓Pt.gt_yes, ↓Pt.gl_nil, ↓Pt.gl_cons, ↓Pt.gl_ok, ↓Pt.vh_h, ↓Pt.vt_t, ↓Pt.gt_ht, ↓Pt.gt_tupL, ↓Pt.lst_l, ↓Pt.gt_newD, ↓Pt.tag_t, ↓Pt.gt_get2T, ↓Pt.key_3, ↓Pt.zp_l, ↓Pt.zp_t, ↓Pt.gt_zip, ↓Pt.pair_0, ↓Pt.pair_s, ↓Pt.gs_seq, ↓Pt.sq_nx, ↓Pt.sq_rt, ↓Pt.sq_bk, ↓Pt.sq_ct, ↓Pt.sq_ex, ↓Pt.gs_skip, ↓Pt.gs_brk, ↓Pt.gs_cnt, ↓Pt.gs_nx, ↓Pt.gs_put, ↓Pt.gs_putZ, ↓Pt.gt_map, ↓Pt.gs_ret, ↓Pt.gs_drop, ↓Pt.gs_if, ↓Pt.gs_bind, ↓Pt.gs_par, ↓Pt.gs_par3, ↓Pt.gs_for, ↓Pt.fg_nx, ↓Pt.fg_ct, ↓Pt.fg_bk, ↓Pt.fg_rt, ↓Pt.gs_frz, ↓Pt.fe_s, ↓Pt.fe_l, ↓Pt.fe_k, ↓Pt.fe_t, ↓Pt.fe_d, ↓Pt.gs_apd, ↓Pt.gs_putT, ↓Pt.gs_srcPut, ↓Pt.ox_add, ↓Pt.ox_addL, ↓Pt.ox_addT, ↓Pt.ox_sub, ↓Pt.ox_mul, ↓Pt.ox_div, ↓Pt.ox_mod, ↓Pt.ox_neg, ↓Pt.ox_lt, ↓Pt.ox_le, ↓Pt.ox_gt, ↓Pt.ox_ge, ↓Pt.ox_eq, ↓Pt.ox_ne, ↓Pt.ox_eqS, ↓Pt.ox_neS, ↓Pt.ox_eqL, ↓Pt.ox_neL, ↓Pt.ox_eqT, ↓Pt.ox_neT, ↓Pt.ox_ix0, ↓Pt.ox_ix1, ↓Pt.ox_ix2, ↓Pt.ox_ix3, ↓Pt.ox_ixT0, ↓Pt.ox_ixT1, ↓Pt.ox_ixT2, ↓Pt.ox_ixT3, ↓Pt.ox_pow20, ↓Pt.ox_lenL, ↓Pt.ox_lenT, ↓Pt.ox_int, ↓Pt.ox_abs, ↓Pt.ox_max, ↓Pt.ox_min, ↓Pt.ox_tup, ↓Pt.ox_tupT, ↓Pt.ox_list, ↓Pt.ox_listT, ↓Pt.ox_repr, ↓Pt.wl_nx, ↓Pt.wl_ct, ↓Pt.wl_bk, ↓Pt.wl_rt, ↓Pt.wl_ex, ↓Pt.gt_rg2J, ↓Pt.gt_isiW, ↓Pt.ox_gcdW, z2, t1, true_and, decide_true]
  exact ⟨_, rfl⟩
end K52

namespace K52
open PySem PySem.Spec PyProof.Rows L2 Pt Pg
theorem all_mk {l : PySem.W.OpenLaw} {w : World} {K : PySem.W.Frag} {h : Heap} {mg : Str → Option Value} {fa : Addr} (X : K.In h) (G : h.Ns mainGlobals mg) (hfa : mg "law" = some (.ref fa))
    {f_is_whole : Addr} {od_is_whole an_is_whole : Option Addr} {sl_is_whole : Array (Option Value)} {oc_is_whole kV_is_whole dc_is_whole pm_is_whole cd_is_whole ct_is_whole : Value} (a_is_whole : PySem.W.nsIn K mainGlobals "is_whole" = some (some (.ref f_is_whole))) (l_is_whole : K.lookup f_is_whole = some ⟨oc_is_whole, od_is_whole, .func (PySem.W.fnOf "is_whole" "is_whole" (defArgs s_is_whole) (defBody s_is_whole) (defScope s_is_whole) .none kV_is_whole dc_is_whole pm_is_whole an_is_whole cd_is_whole ct_is_whole), sl_is_whole⟩) (c_is_whole : PySem.W.codeIn K cd_is_whole "is_whole" = true) (k_is_whole : PySem.W.keepIn K (.ref f_is_whole) = true)
    {f_is_table : Addr} {od_is_table an_is_table : Option Addr} {sl_is_table : Array (Option Value)} {oc_is_table kV_is_table dc_is_table pm_is_table cd_is_table ct_is_table : Value} (a_is_table : PySem.W.nsIn K mainGlobals "is_table" = some (some (.ref f_is_table))) (l_is_table : K.lookup f_is_table = some ⟨oc_is_table, od_is_table, .func (PySem.W.fnOf "is_table" "is_table" (defArgs s_is_table) (defBody s_is_table) (defScope s_is_table) .none kV_is_table dc_is_table pm_is_table an_is_table cd_is_table ct_is_table), sl_is_table⟩) (c_is_table : PySem.W.codeIn K cd_is_table "is_table" = true) (k_is_table : PySem.W.keepIn K (.ref f_is_table) = true)
    {f_is_pair : Addr} {od_is_pair an_is_pair : Option Addr} {sl_is_pair : Array (Option Value)} {oc_is_pair kV_is_pair dc_is_pair pm_is_pair cd_is_pair ct_is_pair : Value} (a_is_pair : PySem.W.nsIn K mainGlobals "is_pair" = some (some (.ref f_is_pair))) (l_is_pair : K.lookup f_is_pair = some ⟨oc_is_pair, od_is_pair, .func (PySem.W.fnOf "is_pair" "is_pair" (defArgs s_is_pair) (defBody s_is_pair) (defScope s_is_pair) .none kV_is_pair dc_is_pair pm_is_pair an_is_pair cd_is_pair ct_is_pair), sl_is_pair⟩) (c_is_pair : PySem.W.codeIn K cd_is_pair "is_pair" = true) (k_is_pair : PySem.W.keepIn K (.ref f_is_pair) = true)
    {f_table_times : Addr} {od_table_times an_table_times : Option Addr} {sl_table_times : Array (Option Value)} {oc_table_times kV_table_times dc_table_times pm_table_times cd_table_times ct_table_times : Value} (a_table_times : PySem.W.nsIn K mainGlobals "table_times" = some (some (.ref f_table_times))) (l_table_times : K.lookup f_table_times = some ⟨oc_table_times, od_table_times, .func (PySem.W.fnOf "table_times" "table_times" (defArgs s_table_times) (defBody s_table_times) (defScope s_table_times) .none kV_table_times dc_table_times pm_table_times an_table_times cd_table_times ct_table_times), sl_table_times⟩) (c_table_times : PySem.W.codeIn K cd_table_times "table_times" = true) (k_table_times : PySem.W.keepIn K (.ref f_table_times) = true)
    {f_trace_of : Addr} {od_trace_of an_trace_of : Option Addr} {sl_trace_of : Array (Option Value)} {oc_trace_of kV_trace_of dc_trace_of pm_trace_of cd_trace_of ct_trace_of : Value} (a_trace_of : PySem.W.nsIn K mainGlobals "trace_of" = some (some (.ref f_trace_of))) (l_trace_of : K.lookup f_trace_of = some ⟨oc_trace_of, od_trace_of, .func (PySem.W.fnOf "trace_of" "trace_of" (defArgs s_trace_of) (defBody s_trace_of) (defScope s_trace_of) .none kV_trace_of dc_trace_of pm_trace_of an_trace_of cd_trace_of ct_trace_of), sl_trace_of⟩) (c_trace_of : PySem.W.codeIn K cd_trace_of "trace_of" = true) (k_trace_of : PySem.W.keepIn K (.ref f_trace_of) = true)
    {f_traced : Addr} {od_traced an_traced : Option Addr} {sl_traced : Array (Option Value)} {oc_traced kV_traced dc_traced pm_traced cd_traced ct_traced : Value} (a_traced : PySem.W.nsIn K mainGlobals "traced" = some (some (.ref f_traced))) (l_traced : K.lookup f_traced = some ⟨oc_traced, od_traced, .func (PySem.W.fnOf "traced" "traced" (defArgs s_traced) (defBody s_traced) (defScope s_traced) .none kV_traced dc_traced pm_traced an_traced cd_traced ct_traced), sl_traced⟩) (c_traced : PySem.W.codeIn K cd_traced "traced" = true) (k_traced : PySem.W.keepIn K (.ref f_traced) = true)
    {f_k_of : Addr} {od_k_of an_k_of : Option Addr} {sl_k_of : Array (Option Value)} {oc_k_of kV_k_of dc_k_of pm_k_of cd_k_of ct_k_of : Value} (a_k_of : PySem.W.nsIn K mainGlobals "k_of" = some (some (.ref f_k_of))) (l_k_of : K.lookup f_k_of = some ⟨oc_k_of, od_k_of, .func (PySem.W.fnOf "k_of" "k_of" (defArgs s_k_of) (defBody s_k_of) (defScope s_k_of) .none kV_k_of dc_k_of pm_k_of an_k_of cd_k_of ct_k_of), sl_k_of⟩) (c_k_of : PySem.W.codeIn K cd_k_of "k_of" = true) (k_k_of : PySem.W.keepIn K (.ref f_k_of) = true)
    {f_least_row : Addr} {od_least_row an_least_row : Option Addr} {sl_least_row : Array (Option Value)} {oc_least_row kV_least_row dc_least_row pm_least_row cd_least_row ct_least_row : Value} (a_least_row : PySem.W.nsIn K mainGlobals "least_row" = some (some (.ref f_least_row))) (l_least_row : K.lookup f_least_row = some ⟨oc_least_row, od_least_row, .func (PySem.W.fnOf "least_row" "least_row" (defArgs s_least_row) (defBody s_least_row) (defScope s_least_row) .none kV_least_row dc_least_row pm_least_row an_least_row cd_least_row ct_least_row), sl_least_row⟩) (c_least_row : PySem.W.codeIn K cd_least_row "least_row" = true) (k_least_row : PySem.W.keepIn K (.ref f_least_row) = true)
    {f_kept_column : Addr} {od_kept_column an_kept_column : Option Addr} {sl_kept_column : Array (Option Value)} {oc_kept_column kV_kept_column dc_kept_column pm_kept_column cd_kept_column ct_kept_column : Value} (a_kept_column : PySem.W.nsIn K mainGlobals "kept_column" = some (some (.ref f_kept_column))) (l_kept_column : K.lookup f_kept_column = some ⟨oc_kept_column, od_kept_column, .func (PySem.W.fnOf "kept_column" "kept_column" (defArgs s_kept_column) (defBody s_kept_column) (defScope s_kept_column) .none kV_kept_column dc_kept_column pm_kept_column an_kept_column cd_kept_column ct_kept_column), sl_kept_column⟩) (c_kept_column : PySem.W.codeIn K cd_kept_column "kept_column" = true) (k_kept_column : PySem.W.keepIn K (.ref f_kept_column) = true)
    {f_line_told : Addr} {od_line_told an_line_told : Option Addr} {sl_line_told : Array (Option Value)} {oc_line_told kV_line_told dc_line_told pm_line_told cd_line_told ct_line_told : Value} (a_line_told : PySem.W.nsIn K mainGlobals "line_told" = some (some (.ref f_line_told))) (l_line_told : K.lookup f_line_told = some ⟨oc_line_told, od_line_told, .func (PySem.W.fnOf "line_told" "line_told" (defArgs s_line_told) (defBody s_line_told) (defScope s_line_told) .none kV_line_told dc_line_told pm_line_told an_line_told cd_line_told ct_line_told), sl_line_told⟩) (c_line_told : PySem.W.codeIn K cd_line_told "line_told" = true) (k_line_told : PySem.W.keepIn K (.ref f_line_told) = true)
    {f_law_source : Addr} {od_law_source an_law_source : Option Addr} {sl_law_source : Array (Option Value)} {oc_law_source kV_law_source dc_law_source pm_law_source cd_law_source ct_law_source : Value} (a_law_source : PySem.W.nsIn K mainGlobals "_law_source" = some (some (.ref f_law_source))) (l_law_source : K.lookup f_law_source = some ⟨oc_law_source, od_law_source, .func (PySem.W.fnOf "_law_source" "_law_source" (defArgs s_law_source) (defBody s_law_source) (defScope s_law_source) .none kV_law_source dc_law_source pm_law_source an_law_source cd_law_source ct_law_source), sl_law_source⟩) (c_law_source : PySem.W.codeIn K cd_law_source "_law_source" = true) (k_law_source : PySem.W.keepIn K (.ref f_law_source) = true)
    {f_law_pick : Addr} {od_law_pick an_law_pick : Option Addr} {sl_law_pick : Array (Option Value)} {oc_law_pick kV_law_pick dc_law_pick pm_law_pick cd_law_pick ct_law_pick : Value} (a_law_pick : PySem.W.nsIn K mainGlobals "_law_pick" = some (some (.ref f_law_pick))) (l_law_pick : K.lookup f_law_pick = some ⟨oc_law_pick, od_law_pick, .func (PySem.W.fnOf "_law_pick" "_law_pick" (defArgs s_law_pick) (defBody s_law_pick) (defScope s_law_pick) .none kV_law_pick dc_law_pick pm_law_pick an_law_pick cd_law_pick ct_law_pick), sl_law_pick⟩) (c_law_pick : PySem.W.codeIn K cd_law_pick "_law_pick" = true) (k_law_pick : PySem.W.keepIn K (.ref f_law_pick) = true)
    {f_law_of : Addr} {od_law_of an_law_of : Option Addr} {sl_law_of : Array (Option Value)} {oc_law_of kV_law_of dc_law_of pm_law_of cd_law_of ct_law_of : Value} (a_law_of : PySem.W.nsIn K mainGlobals "_law_of" = some (some (.ref f_law_of))) (l_law_of : K.lookup f_law_of = some ⟨oc_law_of, od_law_of, .func (PySem.W.fnOf "_law_of" "_law_of" (defArgs s_law_of) (defBody s_law_of) (defScope s_law_of) .none kV_law_of dc_law_of pm_law_of an_law_of cd_law_of ct_law_of), sl_law_of⟩) (c_law_of : PySem.W.codeIn K cd_law_of "_law_of" = true) (k_law_of : PySem.W.keepIn K (.ref f_law_of) = true)
    {f_law_table_times : Addr} {od_law_table_times an_law_table_times : Option Addr} {sl_law_table_times : Array (Option Value)} {oc_law_table_times kV_law_table_times dc_law_table_times pm_law_table_times cd_law_table_times ct_law_table_times : Value} (a_law_table_times : PySem.W.nsIn K mainGlobals "_law_table_times" = some (some (.ref f_law_table_times))) (l_law_table_times : K.lookup f_law_table_times = some ⟨oc_law_table_times, od_law_table_times, .func (PySem.W.fnOf "_law_table_times" "_law_table_times" (defArgs s_law_table_times) (defBody s_law_table_times) (defScope s_law_table_times) .none kV_law_table_times dc_law_table_times pm_law_table_times an_law_table_times cd_law_table_times ct_law_table_times), sl_law_table_times⟩) (c_law_table_times : PySem.W.codeIn K cd_law_table_times "_law_table_times" = true) (k_law_table_times : PySem.W.keepIn K (.ref f_law_table_times) = true)
    {f_law_table_undone : Addr} {od_law_table_undone an_law_table_undone : Option Addr} {sl_law_table_undone : Array (Option Value)} {oc_law_table_undone kV_law_table_undone dc_law_table_undone pm_law_table_undone cd_law_table_undone ct_law_table_undone : Value} (a_law_table_undone : PySem.W.nsIn K mainGlobals "_law_table_undone" = some (some (.ref f_law_table_undone))) (l_law_table_undone : K.lookup f_law_table_undone = some ⟨oc_law_table_undone, od_law_table_undone, .func (PySem.W.fnOf "_law_table_undone" "_law_table_undone" (defArgs s_law_table_undone) (defBody s_law_table_undone) (defScope s_law_table_undone) .none kV_law_table_undone dc_law_table_undone pm_law_table_undone an_law_table_undone cd_law_table_undone ct_law_table_undone), sl_law_table_undone⟩) (c_law_table_undone : PySem.W.codeIn K cd_law_table_undone "_law_table_undone" = true) (k_law_table_undone : PySem.W.keepIn K (.ref f_law_table_undone) = true)
    {f_law_drawn_table : Addr} {od_law_drawn_table an_law_drawn_table : Option Addr} {sl_law_drawn_table : Array (Option Value)} {oc_law_drawn_table kV_law_drawn_table dc_law_drawn_table pm_law_drawn_table cd_law_drawn_table ct_law_drawn_table : Value} (a_law_drawn_table : PySem.W.nsIn K mainGlobals "_law_drawn_table" = some (some (.ref f_law_drawn_table))) (l_law_drawn_table : K.lookup f_law_drawn_table = some ⟨oc_law_drawn_table, od_law_drawn_table, .func (PySem.W.fnOf "_law_drawn_table" "_law_drawn_table" (defArgs s_law_drawn_table) (defBody s_law_drawn_table) (defScope s_law_drawn_table) .none kV_law_drawn_table dc_law_drawn_table pm_law_drawn_table an_law_drawn_table cd_law_drawn_table ct_law_drawn_table), sl_law_drawn_table⟩) (c_law_drawn_table : PySem.W.codeIn K cd_law_drawn_table "_law_drawn_table" = true) (k_law_drawn_table : PySem.W.keepIn K (.ref f_law_drawn_table) = true)
    {f_law_triple : Addr} {od_law_triple an_law_triple : Option Addr} {sl_law_triple : Array (Option Value)} {oc_law_triple kV_law_triple dc_law_triple pm_law_triple cd_law_triple ct_law_triple : Value} (a_law_triple : PySem.W.nsIn K mainGlobals "_law_triple" = some (some (.ref f_law_triple))) (l_law_triple : K.lookup f_law_triple = some ⟨oc_law_triple, od_law_triple, .func (PySem.W.fnOf "_law_triple" "_law_triple" (defArgs s_law_triple) (defBody s_law_triple) (defScope s_law_triple) .none kV_law_triple dc_law_triple pm_law_triple an_law_triple cd_law_triple ct_law_triple), sl_law_triple⟩) (c_law_triple : PySem.W.codeIn K cd_law_triple "_law_triple" = true) (k_law_triple : PySem.W.keepIn K (.ref f_law_triple) = true)
    {f_law_k : Addr} {od_law_k an_law_k : Option Addr} {sl_law_k : Array (Option Value)} {oc_law_k kV_law_k dc_law_k pm_law_k cd_law_k ct_law_k : Value} (a_law_k : PySem.W.nsIn K mainGlobals "_law_k" = some (some (.ref f_law_k))) (l_law_k : K.lookup f_law_k = some ⟨oc_law_k, od_law_k, .func (PySem.W.fnOf "_law_k" "_law_k" (defArgs s_law_k) (defBody s_law_k) (defScope s_law_k) .none kV_law_k dc_law_k pm_law_k an_law_k cd_law_k ct_law_k), sl_law_k⟩) (c_law_k : PySem.W.codeIn K cd_law_k "_law_k" = true) (k_law_k : PySem.W.keepIn K (.ref f_law_k) = true)
    {f_law_led : Addr} {od_law_led an_law_led : Option Addr} {sl_law_led : Array (Option Value)} {oc_law_led kV_law_led dc_law_led pm_law_led cd_law_led ct_law_led : Value} (a_law_led : PySem.W.nsIn K mainGlobals "_law_led" = some (some (.ref f_law_led))) (l_law_led : K.lookup f_law_led = some ⟨oc_law_led, od_law_led, .func (PySem.W.fnOf "_law_led" "_law_led" (defArgs s_law_led) (defBody s_law_led) (defScope s_law_led) .none kV_law_led dc_law_led pm_law_led an_law_led cd_law_led ct_law_led), sl_law_led⟩) (c_law_led : PySem.W.codeIn K cd_law_led "_law_led" = true) (k_law_led : PySem.W.keepIn K (.ref f_law_led) = true)
    {f_law_column : Addr} {od_law_column an_law_column : Option Addr} {sl_law_column : Array (Option Value)} {oc_law_column kV_law_column dc_law_column pm_law_column cd_law_column ct_law_column : Value} (a_law_column : PySem.W.nsIn K mainGlobals "_law_column" = some (some (.ref f_law_column))) (l_law_column : K.lookup f_law_column = some ⟨oc_law_column, od_law_column, .func (PySem.W.fnOf "_law_column" "_law_column" (defArgs s_law_column) (defBody s_law_column) (defScope s_law_column) .none kV_law_column dc_law_column pm_law_column an_law_column cd_law_column ct_law_column), sl_law_column⟩) (c_law_column : PySem.W.codeIn K cd_law_column "_law_column" = true) (k_law_column : PySem.W.keepIn K (.ref f_law_column) = true)
    {f_law_is_kept : Addr} {od_law_is_kept an_law_is_kept : Option Addr} {sl_law_is_kept : Array (Option Value)} {oc_law_is_kept kV_law_is_kept dc_law_is_kept pm_law_is_kept cd_law_is_kept ct_law_is_kept : Value} (a_law_is_kept : PySem.W.nsIn K mainGlobals "_law_is_kept" = some (some (.ref f_law_is_kept))) (l_law_is_kept : K.lookup f_law_is_kept = some ⟨oc_law_is_kept, od_law_is_kept, .func (PySem.W.fnOf "_law_is_kept" "_law_is_kept" (defArgs s_law_is_kept) (defBody s_law_is_kept) (defScope s_law_is_kept) .none kV_law_is_kept dc_law_is_kept pm_law_is_kept an_law_is_kept cd_law_is_kept ct_law_is_kept), sl_law_is_kept⟩) (c_law_is_kept : PySem.W.codeIn K cd_law_is_kept "_law_is_kept" = true) (k_law_is_kept : PySem.W.keepIn K (.ref f_law_is_kept) = true)
    {f_law_pair : Addr} {od_law_pair an_law_pair : Option Addr} {sl_law_pair : Array (Option Value)} {oc_law_pair kV_law_pair dc_law_pair pm_law_pair cd_law_pair ct_law_pair : Value} (a_law_pair : PySem.W.nsIn K mainGlobals "_law_pair" = some (some (.ref f_law_pair))) (l_law_pair : K.lookup f_law_pair = some ⟨oc_law_pair, od_law_pair, .func (PySem.W.fnOf "_law_pair" "_law_pair" (defArgs s_law_pair) (defBody s_law_pair) (defScope s_law_pair) .none kV_law_pair dc_law_pair pm_law_pair an_law_pair cd_law_pair ct_law_pair), sl_law_pair⟩) (c_law_pair : PySem.W.codeIn K cd_law_pair "_law_pair" = true) (k_law_pair : PySem.W.keepIn K (.ref f_law_pair) = true)
    {f_law_due : Addr} {od_law_due an_law_due : Option Addr} {sl_law_due : Array (Option Value)} {oc_law_due kV_law_due dc_law_due pm_law_due cd_law_due ct_law_due : Value} (a_law_due : PySem.W.nsIn K mainGlobals "_law_due" = some (some (.ref f_law_due))) (l_law_due : K.lookup f_law_due = some ⟨oc_law_due, od_law_due, .func (PySem.W.fnOf "_law_due" "_law_due" (defArgs s_law_due) (defBody s_law_due) (defScope s_law_due) .none kV_law_due dc_law_due pm_law_due an_law_due cd_law_due ct_law_due), sl_law_due⟩) (c_law_due : PySem.W.codeIn K cd_law_due "_law_due" = true) (k_law_due : PySem.W.keepIn K (.ref f_law_due) = true)
    {f_law_is_table : Addr} {od_law_is_table an_law_is_table : Option Addr} {sl_law_is_table : Array (Option Value)} {oc_law_is_table kV_law_is_table dc_law_is_table pm_law_is_table cd_law_is_table ct_law_is_table : Value} (a_law_is_table : PySem.W.nsIn K mainGlobals "_law_is_table" = some (some (.ref f_law_is_table))) (l_law_is_table : K.lookup f_law_is_table = some ⟨oc_law_is_table, od_law_is_table, .func (PySem.W.fnOf "_law_is_table" "_law_is_table" (defArgs s_law_is_table) (defBody s_law_is_table) (defScope s_law_is_table) .none kV_law_is_table dc_law_is_table pm_law_is_table an_law_is_table cd_law_is_table ct_law_is_table), sl_law_is_table⟩) (c_law_is_table : PySem.W.codeIn K cd_law_is_table "_law_is_table" = true) (k_law_is_table : PySem.W.keepIn K (.ref f_law_is_table) = true)
    {f_law : Addr} {od_law an_law : Option Addr} {sl_law : Array (Option Value)} {oc_law kV_law dc_law pm_law cd_law ct_law : Value} (a_law : PySem.W.nsIn K mainGlobals "law" = some (some (.ref f_law))) (l_law : K.lookup f_law = some ⟨oc_law, od_law, .func (PySem.W.fnOf "law" "law" (defArgs s_law) (defBody s_law) (defScope s_law) .none kV_law dc_law pm_law an_law cd_law ct_law), sl_law⟩) (c_law : PySem.W.codeIn K cd_law "law" = true) (k_law : PySem.W.keepIn K (.ref f_law) = true)
    (z_abs : PySem.W.nsIn K mainGlobals "abs" = some none)
    (z_all : PySem.W.nsIn K mainGlobals "all" = some none)
    (z_bool : PySem.W.nsIn K mainGlobals "bool" = some none)
    (z_int : PySem.W.nsIn K mainGlobals "int" = some none)
    (z_isinstance : PySem.W.nsIn K mainGlobals "isinstance" = some none)
    (z_len : PySem.W.nsIn K mainGlobals "len" = some none)
    (z_list : PySem.W.nsIn K mainGlobals "list" = some none)
    (z_max : PySem.W.nsIn K mainGlobals "max" = some none)
    (z_range : PySem.W.nsIn K mainGlobals "range" = some none)
    (z_repr : PySem.W.nsIn K mainGlobals "repr" = some none)
    (z_tuple : PySem.W.nsIn K mainGlobals "tuple" = some none)
    {t_EACH_ONE_2 : Tok}
    {t_EACH_ONE_3 : Tok}
    {t_EACH_ONE_4 : Tok}
    {t_EACH_ONE_5 : Tok}
    {t_EACH_ONE_7 : Tok}
    {t_EACH_ONE_8 : Tok}
    {t_EACH_ONE_9 : Tok}
    {t_EACH_ONE_10 : Tok}
    {c_EACH_ONE_1 : Addr} {dd_EACH_ONE_1 : Option Addr} {n_EACH_ONE_1 : Nat} {sl_EACH_ONE_1 : Array (Option Value)} (yl_EACH_ONE_1 : K.lookup c_EACH_ONE_1 = some ⟨.type "tuple", dd_EACH_ONE_1, .seq (List.toArray [.int (1) t_EACH_ONE_2, .int (0) t_EACH_ONE_3, .int (0) t_EACH_ONE_4, .int (1) t_EACH_ONE_5]) n_EACH_ONE_1, sl_EACH_ONE_1⟩)
    {c_EACH_ONE_6 : Addr} {dd_EACH_ONE_6 : Option Addr} {n_EACH_ONE_6 : Nat} {sl_EACH_ONE_6 : Array (Option Value)} (yl_EACH_ONE_6 : K.lookup c_EACH_ONE_6 = some ⟨.type "tuple", dd_EACH_ONE_6, .seq (List.toArray [.int (-1) t_EACH_ONE_7, .int (0) t_EACH_ONE_8, .int (0) t_EACH_ONE_9, .int (-1) t_EACH_ONE_10]) n_EACH_ONE_6, sl_EACH_ONE_6⟩)
    {c_EACH_ONE_0 : Addr} {dd_EACH_ONE_0 : Option Addr} {n_EACH_ONE_0 : Nat} {sl_EACH_ONE_0 : Array (Option Value)} (yl_EACH_ONE_0 : K.lookup c_EACH_ONE_0 = some ⟨.type "tuple", dd_EACH_ONE_0, .seq (List.toArray [.ref c_EACH_ONE_1, .ref c_EACH_ONE_6]) n_EACH_ONE_0, sl_EACH_ONE_0⟩)
    (y_EACH_ONE : PySem.W.nsIn K mainGlobals "EACH_ONE" = some (some (.ref c_EACH_ONE_0)))
    {t_HAS_LINE : Tok} (y_HAS_LINE : PySem.W.nsIn K mainGlobals "HAS_LINE" = some (some (.int (2) t_HAS_LINE)))
    (y_gcd : PySem.W.nsIn K mainGlobals "gcd" = some (some (.builtin "math.gcd")))
    (math : ∀ ns : List Int, ns.length ≤ 63 → ∃ s, m_law (eLaw N_law.length 1) (src0 ns) = .rt (.bool true) s) :
    ∃ fd : FuncData, (∀ (s : Shared) (v : Value), BindsTo s fd ⟨[v], []⟩ [("script", v)]) ∧ ∀ base : Heap, K.In base → base.Ns mainGlobals mg → FnG l.prog w K mg base 5 fa fd ["script"] (spLaw K 63) := by
  have e := hfa.symm.trans (PySem.W.mg_of X G a_law)
  cases e
  have q_EACH_ONE_1 : ∀ F, Is K F (.ref c_EACH_ONE_1) (.tuple [(.int 1), (.int 0), (.int 0), (.int 1)]) := tupK (vs := [.int (1), .int (0), .int (0), .int (1)]) yl_EACH_ONE_1 (.cons ⟨_, rfl⟩ (.cons ⟨_, rfl⟩ (.cons ⟨_, rfl⟩ (.cons ⟨_, rfl⟩ .nil)))) (by rw [sizeLine_eq]; exact (by decide : 4 ≤ 16777216)) (by rw [sizeLine_eq]; exact (by decide : 4 ≤ 16777216)) fun F => (.cons ((fun _ => .int _) F) (.cons ((fun _ => .int _) F) (.cons ((fun _ => .int _) F) (.cons ((fun _ => .int _) F) .nil))))
  have q_EACH_ONE_6 : ∀ F, Is K F (.ref c_EACH_ONE_6) (.tuple [(.int (-1)), (.int 0), (.int 0), (.int (-1))]) := tupK (vs := [.int (-1), .int (0), .int (0), .int (-1)]) yl_EACH_ONE_6 (.cons ⟨_, rfl⟩ (.cons ⟨_, rfl⟩ (.cons ⟨_, rfl⟩ (.cons ⟨_, rfl⟩ .nil)))) (by rw [sizeLine_eq]; exact (by decide : 4 ≤ 16777216)) (by rw [sizeLine_eq]; exact (by decide : 4 ≤ 16777216)) fun F => (.cons ((fun _ => .int _) F) (.cons ((fun _ => .int _) F) (.cons ((fun _ => .int _) F) (.cons ((fun _ => .int _) F) .nil))))
  have q_EACH_ONE_0 : ∀ F, Is K F (.ref c_EACH_ONE_0) (.tuple [(.tuple [(.int 1), (.int 0), (.int 0), (.int 1)]), (.tuple [(.int (-1)), (.int 0), (.int 0), (.int (-1))])]) := tupK (vs := [.ref c_EACH_ONE_1, .ref c_EACH_ONE_6]) yl_EACH_ONE_0 (.cons rfl (.cons rfl .nil)) (by rw [sizeLine_eq]; exact (by decide : 2 ≤ 16777216)) (by rw [sizeLine_eq]; exact (by decide : 2 ≤ 16777216)) fun F => (.cons (q_EACH_ONE_1 F) (.cons (q_EACH_ONE_6 F) .nil))
  have D_is_whole := fun_mk (st := s_is_whole) l_is_whole c_is_whole k_is_whole
  have b_is_whole := D_is_whole.binds (ps := P_is_whole) fun _ _ _ _ _ _ us hl => match us, hl with | [_], _ => rfl
  have D_is_table := fun_mk (st := s_is_table) l_is_table c_is_table k_is_table
  have b_is_table := D_is_table.binds (ps := P_is_table) fun _ _ _ _ _ _ us hl => match us, hl with | [_], _ => rfl
  have D_is_pair := fun_mk (st := s_is_pair) l_is_pair c_is_pair k_is_pair
  have b_is_pair := D_is_pair.binds (ps := P_is_pair) fun _ _ _ _ _ _ us hl => match us, hl with | [_], _ => rfl
  have D_table_times := fun_mk (st := s_table_times) l_table_times c_table_times k_table_times
  have b_table_times := D_table_times.binds (ps := P_table_times) fun _ _ _ _ _ _ us hl => match us, hl with | [_, _], _ => rfl
  have D_trace_of := fun_mk (st := s_trace_of) l_trace_of c_trace_of k_trace_of
  have b_trace_of := D_trace_of.binds (ps := P_trace_of) fun _ _ _ _ _ _ us hl => match us, hl with | [_], _ => rfl
  have D_traced := fun_mk (st := s_traced) l_traced c_traced k_traced
  have b_traced := D_traced.binds (ps := P_traced) fun _ _ _ _ _ _ us hl => match us, hl with | [_], _ => rfl
  have D_k_of := fun_mk (st := s_k_of) l_k_of c_k_of k_k_of
  have b_k_of := D_k_of.binds (ps := P_k_of) fun _ _ _ _ _ _ us hl => match us, hl with | [_], _ => rfl
  have D_least_row := fun_mk (st := s_least_row) l_least_row c_least_row k_least_row
  have b_least_row := D_least_row.binds (ps := P_least_row) fun _ _ _ _ _ _ us hl => match us, hl with | [_], _ => rfl
  have D_kept_column := fun_mk (st := s_kept_column) l_kept_column c_kept_column k_kept_column
  have b_kept_column := D_kept_column.binds (ps := P_kept_column) fun _ _ _ _ _ _ us hl => match us, hl with | [_], _ => rfl
  have D_line_told := fun_mk (st := s_line_told) l_line_told c_line_told k_line_told
  have b_line_told := D_line_told.binds (ps := P_line_told) fun _ _ _ _ _ _ us hl => match us, hl with | [_], _ => rfl
  have D_law_source := fun_mk (st := s_law_source) l_law_source c_law_source k_law_source
  have b_law_source := D_law_source.binds (ps := P_law_source) fun _ _ _ _ _ _ us hl => match us, hl with | [_], _ => rfl
  have D_law_pick := fun_mk (st := s_law_pick) l_law_pick c_law_pick k_law_pick
  have b_law_pick := D_law_pick.binds (ps := P_law_pick) fun _ _ _ _ _ _ us hl => match us, hl with | [_, _], _ => rfl
  have D_law_of := fun_mk (st := s_law_of) l_law_of c_law_of k_law_of
  have b_law_of := D_law_of.binds (ps := P_law_of) fun _ _ _ _ _ _ us hl => match us, hl with | [_, _], _ => rfl
  have D_law_table_times := fun_mk (st := s_law_table_times) l_law_table_times c_law_table_times k_law_table_times
  have b_law_table_times := D_law_table_times.binds (ps := P_law_table_times) fun _ _ _ _ _ _ us hl => match us, hl with | [_, _], _ => rfl
  have D_law_table_undone := fun_mk (st := s_law_table_undone) l_law_table_undone c_law_table_undone k_law_table_undone
  have b_law_table_undone := D_law_table_undone.binds (ps := P_law_table_undone) fun _ _ _ _ _ _ us hl => match us, hl with | [_], _ => rfl
  have D_law_drawn_table := fun_mk (st := s_law_drawn_table) l_law_drawn_table c_law_drawn_table k_law_drawn_table
  have b_law_drawn_table := D_law_drawn_table.binds (ps := P_law_drawn_table) fun _ _ _ _ _ _ us hl => match us, hl with | [_, _], _ => rfl
  have D_law_triple := fun_mk (st := s_law_triple) l_law_triple c_law_triple k_law_triple
  have b_law_triple := D_law_triple.binds (ps := P_law_triple) fun _ _ _ _ _ _ us hl => match us, hl with | [_, _], _ => rfl
  have D_law_k := fun_mk (st := s_law_k) l_law_k c_law_k k_law_k
  have b_law_k := D_law_k.binds (ps := P_law_k) fun _ _ _ _ _ _ us hl => match us, hl with | [_], _ => rfl
  have D_law_led := fun_mk (st := s_law_led) l_law_led c_law_led k_law_led
  have b_law_led := D_law_led.binds (ps := P_law_led) fun _ _ _ _ _ _ us hl => match us, hl with | [_, _], _ => rfl
  have D_law_column := fun_mk (st := s_law_column) l_law_column c_law_column k_law_column
  have b_law_column := D_law_column.binds (ps := P_law_column) fun _ _ _ _ _ _ us hl => match us, hl with | [_], _ => rfl
  have D_law_is_kept := fun_mk (st := s_law_is_kept) l_law_is_kept c_law_is_kept k_law_is_kept
  have b_law_is_kept := D_law_is_kept.binds (ps := P_law_is_kept) fun _ _ _ _ _ _ us hl => match us, hl with | [_, _], _ => rfl
  have D_law_pair := fun_mk (st := s_law_pair) l_law_pair c_law_pair k_law_pair
  have b_law_pair := D_law_pair.binds (ps := P_law_pair) fun _ _ _ _ _ _ us hl => match us, hl with | [_], _ => rfl
  have D_law_due := fun_mk (st := s_law_due) l_law_due c_law_due k_law_due
  have b_law_due := D_law_due.binds (ps := P_law_due) fun _ _ _ _ _ _ us hl => match us, hl with | [_, _], _ => rfl
  have D_law_is_table := fun_mk (st := s_law_is_table) l_law_is_table c_law_is_table k_law_is_table
  have b_law_is_table := D_law_is_table.binds (ps := P_law_is_table) fun _ _ _ _ _ _ us hl => match us, hl with | [_], _ => rfl
  have D_law := fun_mk (st := s_law) l_law c_law k_law
  refine ⟨PySem.W.fnOf "law" "law" (defArgs s_law) (defBody s_law) (defScope s_law) .none kV_law dc_law pm_law an_law cd_law ct_law, fun s v => .of_eq rfl, fun base _ _ => ?_⟩
  have G_is_whole : FnG l.prog w K mg base 1 f_is_whole _ P_is_whole (spD mg K 1 F_is_whole) := ok_is_whole D_is_whole (PySem.W.mg_none_of X G z_bool) (PySem.W.mg_none_of X G z_int) (PySem.W.mg_none_of X G z_isinstance)
  have G_is_table : FnG l.prog w K mg base 2 f_is_table _ P_is_table (spD mg K 1 F_is_table) := ok_is_table D_is_table (PySem.W.mg_none_of X G z_all) (PySem.W.mg_none_of X G z_isinstance) (PySem.W.mg_none_of X G z_len) (PySem.W.mg_none_of X G z_tuple) G_is_whole (PySem.W.mg_of X G a_is_whole) k_is_whole b_is_whole
  have G_is_pair : FnG l.prog w K mg base 3 f_is_pair _ P_is_pair (spD mg K 1 F_is_pair) := ok_is_pair D_is_pair (PySem.W.mg_none_of X G z_all) (PySem.W.mg_none_of X G z_isinstance) (PySem.W.mg_none_of X G z_len) (PySem.W.mg_none_of X G z_tuple) G_is_table (PySem.W.mg_of X G a_is_table) k_is_table b_is_table
  have G_table_times : FnG l.prog w K mg base 1 f_table_times _ P_table_times (spD mg K 2 F_table_times) := ok_table_times D_table_times
  have G_trace_of : FnG l.prog w K mg base 1 f_trace_of _ P_trace_of (spD mg K 1 F_trace_of) := ok_trace_of D_trace_of
  have G_traced : FnG l.prog w K mg base 2 f_traced _ P_traced (spD mg K 1 F_traced) := ok_traced D_traced G_table_times (PySem.W.mg_of X G a_table_times) k_table_times b_table_times G_trace_of (PySem.W.mg_of X G a_trace_of) k_trace_of b_trace_of
  have G_k_of : FnG l.prog w K mg base 1 f_k_of _ P_k_of (spD mg K 1 F_k_of) := ok_k_of D_k_of
  have G_least_row : FnG l.prog w K mg base 1 f_least_row _ P_least_row (spD mg K 1 F_least_row) := ok_least_row D_least_row (PySem.W.mg_none_of X G z_abs) (PySem.W.mg_none_of X G z_list) (PySem.W.mg_of X G y_gcd)
  have G_kept_column : FnG l.prog w K mg base 2 f_kept_column _ P_kept_column (spD mg K 1 F_kept_column) := ok_kept_column D_kept_column (PySem.W.mg_none_of X G z_tuple) G_least_row (PySem.W.mg_of X G a_least_row) k_least_row b_least_row
  have G_line_told : FnG l.prog w K mg base 3 f_line_told _ P_line_told (spD mg K 1 F_line_told) := ok_line_told D_line_told G_k_of (PySem.W.mg_of X G a_k_of) k_k_of b_k_of G_kept_column (PySem.W.mg_of X G a_kept_column) k_kept_column b_kept_column G_trace_of (PySem.W.mg_of X G a_trace_of) k_trace_of b_trace_of G_traced (PySem.W.mg_of X G a_traced) k_traced b_traced (PySem.W.mg_of X G y_EACH_ONE) q_EACH_ONE_0 (PySem.W.mg_of X G y_HAS_LINE)
  have G_law_source : FnG l.prog w K mg base 1 f_law_source _ P_law_source (spSrc K) := ok_law_source D_law_source (PySem.W.mg_none_of X G z_abs) (PySem.W.mg_none_of X G z_int)
  have G_law_pick : FnG l.prog w K mg base 1 f_law_pick _ P_law_pick (spD mg K 2 F_law_pick) := ok_law_pick D_law_pick (PySem.W.mg_none_of X G z_int) (PySem.W.mg_none_of X G z_len) (PySem.W.mg_none_of X G z_max)
  have G_law_of : FnG l.prog w K mg base 2 f_law_of _ P_law_of (spD mg K 2 F_law_of) := ok_law_of D_law_of (PySem.W.mg_none_of X G z_len) G_law_pick (PySem.W.mg_of X G a_law_pick) k_law_pick b_law_pick
  have G_law_table_times : FnG l.prog w K mg base 1 f_law_table_times _ P_law_table_times (spD mg K 2 F_law_table_times) := ok_law_table_times D_law_table_times
  have G_law_table_undone : FnG l.prog w K mg base 1 f_law_table_undone _ P_law_table_undone (spD mg K 1 F_law_table_undone) := ok_law_table_undone D_law_table_undone
  have G_law_drawn_table : FnG l.prog w K mg base 3 f_law_drawn_table _ P_law_drawn_table (spD mg K 2 F_law_drawn_table) := ok_law_drawn_table D_law_drawn_table (PySem.W.mg_none_of X G z_range) G_law_of (PySem.W.mg_of X G a_law_of) k_law_of b_law_of G_law_pick (PySem.W.mg_of X G a_law_pick) k_law_pick b_law_pick G_law_table_times (PySem.W.mg_of X G a_law_table_times) k_law_table_times b_law_table_times
  have G_law_triple : FnG l.prog w K mg base 2 f_law_triple _ P_law_triple (spD mg K 2 F_law_triple) := ok_law_triple D_law_triple G_law_table_times (PySem.W.mg_of X G a_law_table_times) k_law_table_times b_law_table_times
  have G_law_k : FnG l.prog w K mg base 1 f_law_k _ P_law_k (spD mg K 1 F_law_k) := ok_law_k D_law_k
  have G_law_led : FnG l.prog w K mg base 2 f_law_led _ P_law_led (spD mg K 2 F_law_led) := ok_law_led D_law_led G_law_table_times (PySem.W.mg_of X G a_law_table_times) k_law_table_times b_law_table_times G_law_table_undone (PySem.W.mg_of X G a_law_table_undone) k_law_table_undone b_law_table_undone
  have G_law_column : FnG l.prog w K mg base 1 f_law_column _ P_law_column (spD mg K 1 F_law_column) := ok_law_column D_law_column (PySem.W.mg_none_of X G z_abs) (PySem.W.mg_none_of X G z_int)
  have G_law_is_kept : FnG l.prog w K mg base 1 f_law_is_kept _ P_law_is_kept (spD mg K 2 F_law_is_kept) := ok_law_is_kept D_law_is_kept
  have G_law_pair : FnG l.prog w K mg base 4 f_law_pair _ P_law_pair (spD mg K 1 F_law_pair) := ok_law_pair D_law_pair (PySem.W.mg_none_of X G z_range) G_law_drawn_table (PySem.W.mg_of X G a_law_drawn_table) k_law_drawn_table b_law_drawn_table G_law_led (PySem.W.mg_of X G a_law_led) k_law_led b_law_led G_law_of (PySem.W.mg_of X G a_law_of) k_law_of b_law_of G_law_pick (PySem.W.mg_of X G a_law_pick) k_law_pick b_law_pick G_law_table_times (PySem.W.mg_of X G a_law_table_times) k_law_table_times b_law_table_times G_law_table_undone (PySem.W.mg_of X G a_law_table_undone) k_law_table_undone b_law_table_undone
  have G_law_due : FnG l.prog w K mg base 3 f_law_due _ P_law_due (spD mg K 2 F_law_due) := ok_law_due D_law_due (PySem.W.mg_none_of X G z_abs) G_law_column (PySem.W.mg_of X G a_law_column) k_law_column b_law_column G_law_k (PySem.W.mg_of X G a_law_k) k_law_k b_law_k G_law_triple (PySem.W.mg_of X G a_law_triple) k_law_triple b_law_triple
  have G_law_is_table : FnG l.prog w K mg base 1 f_law_is_table _ P_law_is_table (spD mg K 1 F_law_is_table) := ok_law_is_table D_law_is_table (PySem.W.mg_none_of X G z_bool) (PySem.W.mg_none_of X G z_int) (PySem.W.mg_none_of X G z_isinstance) (PySem.W.mg_none_of X G z_len) (PySem.W.mg_none_of X G z_tuple)
  exact ok_law D_law (PySem.W.mg_none_of X G z_list) (PySem.W.mg_none_of X G z_range) (PySem.W.mg_none_of X G z_repr) G_law_drawn_table (PySem.W.mg_of X G a_law_drawn_table) k_law_drawn_table b_law_drawn_table G_law_due (PySem.W.mg_of X G a_law_due) k_law_due b_law_due G_law_is_kept (PySem.W.mg_of X G a_law_is_kept) k_law_is_kept b_law_is_kept G_law_is_table (PySem.W.mg_of X G a_law_is_table) k_law_is_table b_law_is_table G_law_k (PySem.W.mg_of X G a_law_k) k_law_k b_law_k G_law_led (PySem.W.mg_of X G a_law_led) k_law_led b_law_led G_law_pair (PySem.W.mg_of X G a_law_pair) k_law_pair b_law_pair G_law_table_times (PySem.W.mg_of X G a_law_table_times) k_law_table_times b_law_table_times G_law_table_undone (PySem.W.mg_of X G a_law_table_undone) k_law_table_undone b_law_table_undone G_law_triple (PySem.W.mg_of X G a_law_triple) k_law_triple b_law_triple G_is_pair (PySem.W.mg_of X G a_is_pair) k_is_pair b_is_pair G_is_table (PySem.W.mg_of X G a_is_table) k_is_table b_is_table G_k_of (PySem.W.mg_of X G a_k_of) k_k_of b_k_of G_line_told (PySem.W.mg_of X G a_line_told) k_line_told b_line_told G_traced (PySem.W.mg_of X G a_traced) k_traced b_traced G_law_source (PySem.W.mg_of X G a_law_source) k_law_source b_law_source math
end K52
open PySem PySem.W PyProof.Rows
set_option maxHeartbeats 0 in
theorem PySem.Challenge.cw_tracetriples_k52_lines_in_common_holds : PySem.Challenge.rw_tracetriples_k52_lines_in_common.Holds := by
  w_on; o_law; k_head; (case hw => w_witness2)
  k_fill
  refine Pt.end_of (l := PySem.Challenge.rw_tracetriples_k52_lines_in_common) (n := 63) (k := 5) rfl (by decide) rfl ⟨rfl, by decide, by decide⟩ (fun w h Y => PySem.W.kIn_of Y) ?F
  case F =>
    intro w mg fa h KX G hmg
    refine' K52.all_mk KX G hmg ?a_is_whole ?l_is_whole ?c_is_whole ?k_is_whole ?a_is_table ?l_is_table ?c_is_table ?k_is_table ?a_is_pair ?l_is_pair ?c_is_pair ?k_is_pair ?a_table_times ?l_table_times ?c_table_times ?k_table_times ?a_trace_of ?l_trace_of ?c_trace_of ?k_trace_of ?a_traced ?l_traced ?c_traced ?k_traced ?a_k_of ?l_k_of ?c_k_of ?k_k_of ?a_least_row ?l_least_row ?c_least_row ?k_least_row ?a_kept_column ?l_kept_column ?c_kept_column ?k_kept_column ?a_line_told ?l_line_told ?c_line_told ?k_line_told ?a_law_source ?l_law_source ?c_law_source ?k_law_source ?a_law_pick ?l_law_pick ?c_law_pick ?k_law_pick ?a_law_of ?l_law_of ?c_law_of ?k_law_of ?a_law_table_times ?l_law_table_times ?c_law_table_times ?k_law_table_times ?a_law_table_undone ?l_law_table_undone ?c_law_table_undone ?k_law_table_undone ?a_law_drawn_table ?l_law_drawn_table ?c_law_drawn_table ?k_law_drawn_table ?a_law_triple ?l_law_triple ?c_law_triple ?k_law_triple ?a_law_k ?l_law_k ?c_law_k ?k_law_k ?a_law_led ?l_law_led ?c_law_led ?k_law_led ?a_law_column ?l_law_column ?c_law_column ?k_law_column ?a_law_is_kept ?l_law_is_kept ?c_law_is_kept ?k_law_is_kept ?a_law_pair ?l_law_pair ?c_law_pair ?k_law_pair ?a_law_due ?l_law_due ?c_law_due ?k_law_due ?a_law_is_table ?l_law_is_table ?c_law_is_table ?k_law_is_table ?a_law ?l_law ?c_law ?k_law ?z_abs ?z_all ?z_bool ?z_int ?z_isinstance ?z_len ?z_list ?z_max ?z_range ?z_repr ?z_tuple ?yl_EACH_ONE_1 ?yl_EACH_ONE_6 ?yl_EACH_ONE_0 ?y_EACH_ONE ?y_HAS_LINE ?y_gcd K52.math
    (case a_is_whole => k_is); (case l_is_whole => k_is); (case c_is_whole => k_is); (case k_is_whole => k_is); (case a_is_table => k_is); (case l_is_table => k_is); (case c_is_table => k_is); (case k_is_table => k_is); (case a_is_pair => k_is); (case l_is_pair => k_is); (case c_is_pair => k_is); (case k_is_pair => k_is); (case a_table_times => k_is); (case l_table_times => k_is); (case c_table_times => k_is); (case k_table_times => k_is); (case a_trace_of => k_is); (case l_trace_of => k_is); (case c_trace_of => k_is); (case k_trace_of => k_is); (case a_traced => k_is); (case l_traced => k_is); (case c_traced => k_is); (case k_traced => k_is); (case a_k_of => k_is); (case l_k_of => k_is); (case c_k_of => k_is); (case k_k_of => k_is); (case a_least_row => k_is); (case l_least_row => k_is); (case c_least_row => k_is); (case k_least_row => k_is); (case a_kept_column => k_is); (case l_kept_column => k_is); (case c_kept_column => k_is); (case k_kept_column => k_is); (case a_line_told => k_is); (case l_line_told => k_is); (case c_line_told => k_is); (case k_line_told => k_is); (case a_law_source => k_is); (case l_law_source => k_is); (case c_law_source => k_is); (case k_law_source => k_is); (case a_law_pick => k_is); (case l_law_pick => k_is); (case c_law_pick => k_is); (case k_law_pick => k_is); (case a_law_of => k_is); (case l_law_of => k_is); (case c_law_of => k_is); (case k_law_of => k_is); (case a_law_table_times => k_is); (case l_law_table_times => k_is); (case c_law_table_times => k_is); (case k_law_table_times => k_is); (case a_law_table_undone => k_is); (case l_law_table_undone => k_is); (case c_law_table_undone => k_is); (case k_law_table_undone => k_is); (case a_law_drawn_table => k_is); (case l_law_drawn_table => k_is); (case c_law_drawn_table => k_is); (case k_law_drawn_table => k_is); (case a_law_triple => k_is); (case l_law_triple => k_is); (case c_law_triple => k_is); (case k_law_triple => k_is); (case a_law_k => k_is); (case l_law_k => k_is); (case c_law_k => k_is); (case k_law_k => k_is); (case a_law_led => k_is); (case l_law_led => k_is); (case c_law_led => k_is); (case k_law_led => k_is); (case a_law_column => k_is); (case l_law_column => k_is); (case c_law_column => k_is); (case k_law_column => k_is); (case a_law_is_kept => k_is); (case l_law_is_kept => k_is); (case c_law_is_kept => k_is); (case k_law_is_kept => k_is); (case a_law_pair => k_is); (case l_law_pair => k_is); (case c_law_pair => k_is); (case k_law_pair => k_is); (case a_law_due => k_is); (case l_law_due => k_is); (case c_law_due => k_is); (case k_law_due => k_is); (case a_law_is_table => k_is); (case l_law_is_table => k_is); (case c_law_is_table => k_is); (case k_law_is_table => k_is); (case a_law => k_is); (case l_law => k_is); (case c_law => k_is); (case k_law => k_is); (case z_abs => k_is); (case z_all => k_is); (case z_bool => k_is); (case z_int => k_is); (case z_isinstance => k_is); (case z_len => k_is); (case z_list => k_is); (case z_max => k_is); (case z_range => k_is); (case z_repr => k_is); (case z_tuple => k_is); (case y_EACH_ONE => k_is); (case yl_EACH_ONE_0 => k_is); (case yl_EACH_ONE_1 => k_is); (case yl_EACH_ONE_6 => k_is); (case y_HAS_LINE => k_is); (case y_gcd => k_is)

