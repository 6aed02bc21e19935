import PyProof.Rows.All
import Wide.All
import OpenK.AllK
import Wide.FinOn
import HandS.ForMost
import HandS.Conv
import HandS.Evl
import HandS.SortInts
import HandS.SortKw
import HandS.DictComp
import HandS.Deep
import HandS.Zip
import HandS.TupAny
import HandS.TupMul
import HandS.TupLe
import HandS.Flow
import HandS.Style
import HandS.Wide
import HandS.EndBits
import HandS.DictTup
import KE.SortData
import KE.DataCmp
import KE.SortKeyHeap
import HandS.IsInst
import KE.KTupSum
import KE.DataMinMax
import KE.DatumMoreOrd
import KE.DatumIndex
import KE.SortCalls
import PyProof.ReprRoads
import KE.GoesNew
import KE.GoesEnum
import HandS.Small
import HandS.RaiseMore
import HandS.Flt
import KE.DatumOrd
import KE.KDictZip
import HandS.NoneIn
import PyProof.Rows.ReprOcc
import HandS.Star
import HandS.SetFor
import KE.KDictPairs
import HandS.Remove
import PyProof.NeKinds
import PySem.Challenge.RW_jobsinturn_k86_whole_spans_and_ways
set_option Elab.async false
set_option linter.all false
set_option maxRecDepth 100000
set_option maxHeartbeats 2000000
/-! DLA: data in the heap, owned trees, worlds, what a reading comes to -/
namespace DL
open PySem PySem.Spec PyProof.Rows L2
open Evl (Ex Ex.refl Ex.trans Ex.new Ex.mut)

abbrev D := PyData
def keyD : Key → D
  | .inl i => .int i
  | .inr x => .str x
def keyT (k : List Key) : D := .tuple (k.map keyD)

/-! ### data that stands in a heap -/
mutual
inductive Rp (K : PySem.W.Frag) (H : Hp) : V → D → Prop
  | non : Rp K H .non .none
  | bl (b : Bool) : Rp K H (.bl b) (.bool b)
  | int (i : Int) : Rp K H (.int i) (.int i)
  | str (x : Str) : Rp K H (.str x) (.str x)
  | lst {a xs ds} : H a = some (.lst xs) → RpAll K H xs ds → Rp K H (.ref a) (.list ds)
  | tup {a xs ds} : H a = some (.tup xs) → RpAll K H xs ds → Rp K H (.ref a) (.tuple ds)
  | dk {a} {kvs : List (Key × V)} {ds : List (D × D)} : Rd H a (.dK kvs) → RpAll K H (kvs.map (·.2)) (ds.map (·.2)) → kvs.map (fun p => keyD p.1) = ds.map (·.1) → Rp K H (.ref a) (.dict ds)
  | dt {a} {kvs : List (List Key × V)} {ds : List (D × D)} : Rd H a (.dT kvs) → RpAll K H (kvs.map (·.2)) (ds.map (·.2)) → kvs.map (fun p => keyT p.1) = ds.map (·.1) → Rp K H (.ref a) (.dict ((.none, .none) :: ds))
inductive RpAll (K : PySem.W.Frag) (H : Hp) : List V → List D → Prop
  | nil : RpAll K H [] []
  | cons {v vs d ds} : Rp K H v d → RpAll K H vs ds → RpAll K H (v :: vs) (d :: ds)
end

theorem sqt_of {K : PySem.W.Frag} {H : Hp} {a : Addr} {xs : List V} (h : H a = some (.tup xs)) : SqT K H a xs := .inl (.inl h)
section
variable {K : PySem.W.Frag} {S : Option (Addr × Addr)} {H H' : Hp}
mutual
theorem Rp.mono (e : Ex H H') : ∀ {d : D} {v : V}, Rp K H v d → Rp K H' v d
  | _, _, .non => .non
  | _, _, .bl b => .bl b
  | _, _, .int i => .int i
  | _, _, .str x => .str x
  | _, _, .lst h r => .lst (e _ _ h) (RpAll.mono e r)
  | _, _, .tup h r => .tup (e _ _ h) (RpAll.mono e r)
  | _, _, .dk h r k => .dk (Evl.ex_rd e h) (RpAll.mono e r) k
  | _, _, .dt h r k => .dt (Evl.ex_rd e h) (RpAll.mono e r) k
theorem RpAll.mono (e : Ex H H') : ∀ {ds : List D} {vs : List V}, RpAll K H vs ds → RpAll K H' vs ds
  | _, _, .nil => .nil
  | _, _, .cons h r => .cons (Rp.mono e h) (RpAll.mono e r)
end
theorem RpAll.length : ∀ {vs : List V} {ds : List D}, RpAll K H vs ds → vs.length = ds.length
  | _, _, .nil => rfl
  | _, _, .cons _ r => by simp [RpAll.length r]
theorem RpAll.get : ∀ {vs : List V} {ds : List D} {i : Nat} {v : V}, RpAll K H vs ds → vs[i]? = some v → ∃ d, ds[i]? = some d ∧ Rp K H v d
  | _, _, _, _, .nil, e => by simp at e
  | _, _, 0, _, .cons h _, e => by simp at e; subst e; exact ⟨_, rfl, h⟩
  | _, _, i + 1, _, .cons _ r, e => by simpa using RpAll.get (i := i) r (by simpa using e)
theorem RpAll.getD : ∀ {vs : List V} {ds : List D} {i : Nat} {d : D}, RpAll K H vs ds → ds[i]? = some d → ∃ v, vs[i]? = some v ∧ Rp K H v d
  | _, _, _, _, .nil, e => by simp at e
  | _, _, 0, _, .cons h _, e => by simp at e; subst e; exact ⟨_, rfl, h⟩
  | _, _, i + 1, _, .cons _ r, e => by simpa using RpAll.getD (i := i) r (by simpa using e)
theorem RpAll.append : ∀ {vs ws : List V} {ds es : List D}, RpAll K H vs ds → RpAll K H ws es → RpAll K H (vs ++ ws) (ds ++ es)
  | _, _, _, _, .nil, q => q
  | _, _, _, _, .cons h r, q => .cons h (RpAll.append r q)
theorem RpAll.take : ∀ {vs : List V} {ds : List D} (n : Nat), RpAll K H vs ds → RpAll K H (vs.take n) (ds.take n)
  | _, _, 0, _ => .nil
  | _, _, _ + 1, .nil => .nil
  | _, _, n + 1, .cons h r => .cons h (RpAll.take n r)
theorem RpAll.drop : ∀ {vs : List V} {ds : List D} (n : Nat), RpAll K H vs ds → RpAll K H (vs.drop n) (ds.drop n)
  | _, _, 0, r => r
  | _, _, _ + 1, .nil => .nil
  | _, _, n + 1, .cons _ r => RpAll.drop n r
theorem RpAll.reverse : ∀ {vs : List V} {ds : List D}, RpAll K H vs ds → RpAll K H vs.reverse ds.reverse
  | _, _, .nil => .nil
  | _, _, .cons h r => by simpa using RpAll.append (RpAll.reverse r) (.cons h .nil)
theorem RpAll.set {v : V} {d : D} (h : Rp K H v d) : ∀ {vs : List V} {ds : List D} (i : Nat), RpAll K H vs ds → RpAll K H (vs.set i v) (ds.set i d)
  | _, _, _, .nil => .nil
  | _, _, 0, .cons _ r => .cons h r
  | _, _, i + 1, .cons q r => .cons q (RpAll.set h i r)
theorem RpAll.eraseIdx : ∀ {vs : List V} {ds : List D} (i : Nat), RpAll K H vs ds → RpAll K H (vs.eraseIdx i) (ds.eraseIdx i)
  | _, _, _, .nil => .nil
  | _, _, 0, .cons _ r => r
  | _, _, i + 1, .cons q r => .cons q (RpAll.eraseIdx i r)
theorem RpAll.ints : ∀ {vs : List V} {ns : List Int}, RpAll K H vs (ns.map PyData.int) → vs = ns.map V.int
  | _, [], .nil => rfl
  | _, n :: ns, .cons h r => by cases h; rw [List.map_cons, RpAll.ints r]
theorem RpAll.bools : ∀ {vs : List V} {ns : List Bool}, RpAll K H vs (ns.map PyData.bool) → vs = ns.map V.bl
  | _, [], .nil => rfl
  | _, n :: ns, .cons h r => by cases h; rw [List.map_cons, RpAll.bools r]
theorem RpAll.of_ints : ∀ {ns : List Int}, RpAll K H (ns.map V.int) (ns.map PyData.int)
  | [] => .nil
  | n :: ns => .cons (.int n) RpAll.of_ints
theorem RpAll.pair {α : Type} {f : α → V} {g : α → D} : ∀ {xs : List α}, (∀ x ∈ xs, Rp K H (f x) (g x)) → RpAll K H (xs.map f) (xs.map g)
  | [], _ => .nil
  | x :: xs, h => .cons (h x (List.mem_cons_self ..)) (RpAll.pair fun y hy => h y (List.mem_cons_of_mem _ hy))
end

/-! ### owned trees -/
inductive O where
  | d (x : D)
  | l (xs : List O)
  | kd (kvs : List (Key × O))
  | td (kvs : List (List Key × O))
  | src
  | scr (ns : List Int)
abbrev Set' := Addr → Prop

mutual
def O.data : O → D
  | .d x => x
  | .l xs => .list (O.dataAll xs)
  | .kd kvs => .dict (O.dataK kvs)
  | .td kvs => .dict ((.none, .none) :: O.dataT kvs)
  | .src => .none
  | .scr _ => .none
def O.dataAll : List O → List D
  | [] => []
  | x :: xs => O.data x :: O.dataAll xs
def O.dataK : List (Key × O) → List (D × D)
  | [] => []
  | (key, o) :: xs => (keyD key, O.data o) :: O.dataK xs
def O.dataT : List (List Key × O) → List (D × D)
  | [] => []
  | (key, o) :: xs => (keyT key, O.data o) :: O.dataT xs
end
theorem O.dataAll_map : ∀ xs : List O, O.dataAll xs = xs.map O.data
  | [] => by simp [O.dataAll]
  | x :: xs => by simp [O.dataAll, O.dataAll_map xs]
theorem O.dataAll_d : ∀ xs : List D, O.dataAll (xs.map O.d) = xs
  | [] => by simp [O.dataAll]
  | x :: xs => by simp [O.dataAll, O.data, O.dataAll_d xs]
theorem O.data_ld (xs : List D) : O.data (.l (xs.map O.d)) = .list xs := by simp [O.data, O.dataAll_d]
theorem O.dataK_map : ∀ xs : List (Key × O), O.dataK xs = xs.map fun p => (keyD p.1, p.2.data)
  | [] => by simp [O.dataK]
  | (key, o) :: xs => by simp [O.dataK, O.dataK_map xs]
theorem O.dataT_map : ∀ xs : List (List Key × O), O.dataT xs = xs.map fun p => (keyT p.1, p.2.data)
  | [] => by simp [O.dataT]
  | (key, o) :: xs => by simp [O.dataT, O.dataT_map xs]

/-- the law's source: a dict with a list of cells, what is left, a mixed number, a turn -/
structure SrcAt (H : Hp) (p q : Addr) : Prop where
  ne : p ≠ q
  ex : ∃ (cells : List Int) (left mixed turn : Int), H q = some (.lst (cells.map V.int)) ∧
    H p = some (.dK [(.inr "cells", .ref q), (.inr "left", .int left), (.inr "mixed", .int mixed), (.inr "turn", .int turn)]) ∧
    (∀ c ∈ cells, 0 ≤ c) ∧ cells.length ≤ 63 ∧ 0 ≤ left ∧ 0 ≤ mixed ∧ mixed < 2147483648 ∧ 0 ≤ turn

/-- v is the tree o; what is owned of it stands at F, outside B; the rest stands in B -/
inductive Ow (K : PySem.W.Frag) (S : Option (Addr × Addr)) (B H : Hp) : V → O → Set' → Prop
  | d (v x F) (h : Rp K B v x) (n : ∀ a, ¬ F a) : Ow K S B H v (.d x) F
  | l (p) (its : List (V × O)) (F : Set') (Fs : Nat → Set') (hB : B p = none) (hH : H p = some (.lst (its.map (·.1)))) (ih : ∀ i x, its[i]? = some x → Ow K S B H x.1 x.2 (Fs i))
      (hd : ∀ i j a, i ≠ j → Fs i a → ¬ Fs j a) (hp : ∀ i, ¬ Fs i p) (hn : ∀ i a, Fs i a → i < its.length) (hF : ∀ a, F a ↔ a = p ∨ ∃ i, Fs i a) : Ow K S B H (.ref p) (.l (its.map (·.2))) F
  | kd (p) (its : List (Key × V × O)) (F : Set') (Fs : Nat → Set') (hB : B p = none) (hH : H p = some (.dK (its.map fun x => (x.1, x.2.1)))) (ih : ∀ i x, its[i]? = some x → Ow K S B H x.2.1 x.2.2 (Fs i))
      (hd : ∀ i j a, i ≠ j → Fs i a → ¬ Fs j a) (hp : ∀ i, ¬ Fs i p) (hn : ∀ i a, Fs i a → i < its.length) (hF : ∀ a, F a ↔ a = p ∨ ∃ i, Fs i a) : Ow K S B H (.ref p) (.kd (its.map fun x => (x.1, x.2.2))) F
  | td (p) (its : List (List Key × V × O)) (F : Set') (Fs : Nat → Set') (hB : B p = none) (hH : H p = some (.dT (its.map fun x => (x.1, x.2.1)))) (ih : ∀ i x, its[i]? = some x → Ow K S B H x.2.1 x.2.2 (Fs i))
      (hd : ∀ i j a, i ≠ j → Fs i a → ¬ Fs j a) (hp : ∀ i, ¬ Fs i p) (hn : ∀ i a, Fs i a → i < its.length) (hF : ∀ a, F a ↔ a = p ∨ ∃ i, Fs i a) : Ow K S B H (.ref p) (.td (its.map fun x => (x.1, x.2.2))) F
  | src (p q F) (hS : S = some (p, q)) (n : ∀ a, ¬ F a) : Ow K S B H (.ref p) .src F
  | scr (a) (ns : List Int) (F) (h : SqL K B a (ns.map V.int)) (n : ∀ a, ¬ F a) : Ow K S B H (.ref a) (.scr ns) F

section
variable {K : PySem.W.Frag} {S : Option (Addr × Addr)} {B B' H H' : Hp} {v : V} {o : O} {F G : Set'}
theorem SrcAt.there {p q : Addr} (s : SrcAt H p q) : H p ≠ none ∧ H q ≠ none := by
  obtain ⟨_, cells, left, mixed, turn, h1, h2, _⟩ := s
  exact ⟨by rw [h2]; simp, by rw [h1]; simp⟩
theorem SrcAt.same {p q : Addr} (s : SrcAt H p q) (hp : H' p = H p) (hq : H' q = H q) : SrcAt H' p q := by
  obtain ⟨n, cells, left, mixed, turn, h1, h2, h3⟩ := s
  exact ⟨n, cells, left, mixed, turn, by rw [hq]; exact h1, by rw [hp]; exact h2, h3⟩
/-- what is owned is there, and not in B -/
theorem Ow.there (h : Ow K S B H v o F) : ∀ a, F a → B a = none ∧ H a ≠ none := by
  induction h with
  | d v x F h n => exact fun a h => absurd h (n a)
  | l p its F Fs hB hH ih hd hp hn hF IH =>
    intro a ha
    rcases (hF a).mp ha with rfl | ⟨i, hi⟩
    · exact ⟨hB, by rw [hH]; simp⟩
    · exact IH i _ (List.getElem?_eq_getElem (hn i a hi)) a hi
  | kd p its F Fs hB hH ih hd hp hn hF IH =>
    intro a ha
    rcases (hF a).mp ha with rfl | ⟨i, hi⟩
    · exact ⟨hB, by rw [hH]; simp⟩
    · exact IH i _ (List.getElem?_eq_getElem (hn i a hi)) a hi
  | td p its F Fs hB hH ih hd hp hn hF IH =>
    intro a ha
    rcases (hF a).mp ha with rfl | ⟨i, hi⟩
    · exact ⟨hB, by rw [hH]; simp⟩
    · exact IH i _ (List.getElem?_eq_getElem (hn i a hi)) a hi
  | src p q F hS n => exact fun a h => absurd h (n a)
  | scr a ns F h n => exact fun a h => absurd h (n a)
/-- another frozen part, another heap: what is owned stays -/
theorem Ow.move (h : Ow K S B H v o F) (e : Ex B B') (nb : ∀ a, F a → B' a = none) (nh : ∀ a, F a → H' a = H a) : Ow K S B' H' v o F := by
  induction h with
  | d v x F h n => exact .d v x F (h.mono e) n
  | l p its F Fs hB hH ih hd hp hn hF IH =>
    have hFp : F p := (hF p).mpr (.inl rfl)
    exact .l p its F Fs (nb p hFp) (by rw [nh p hFp]; exact hH) (fun i x hx => IH i x hx (fun a ha => nb a ((hF a).mpr (.inr ⟨i, ha⟩))) fun a ha => nh a ((hF a).mpr (.inr ⟨i, ha⟩))) hd hp hn hF
  | kd p its F Fs hB hH ih hd hp hn hF IH =>
    have hFp : F p := (hF p).mpr (.inl rfl)
    exact .kd p its F Fs (nb p hFp) (by rw [nh p hFp]; exact hH) (fun i x hx => IH i x hx (fun a ha => nb a ((hF a).mpr (.inr ⟨i, ha⟩))) fun a ha => nh a ((hF a).mpr (.inr ⟨i, ha⟩))) hd hp hn hF
  | td p its F Fs hB hH ih hd hp hn hF IH =>
    have hFp : F p := (hF p).mpr (.inl rfl)
    exact .td p its F Fs (nb p hFp) (by rw [nh p hFp]; exact hH) (fun i x hx => IH i x hx (fun a ha => nb a ((hF a).mpr (.inr ⟨i, ha⟩))) fun a ha => nh a ((hF a).mpr (.inr ⟨i, ha⟩))) hd hp hn hF
  | src p q F hS n => exact .src p q F hS n
  | scr a ns F h n => exact .scr a ns F (Evl.ex_l e h) n
theorem Ow.ofIff (h : Ow K S B H v o F) (e : ∀ a, F a ↔ G a) : Ow K S B H v o G := by
  cases h with
  | d v x F h n => exact .d v x G h fun a ha => n a ((e a).mpr ha)
  | l p its F Fs hB hH ih hd hp hn hF => exact .l p its G Fs hB hH ih hd hp hn fun a => (e a).symm.trans (hF a)
  | kd p its F Fs hB hH ih hd hp hn hF => exact .kd p its G Fs hB hH ih hd hp hn fun a => (e a).symm.trans (hF a)
  | td p its F Fs hB hH ih hd hp hn hF => exact .td p its G Fs hB hH ih hd hp hn fun a => (e a).symm.trans (hF a)
  | src p q F hS n => exact .src p q G hS fun a ha => n a ((e a).mpr ha)
  | scr a ns F h n => exact .scr a ns G h fun a ha => n a ((e a).mpr ha)
/-- no source in it -/
inductive NoSrc : O → Prop
  | d (x) : NoSrc (.d x)
  | l (xs : List O) (h : ∀ o ∈ xs, NoSrc o) : NoSrc (.l xs)
  | kd (xs : List (Key × O)) (h : ∀ x ∈ xs, NoSrc x.2) : NoSrc (.kd xs)
  | td (xs : List (List Key × O)) (h : ∀ x ∈ xs, NoSrc x.2) : NoSrc (.td xs)
/-- all of it read in one heap -/
theorem Ow.rp (h : Ow K S B H v o F) (e : Ex B H') (ns : NoSrc o) (nh : ∀ a, F a → H' a = H a) : Rp K H' v o.data := by
  induction h with
  | d v x F h n => exact h.mono e
  | l p its F Fs hB hH ih hd hp hn hF IH =>
    cases ns with
    | l _ hs =>
    have hFp : F p := (hF p).mpr (.inl rfl)
    simp only [O.data, O.dataAll_map, List.map_map]
    refine .lst (by rw [nh p hFp]; exact hH) (RpAll.pair fun x hx => ?_)
    obtain ⟨i, hi, e⟩ := List.getElem_of_mem hx
    have q := IH i x (by rw [List.getElem?_eq_getElem hi, e]) (hs _ (List.mem_map.mpr ⟨x, hx, rfl⟩)) fun a ha => nh a ((hF a).mpr (.inr ⟨i, ha⟩))
    exact q
  | kd p its F Fs hB hH ih hd hp hn hF IH =>
    cases ns with
    | kd _ hs =>
    have hFp : F p := (hF p).mpr (.inl rfl)
    simp only [O.data, O.dataK_map, List.map_map]
    refine .dk (.inl (by rw [nh p hFp]; exact hH)) ?_ ?_
    · simp only [List.map_map]
      refine RpAll.pair fun x hx => ?_
      obtain ⟨i, hi, e⟩ := List.getElem_of_mem hx
      exact IH i x (by rw [List.getElem?_eq_getElem hi, e]) (hs _ (List.mem_map.mpr ⟨x, hx, rfl⟩)) fun a ha => nh a ((hF a).mpr (.inr ⟨i, ha⟩))
    · simp [List.map_map, Function.comp_def]
  | td p its F Fs hB hH ih hd hp hn hF IH =>
    cases ns with
    | td _ hs =>
    have hFp : F p := (hF p).mpr (.inl rfl)
    simp only [O.data, O.dataT_map, List.map_map]
    refine .dt (.inl (by rw [nh p hFp]; exact hH)) ?_ ?_
    · simp only [List.map_map]
      refine RpAll.pair fun x hx => ?_
      obtain ⟨i, hi, e⟩ := List.getElem_of_mem hx
      exact IH i x (by rw [List.getElem?_eq_getElem hi, e]) (hs _ (List.mem_map.mpr ⟨x, hx, rfl⟩)) fun a ha => nh a ((hF a).mpr (.inr ⟨i, ha⟩))
    · simp [List.map_map, Function.comp_def]
  | src p q F hS n => cases ns
  | scr a ns F h n => cases ns
end

/-! ### worlds -/
/-- the source's two places -/
def SrcM (S : Option (Addr × Addr)) (a : Addr) : Prop := ∃ p q, S = some (p, q) ∧ (a = p ∨ a = q)
structure Wd (K : PySem.W.Frag) (S : Option (Addr × Addr)) (B H : Hp) (Fr : Set') (σ : L2.St) (ρ : List (Option O)) : Prop where
  ex : Ex B H
  len : σ.length = ρ.length
  fr : ∀ a, Fr a → B a = none ∧ H a ≠ none
  src : ∀ p q, S = some (p, q) → SrcAt H p q ∧ B p = none ∧ B q = none ∧ ¬ Fr p ∧ ¬ Fr q
  own : ∃ Fs : Nat → Set', (∀ i o, ρ[i]? = some (some o) → ∃ v, σ[i]? = some (some v) ∧ Ow K S B H v o (Fs i)) ∧ (∀ i a, Fs i a → ¬ Fr a ∧ ¬ SrcM S a) ∧ ∀ i j a, i ≠ j → Fs i a → ¬ Fs j a

/-- growth: nothing is changed; what is frozen anew is new -/
structure Gr (B H B' H' : Hp) : Prop where
  b : Ex B B'
  h : Ex H H'
  sub : Ex B' H'
  new : ∀ a, B' a ≠ none → B a ≠ none ∨ H a = none
theorem Gr.refl {B H : Hp} (e : Ex B H) : Gr B H B H := ⟨Ex.refl B, Ex.refl H, e, fun _ h => .inl h⟩

theorem Gr.trans {B H B1 H1 B2 H2 : Hp} (a : Gr B H B1 H1) (b : Gr B1 H1 B2 H2) : Gr B H B2 H2 :=
  ⟨a.b.trans b.b, a.h.trans b.h, b.sub, fun x hx => by
    rcases b.new x hx with q | q
    · exact a.new x q
    · refine .inr ?_
      cases e : H x with
      | none => rfl
      | some u => rw [a.h x u e] at q; cases q⟩
theorem fresh_of {H H' : Hp} {a : Addr} (e : Ex H H') (h : H' a = none) : H a = none := Evl.fresh_back e h
theorem ex_eq {H H' : Hp} {a : Addr} (e : Ex H H') (h : H a ≠ none) : H' a = H a := by
  cases q : H a with
  | none => exact absurd q h
  | some u => exact e a u q
theorem ex_ne {H H' : Hp} {a : Addr} (e : Ex H H') (h : H a ≠ none) : H' a ≠ none := by rw [ex_eq e h]; exact h
/-- a new frozen object -/
theorem Gr.laid {B H : Hp} (e : Ex B H) {p : Addr} (u : HO) (hp : H p = none) : Gr B H (upd B p u) (upd H p u) := by
  have hb := fresh_of e hp
  refine ⟨Ex.new hb, Ex.new hp, fun a o h => ?_, fun a h => ?_⟩
  · by_cases q : a = p
    · subst q; rw [upd_same] at h ⊢; exact h
    · rw [upd_ne q] at h ⊢; exact e a o h
  · by_cases q : a = p
    · subst q; exact .inr hp
    · rw [upd_ne q] at h; exact .inl h
/-- a new object, owned -/
theorem Gr.made {B H : Hp} (e : Ex B H) {p : Addr} (u : HO) (hp : H p = none) : Gr B H B (upd H p u) :=
  ⟨Ex.refl B, Ex.new hp, e.trans (Ex.new hp), fun _ h => .inl h⟩
section
variable {K : PySem.W.Frag} {S : Option (Addr × Addr)} {B B' H H' : Hp} {Fr Fo G : Set'} {σ σ' : L2.St} {ρ ρ' : List (Option O)} {v : V} {o : O} {i : Nat}
theorem Gr.out (g : Gr B H B' H') {a : Addr} (hb : B a = none) (hh : H a ≠ none) : B' a = none := by
  cases e : B' a with
  | none => rfl
  | some u =>
    rcases g.new a (by rw [e]; simp) with q | q
    · exact absurd hb q
    · exact absurd q hh
theorem Ow.grow (h : Ow K S B H v o G) (g : Gr B H B' H') : Ow K S B' H' v o G :=
  h.move g.b (fun a ha => g.out (h.there a ha).1 (h.there a ha).2) fun a ha => ex_eq g.h (h.there a ha).2
theorem SrcAt.grow {p q : Addr} (s : SrcAt H p q) (g : Ex H H') : SrcAt H' p q := s.same (ex_eq g s.there.1) (ex_eq g s.there.2)
theorem Wd.srcThere (h : Wd K S B H Fr σ ρ) {a : Addr} (m : SrcM S a) : B a = none ∧ H a ≠ none ∧ ¬ Fr a := by
  obtain ⟨p, q, e, m⟩ := m
  obtain ⟨s, b1, b2, f1, f2⟩ := h.src p q e
  rcases m with rfl | rfl
  · exact ⟨b1, s.there.1, f1⟩
  · exact ⟨b2, s.there.2, f2⟩
theorem Wd.grow (h : Wd K S B H Fr σ ρ) (g : Gr B H B' H') : Wd K S B' H' Fr σ ρ := by
  obtain ⟨Fs, h1, h2, h3⟩ := h.own
  refine ⟨g.sub, h.len, fun a ha => ⟨g.out (h.fr a ha).1 (h.fr a ha).2, ex_ne g.h (h.fr a ha).2⟩, fun p q e => ?_, Fs, fun i o e => ?_, h2, h3⟩
  · obtain ⟨s, b1, b2, f1, f2⟩ := h.src p q e
    exact ⟨s.grow g.h, g.out b1 s.there.1, g.out b2 s.there.2, f1, f2⟩
  · obtain ⟨v, e1, q⟩ := h1 i o e
    exact ⟨v, e1, q.grow g⟩
/-- the fresh stands aside behind growth -/
theorem Wd.growAdd (h : Wd K S B H Fr σ ρ) (g : Gr B H B' H') (hG : ∀ a, G a → B' a = none ∧ H' a ≠ none) (hn : ∀ a, G a → H a = none) : Wd K S B' H' (fun a => Fr a ∨ G a) σ ρ := by
  have h' := h.grow g
  obtain ⟨Fs, h1, h2, h3⟩ := h.own
  refine ⟨h'.ex, h'.len, fun a ha => ha.elim (h'.fr a) (hG a), fun p q e => ?_, fun i a => ρ[i]? ≠ some none ∧ i < ρ.length ∧ Fs i a, fun i o e => ?_, fun i a hi => ⟨fun ha => ?_, (h2 i a hi.2.2).2⟩, fun i j a n hi hj => h3 i j a n hi.2.2 hj.2.2⟩
  · obtain ⟨s, b1, b2, f1, f2⟩ := h'.src p q e
    obtain ⟨s0, _⟩ := h.src p q e
    exact ⟨s, b1, b2, fun z => z.elim f1 fun z => s0.there.1 (hn _ z), fun z => z.elim f2 fun z => s0.there.2 (hn _ z)⟩
  · obtain ⟨v, e1, q⟩ := h1 i o e
    refine ⟨v, e1, (q.grow g).ofIff fun a => ⟨fun ha => ⟨by rw [e]; simp, (List.getElem?_eq_some_iff.mp e).1, ha⟩, fun ha => ha.2.2⟩⟩
  · obtain ⟨n1, n2, ha'⟩ := hi
    rcases ha with ha | ha
    · exact (h2 i a ha').1 ha
    · cases e : ρ[i]? with
      | none => rw [List.getElem?_eq_none_iff] at e; omega
      | some r =>
        cases r with
        | none => exact n1 e
        | some o =>
          obtain ⟨v, e1, q⟩ := h1 i o e
          exact (q.there a ha').2 (hn a ha)
theorem Wd.less (h : Wd K S B H Fr σ ρ) (s : ∀ a, G a → Fr a) : Wd K S B H G σ ρ := by
  obtain ⟨Fs, h1, h2, h3⟩ := h.own
  refine ⟨h.ex, h.len, fun a ha => h.fr a (s a ha), fun p q e => ?_, Fs, h1, fun i a hi => ⟨fun ha => (h2 i a hi).1 (s a ha), (h2 i a hi).2⟩, h3⟩
  obtain ⟨r, b1, b2, f1, f2⟩ := h.src p q e
  exact ⟨r, b1, b2, fun z => f1 (s _ z), fun z => f2 (s _ z)⟩
/-- slots forgotten -/
theorem Wd.weak (h : Wd K S B H Fr σ ρ) (hl : ρ'.length = ρ.length) (w : ∀ (i : Nat) (o : O), ρ'[i]? = some (some o) → ρ[i]? = some (some o)) : Wd K S B H Fr σ ρ' := by
  obtain ⟨Fs, h1, h2, h3⟩ := h.own
  exact ⟨h.ex, h.len.trans hl.symm, h.fr, h.src, Fs, fun i o e => h1 i o (w i o e), h2, h3⟩
/-- a slot is stored -/
theorem Wd.put (h : Wd K S B H (fun a => Fr a ∨ G a) σ ρ) (q : Ow K S B H v o G) (hd : ∀ a, G a → ¬ Fr a) (i : Nat) : Wd K S B H Fr (σ.set i (some v)) (ρ.set i (some o)) := by
  obtain ⟨Fs, h1, h2, h3⟩ := h.own
  refine ⟨h.ex, by simp [h.len], fun a ha => h.fr a (.inl ha), fun p q e => ?_, fun j a => if j = i then G a else Fs j a, fun j o' e => ?_, fun j a hj => ⟨fun ha => ?_, fun m => ?_⟩, fun j l a n hj hl => ?_⟩
  · obtain ⟨r, b1, b2, f1, f2⟩ := h.src p q e
    exact ⟨r, b1, b2, fun z => f1 (.inl z), fun z => f2 (.inl z)⟩
  · by_cases e1 : j = i
    · subst e1
      have hlt : j < ρ.length := by simpa using (List.getElem?_eq_some_iff.mp e).1
      rw [List.getElem?_set_self hlt] at e
      cases e
      refine ⟨v, List.getElem?_set_self (by rw [h.len]; exact hlt), q.ofIff fun a => ?_⟩
      simp
    · rw [List.getElem?_set_ne (Ne.symm e1)] at e
      obtain ⟨v', e2, q'⟩ := h1 j o' e
      refine ⟨v', by rw [List.getElem?_set_ne (Ne.symm e1)]; exact e2, q'.ofIff fun a => ?_⟩
      simp [e1]
  · dsimp only at hj
    split at hj
    · exact hd a hj ha
    · exact (h2 j a hj).1 (.inl ha)
  · dsimp only at hj
    split at hj
    · exact (h.srcThere m).2.2 (.inr hj)
    · exact (h2 j a hj).2 m
  · dsimp only at hj hl
    split at hj <;> split at hl
    · rename_i e1 e2; exact n (e1.trans e2.symm)
    · exact (h2 l a hl).1 (.inr hj)
    · exact (h2 j a hj).1 (.inr hl)
    · exact h3 j l a n hj hl
/-- what a slot holds -/
theorem Wd.at (h : Wd K S B H Fr σ ρ) (e : ρ[i]? = some (some o)) : ∃ v F, σ[i]? = some (some v) ∧ Ow K S B H v o F ∧ (∀ a, F a → ¬ Fr a ∧ ¬ SrcM S a) ∧ Wd K S B H (fun a => Fr a ∨ F a) σ (ρ.set i none) := by
  obtain ⟨Fs, h1, h2, h3⟩ := h.own
  obtain ⟨v, e1, q⟩ := h1 i o e
  refine ⟨v, Fs i, e1, q, h2 i, h.ex, by simp [h.len], fun a ha => ha.elim (h.fr a) (q.there a), fun p q' e' => ?_, fun j a => j ≠ i ∧ Fs j a, fun j o' e' => ?_, fun j a hj => ⟨fun ha => ?_, (h2 j a hj.2).2⟩, fun j l a n hj hl => h3 j l a n hj.2 hl.2⟩
  · obtain ⟨r, b1, b2, f1, f2⟩ := h.src p q' e'
    exact ⟨r, b1, b2, fun z => z.elim f1 fun z => (h2 i _ z).2 ⟨p, q', e', .inl rfl⟩, fun z => z.elim f2 fun z => (h2 i _ z).2 ⟨p, q', e', .inr rfl⟩⟩
  · by_cases hj : j = i
    · subst hj
      have hlt : j < ρ.length := by simpa using (List.getElem?_eq_some_iff.mp e).1
      rw [List.getElem?_set_self hlt] at e'
      cases e'
    · rw [List.getElem?_set_ne (Ne.symm hj)] at e'
      obtain ⟨v', e2, q'⟩ := h1 j o' e'
      exact ⟨v', e2, q'.ofIff fun a => ⟨fun z => ⟨hj, z⟩, fun z => z.2⟩⟩
  · rcases ha with ha | ha
    · exact (h2 j a hj.2).1 ha
    · exact h3 j i a hj.1 hj.2 ha
theorem Wd.rp (h : Wd K S B H Fr σ ρ) {x : D} (e : ρ[i]? = some (some (.d x))) : ∃ v, σ[i]? = some (some v) ∧ Rp K B v x := by
  obtain ⟨v, F, e1, q, _⟩ := h.at e
  cases q with
  | d _ _ _ r n => exact ⟨v, e1, r⟩
end

/-! ### freezing -/
section
variable {K : PySem.W.Frag} {S : Option (Addr × Addr)} {B B' H H' : Hp} {Fr Fo G F : Set'} {σ σ' : L2.St} {ρ ρ' : List (Option O)} {v : V} {o : O} {i : Nat}
open Classical in
/-- B, and what stands at F -/
noncomputable def frz (B H : Hp) (F : Set') : Hp := fun a => if F a then H a else B a
theorem frz_ex (hF : ∀ a, F a → B a = none) : Ex B (frz B H F) := fun a u e => by
  unfold frz
  rw [if_neg fun z => by rw [hF a z] at e; cases e]
  exact e
theorem frz_sub (e : Ex B H) : Ex (frz B H F) H := fun a u h => by
  unfold frz at h
  split at h
  · exact h
  · exact e a u h
theorem frz_at {a : Addr} (h : F a) : frz B H F a = H a := by unfold frz; rw [if_pos h]
theorem frz_out {a : Addr} (h : ¬ F a) : frz B H F a = B a := by unfold frz; rw [if_neg h]
/-- what is owned, frozen -/
theorem Ow.frz (h : Ow K S B H v o F) (ns : NoSrc o) : Rp K (DL.frz B H F) v o.data :=
  h.rp (frz_ex fun a ha => (h.there a ha).1) ns fun a ha => frz_at ha
theorem Wd.frz (h : Wd K S B H (fun a => Fr a ∨ F a) σ ρ) (hd : ∀ a, F a → ¬ Fr a) : Wd K S (DL.frz B H F) H Fr σ ρ := by
  obtain ⟨Fs, h1, h2, h3⟩ := h.own
  refine ⟨frz_sub h.ex, h.len, fun a ha => ⟨by rw [frz_out fun z => hd a z ha]; exact (h.fr a (.inl ha)).1, (h.fr a (.inl ha)).2⟩, fun p q e => ?_, Fs, fun j o' e => ?_, fun j a hj => ⟨fun ha => (h2 j a hj).1 (.inl ha), (h2 j a hj).2⟩, h3⟩
  · obtain ⟨r, b1, b2, f1, f2⟩ := h.src p q e
    exact ⟨r, by rw [frz_out fun z => f1 (.inr z)]; exact b1, by rw [frz_out fun z => f2 (.inr z)]; exact b2, fun z => f1 (.inl z), fun z => f2 (.inl z)⟩
  · obtain ⟨v', e2, q⟩ := h1 j o' e
    exact ⟨v', e2, q.move (frz_ex fun a ha => (h.fr a (.inr ha)).1) (fun a ha => by rw [frz_out fun z => (h2 j a ha).1 (.inr z)]; exact (q.there a ha).1) fun _ _ => rfl⟩
/-- the slot i frozen -/
theorem Wd.frzAt (h : Wd K S B H Fr σ ρ) (e : ρ[i]? = some (some o)) (ns : NoSrc o) : ∃ v F, σ[i]? = some (some v) ∧ Ow K S B H v o F ∧ (∀ a, F a → ¬ Fr a ∧ ¬ SrcM S a) ∧ Wd K S (DL.frz B H F) H Fr σ (ρ.set i (some (.d o.data))) := by
  obtain ⟨v, F, e1, q, nF, w⟩ := h.at e
  refine ⟨v, F, e1, q, nF, ?_⟩
  have w2 := w.frz fun a ha => (nF a ha).1
  have w3 : Wd K S (DL.frz B H F) H (fun a => Fr a ∨ False) σ (ρ.set i none) := w2.less fun a ha => ha.elim id fun z => z.elim
  have w4 := w3.put (v := v) (o := .d o.data) (.d v _ _ (q.frz ns) fun a z => z) (fun _ z => z.elim) i
  have e3 : σ.set i (some v) = σ := by
    apply List.ext_getElem?
    intro j
    by_cases hj : j = i
    · subst hj
      rw [List.getElem?_set_self (List.getElem?_eq_some_iff.mp e1).1, e1]
    · rw [List.getElem?_set_ne (Ne.symm hj)]
  rw [e3, List.set_set] at w4
  exact w4
end
end DL

set_option Elab.async false
set_option linter.all false
set_option maxRecDepth 100000
set_option maxHeartbeats 2000000
/-! DLB: what readings come to -/
namespace DL
open PySem PySem.Spec PyProof.Rows L2
open Evl (Ex Ex.refl Ex.trans Ex.new Ex.mut)

/-! ### immutable data -/
mutual
def Im : D → Prop
  | .none | .bool _ | .int _ | .str _ => True
  | .tuple xs => ImAll xs
  | .list _ | .dict _ => False
def ImAll : List D → Prop
  | [] => True
  | x :: xs => Im x ∧ ImAll xs
end
theorem imAll_iff : ∀ {xs : List D}, ImAll xs ↔ ∀ x ∈ xs, Im x
  | [] => by simp [ImAll]
  | x :: xs => by simp [ImAll, imAll_iff (xs := xs)]
@[simp] theorem im_int (i : Int) : Im (.int i) := by simp [Im]
@[simp] theorem im_bool (i : Bool) : Im (.bool i) := by simp [Im]
@[simp] theorem im_str (i : Str) : Im (.str i) := by simp [Im]
@[simp] theorem im_none : Im .none := by simp [Im]
@[simp] theorem im_tuple (xs : List D) : Im (.tuple xs) ↔ ∀ x ∈ xs, Im x := by simp [Im, imAll_iff]
/-- all leaves immutable, no source -/
inductive OIm : O → Prop
  | d (x) (h : Im x) : OIm (.d x)
  | l (xs : List O) (h : ∀ o ∈ xs, OIm o) : OIm (.l xs)
  | kd (xs : List (Key × O)) (h : ∀ x ∈ xs, OIm x.2) : OIm (.kd xs)
  | td (xs : List (List Key × O)) (h : ∀ x ∈ xs, OIm x.2) : OIm (.td xs)
theorem OIm.noSrc {o : O} (h : OIm o) : NoSrc o := by
  induction h with
  | d x h => exact .d x
  | l xs h ih => exact .l xs ih
  | kd xs h ih => exact .kd xs ih
  | td xs h ih => exact .td xs ih
section
variable {K : PySem.W.Frag} {S : Option (Addr × Addr)} {B B' H H' : Hp} {v : V} {o : O} {F : Set'}
/-- the tuples of B stand in B' -/
def Tu (B B' : Hp) : Prop := ∀ a xs, (B a = some (.tup xs) → B' a = some (.tup xs)) ∧ ∀ o, B a = some (.frz o (.tup xs)) → B' a = some (.frz o (.tup xs))
theorem sqt_tu {a : Addr} {xs : List V} (t : Tu B B') (h : SqT K B a xs) : SqT K B' a xs := by
  rcases h with (h | ⟨o, h⟩) | h
  · exact .inl (.inl ((t a xs).1 h))
  · exact .inl (.inr ⟨o, (t a xs).2 o h⟩)
  · exact .inr h
mutual
theorem Rp.tu (t : Tu B B') : ∀ {d : D} {v : V}, Rp K B v d → Im d → Rp K B' v d
  | _, _, .non, _ => .non
  | _, _, .bl b, _ => .bl b
  | _, _, .int i, _ => .int i
  | _, _, .str x, _ => .str x
  | _, _, .lst h r, m => by simp [Im] at m
  | _, _, .tup h r, m => .tup ((t _ _).1 h) (RpAll.tu t r (by simpa [Im] using m))
  | _, _, .dk h r k, m => by simp [Im] at m
  | _, _, .dt h r k, m => by simp [Im] at m
theorem RpAll.tu (t : Tu B B') : ∀ {ds : List D} {vs : List V}, RpAll K B vs ds → ImAll ds → RpAll K B' vs ds
  | _, _, .nil, _ => .nil
  | _, _, .cons h r, m => .cons (Rp.tu t h (by simp only [ImAll] at m; exact m.1)) (RpAll.tu t r (by simp only [ImAll] at m; exact m.2))
end
theorem Ow.tu (t : Tu B B') (h : Ow K S B H v o F) (m : OIm o) (nb : ∀ a, F a → B' a = none) : Ow K S B' H v o F := by
  induction h with
  | d v x F h n => cases m with | d _ m => exact .d v x F (h.tu t m) n
  | l p its F Fs hB hH ih hd hp hn hF IH =>
    cases m with | l _ m =>
    exact .l p its F Fs (nb p ((hF p).mpr (.inl rfl))) hH (fun i x e => IH i x e (m _ (List.mem_map.mpr ⟨x, List.mem_of_getElem? e, rfl⟩)) fun a ha => nb a ((hF a).mpr (.inr ⟨i, ha⟩))) hd hp hn hF
  | kd p its F Fs hB hH ih hd hp hn hF IH =>
    cases m with | kd _ m =>
    exact .kd p its F Fs (nb p ((hF p).mpr (.inl rfl))) hH (fun i x e => IH i x e (m _ (List.mem_map.mpr ⟨x, List.mem_of_getElem? e, rfl⟩)) fun a ha => nb a ((hF a).mpr (.inr ⟨i, ha⟩))) hd hp hn hF
  | td p its F Fs hB hH ih hd hp hn hF IH =>
    cases m with | td _ m =>
    exact .td p its F Fs (nb p ((hF p).mpr (.inl rfl))) hH (fun i x e => IH i x e (m _ (List.mem_map.mpr ⟨x, List.mem_of_getElem? e, rfl⟩)) fun a ha => nb a ((hF a).mpr (.inr ⟨i, ha⟩))) hd hp hn hF
  | src p q F hS n => cases m
  | scr a ns F h n => cases m
/-- at what is owned no tuple stands -/
theorem Ow.noTup (h : Ow K S B H v o F) : ∀ a, F a → ∀ xs, H a ≠ some (.tup xs) ∧ ∀ ob, H a ≠ some (.frz ob (.tup xs)) := by
  induction h with
  | d v x F h n => exact fun a h => absurd h (n a)
  | l p its F Fs hB hH ih hd hp hn hF IH =>
    intro a ha xs
    rcases (hF a).mp ha with rfl | ⟨i, hi⟩
    · exact ⟨by rw [hH]; simp, fun ob => by rw [hH]; simp⟩
    · exact IH i _ (List.getElem?_eq_getElem (hn i a hi)) a hi xs
  | kd p its F Fs hB hH ih hd hp hn hF IH =>
    intro a ha xs
    rcases (hF a).mp ha with rfl | ⟨i, hi⟩
    · exact ⟨by rw [hH]; simp, fun ob => by rw [hH]; simp⟩
    · exact IH i _ (List.getElem?_eq_getElem (hn i a hi)) a hi xs
  | td p its F Fs hB hH ih hd hp hn hF IH =>
    intro a ha xs
    rcases (hF a).mp ha with rfl | ⟨i, hi⟩
    · exact ⟨by rw [hH]; simp, fun ob => by rw [hH]; simp⟩
    · exact IH i _ (List.getElem?_eq_getElem (hn i a hi)) a hi xs
  | src p q F hS n => exact fun a h => absurd h (n a)
  | scr a ns F h n => exact fun a h => absurd h (n a)
end

abbrev Env := List (Option O)
section
variable {K : PySem.W.Frag} {S : Option (Addr × Addr)}
/-! ### pure readings -/
def EvO (K : PySem.W.Frag) (S : Option (Addr × Addr)) (te : TE) (ρ : Env) (o : O) : Prop := ∀ (B H : Hp) (Fr : Set') (σ : L2.St) (R : VK), Wd K S B H Fr σ ρ →
  (∀ v F B' H', Gr B H B' H' → Ow K S B' H' v o F → (∀ a, F a → H a = none) → R v H') → te σ H R
abbrev EvD (K : PySem.W.Frag) (S : Option (Addr × Addr)) (te : TE) (ρ : Env) (d : D) : Prop := EvO K S te ρ (.d d)
def EvT (K : PySem.W.Frag) (S : Option (Addr × Addr)) (tt : TT) (ρ : Env) (b : Bool) : Prop := ∀ (B H : Hp) (Fr : Set') (σ : L2.St) (R : Bool → Hp → Prop), Wd K S B H Fr σ ρ → (∀ B' H', Gr B H B' H' → R b H') → tt σ H R
def EvA (K : PySem.W.Frag) (S : Option (Addr × Addr)) (ta : TA) (ρ : Env) (ds : List D) : Prop := ∀ (B H : Hp) (Fr : Set') (σ : L2.St) (R : List V → Hp → Prop), Wd K S B H Fr σ ρ →
  (∀ vs B' H', Gr B H B' H' → RpAll K B' vs ds → R vs H') → ta σ H R
theorem EvD.use {te : TE} {ρ : Env} {d : D} (h : EvD K S te ρ d) {B H : Hp} {Fr : Set'} {σ : L2.St} {R : VK} (w : Wd K S B H Fr σ ρ)
    (k : ∀ v B' H', Gr B H B' H' → Rp K B' v d → R v H') : te σ H R :=
  h B H Fr σ R w fun v F B' H' g q _ => by cases q with | d _ _ _ r n => exact k v B' H' g r
theorem EvD.mk {te : TE} {ρ : Env} {d : D} (h : ∀ (B H : Hp) (Fr : Set') (σ : L2.St) (R : VK), Wd K S B H Fr σ ρ → (∀ v B' H', Gr B H B' H' → Rp K B' v d → R v H') → te σ H R) : EvD K S te ρ d :=
  fun B H Fr σ R w k => h B H Fr σ R w fun v B' H' g r => k v (fun _ => False) B' H' g (.d v d _ r fun _ z => z) fun _ z => z.elim
variable {ρ ρ' : Env} {ta tb te : TE} {tt tu : TT} {o : O} {x y z d : D} {i : Nat}
theorem ev_var (h : ρ[i]? = some (some (.d d))) : EvD K S (tVar i) ρ d := .mk fun B H Fr σ R w k => by
  obtain ⟨v, e, r⟩ := w.rp h
  exact ⟨v, e, k v B H (Gr.refl w.ex) r⟩
theorem ev_c {v : V} (h : ∀ B, Rp K B v d) : EvD K S (tC v) ρ d := .mk fun B H Fr σ R w k => k v B H (Gr.refl w.ex) (h B)
theorem ev_int {n : Int} : EvD K S (tC (.int n)) ρ (.int n) := ev_c fun _ => .int n
theorem ev_bl {b : Bool} : EvD K S (tC (.bl b)) ρ (.bool b) := ev_c fun _ => .bl b
theorem ev_non : EvD K S (tC .non) ρ .none := ev_c fun _ => .non
theorem ev_str {s : Str} : EvD K S (tC (.str s)) ρ (.str s) := ev_c fun _ => .str s
theorem ev_is (h : EvO K S te ρ o) {o' : O} (e : o = o') : EvO K S te ρ o' := e ▸ h
/-- what is made, frozen -/
theorem ev_frz (h : EvO K S te ρ o) (ns : NoSrc o) : EvD K S te ρ o.data := .mk fun B H Fr σ R w k => by
  refine h B H Fr σ R w fun v F B' H' g q n => k v (frz B' H' F) H' ?_ (q.frz ns)
  refine ⟨g.b.trans (frz_ex fun a ha => (q.there a ha).1), g.h, frz_sub g.sub, fun a ha => ?_⟩
  by_cases z : F a
  · exact .inr (n a z)
  · rw [frz_out z] at ha
    exact g.new a ha
theorem ev_frzL {ds : List D} (h : EvO K S te ρ (.l (ds.map O.d))) : EvD K S te ρ (.list ds) := by
  have := ev_frz h (.l _ fun o ho => by obtain ⟨d, _, rfl⟩ := List.mem_map.mp ho; exact .d d)
  rw [O.data_ld] at this
  exact this
/-- a slot's tree read as data, where the result leans on no list -/
theorem ev_bor (i : Nat) {o' : O} (h : ρ[i]? = some (some o')) (ns : NoSrc o') (im : OIm o) (e : EvO K S te (ρ.set i (some (.d o'.data))) o) : EvO K S te ρ o := fun B H Fr σ R w k => by
  obtain ⟨vi, Fi, _, qi, _, w2⟩ := w.frzAt h ns
  have hF := qi.there
  refine e _ H Fr σ R w2 fun v F B' H' g q n => ?_
  -- without the slot's own
  refine k v F (fun a => if B a = none ∧ H a ≠ none then none else B' a) H' ⟨fun a u ha => ?_, g.h, fun a u ha => ?_, fun a ha => ?_⟩ ?_ n
  · rw [if_neg (by rw [ha]; simp)]
    exact g.b a u (frz_ex (fun a ha => (hF a ha).1) a u ha)
  · split at ha
    · cases ha
    · exact g.sub a u ha
  · split at ha
    · exact absurd rfl ha
    · rename_i z
      by_cases hb : B a = none
      · refine .inr ?_
        cases e : H a with
        | none => rfl
        | some u => exact absurd ⟨hb, by rw [e]; simp⟩ z
      · exact .inl hb
  · refine q.tu ?_ im fun a ha => ?_
    · have key : ∀ a, B a = none ∧ H a ≠ none → B' a ≠ none → Fi a ∧ B' a = H a := fun a ha hb => by
        have hfi : Fi a := by
          rcases g.new a hb with z | z
          · by_cases y : Fi a
            · exact y
            · rw [frz_out y] at z; exact absurd ha.1 z
          · exact absurd z ha.2
        refine ⟨hfi, ?_⟩
        have e1 : frz B H Fi a ≠ none := by rw [frz_at hfi]; exact ha.2
        rw [ex_eq g.b e1, frz_at hfi]
      refine fun a xs => ⟨fun hb => ?_, fun ob hb => ?_⟩
      · dsimp only
        rw [if_neg fun z => ?_]
        · exact hb
        · obtain ⟨hfi, e1⟩ := key a z (by rw [hb]; simp)
          exact (qi.noTup a hfi xs).1 (e1 ▸ hb)
      · dsimp only
        rw [if_neg fun z => ?_]
        · exact hb
        · obtain ⟨hfi, e1⟩ := key a z (by rw [hb]; simp)
          exact (qi.noTup a hfi xs).2 ob (e1 ▸ hb)
    · split
      · rfl
      · exact (q.there a ha).1

/-! ### tests -/
theorem et_tB {b : Bool} (h : EvD K S te ρ (.bool b)) : EvT K S (tB te) ρ b := fun B H Fr σ R w k => h.use w fun v B' H' g r => by cases r; exact ⟨b, rfl, k B' H' g⟩
theorem et_test {b : Bool} (h : EvD K S te ρ (.bool b)) : EvT K S (tTest te) ρ b := fun B H Fr σ R w k => h.use w fun v B' H' g r => by cases r; exact ⟨b, rfl, k B' H' g⟩
theorem et_and {a b : Bool} (h1 : EvT K S tt ρ a) (h2 : a = true → EvT K S tu ρ b) : EvT K S (tAnd tt tu) ρ (a && b) := fun B H Fr σ R w k => h1 B H Fr σ _ w fun B1 H1 g1 => by
  cases a with
  | true => exact h2 rfl B1 H1 Fr σ R (w.grow g1) fun B2 H2 g2 => k B2 H2 (g1.trans g2)
  | false => exact k B1 H1 g1
theorem et_or {a b : Bool} (h1 : EvT K S tt ρ a) (h2 : a = false → EvT K S tu ρ b) : EvT K S (tOr tt tu) ρ (a || b) := fun B H Fr σ R w k => h1 B H Fr σ _ w fun B1 H1 g1 => by
  cases a with
  | true => exact k B1 H1 g1
  | false => exact h2 rfl B1 H1 Fr σ R (w.grow g1) fun B2 H2 g2 => k B2 H2 (g1.trans g2)
theorem et_not {a : Bool} (h1 : EvT K S tt ρ a) : EvT K S (tNot tt) ρ (!a) := fun B H Fr σ R w k => h1 B H Fr σ _ w fun B1 H1 g1 => k B1 H1 g1
theorem et_is {a b : Bool} (h : EvT K S tt ρ a) (e : a = b) : EvT K S tt ρ b := e ▸ h
theorem et_yes : EvT K S tYes ρ true := fun B H Fr σ R w k => k B H (Gr.refl w.ex)
theorem ev_andV {a b : Bool} (h1 : EvD K S ta ρ (.bool a)) (h2 : a = true → EvD K S tb ρ (.bool b)) : EvD K S (tAndV ta tb) ρ (.bool (a && b)) := .mk fun B H Fr σ R w k => h1.use w fun v B1 H1 g1 r1 => by
  cases r1
  refine ⟨a, rfl, ?_⟩
  cases a with
  | true => exact (h2 rfl).use (w.grow g1) fun v B2 H2 g2 r2 => k v B2 H2 (g1.trans g2) r2
  | false => exact k _ B1 H1 g1 (.bl false)
theorem ev_orV {a b : Bool} (h1 : EvD K S ta ρ (.bool a)) (h2 : a = false → EvD K S tb ρ (.bool b)) : EvD K S (tOrV ta tb) ρ (.bool (a || b)) := .mk fun B H Fr σ R w k => h1.use w fun v B1 H1 g1 r1 => by
  cases r1
  refine ⟨a, rfl, ?_⟩
  cases a with
  | true => exact k _ B1 H1 g1 (.bl true)
  | false => exact (h2 rfl).use (w.grow g1) fun v B2 H2 g2 r2 => k v B2 H2 (g1.trans g2) r2
theorem ev_notV {a : Bool} (h1 : EvD K S ta ρ (.bool a)) : EvD K S (tNotV ta) ρ (.bool (!a)) := .mk fun B H Fr σ R w k => h1.use w fun v B1 H1 g1 r1 => by
  cases r1
  exact ⟨a, rfl, k _ B1 H1 g1 (.bl _)⟩
theorem ev_if {b : Bool} (h : EvT K S tt ρ b) (h1 : b = true → EvO K S ta ρ o) (h2 : b = false → EvO K S tb ρ o) : EvO K S (tIf tt ta tb) ρ o := fun B H Fr σ R w k => h B H Fr σ _ w fun B1 H1 g1 => by
  cases b with
  | true => exact h1 rfl B1 H1 Fr σ R (w.grow g1) fun v F B2 H2 g2 q n => k v F B2 H2 (g1.trans g2) q fun a ha => fresh_of g1.h (n a ha)
  | false => exact h2 rfl B1 H1 Fr σ R (w.grow g1) fun v F B2 H2 g2 q n => k v F B2 H2 (g1.trans g2) q fun a ha => fresh_of g1.h (n a ha)
/-! ### arguments, displays -/
theorem ea_nil : EvA K S tNil ρ [] := fun B H Fr σ R w k => k [] B H (Gr.refl w.ex) .nil
theorem ea_cons {tr : TA} {ds : List D} (h : EvD K S ta ρ d) (hr : EvA K S tr ρ ds) : EvA K S (tCons ta tr) ρ (d :: ds) := fun B H Fr σ R w k =>
  h.use w fun v B1 H1 g1 r1 => hr B1 H1 Fr σ _ (w.grow g1) fun vs B2 H2 g2 r2 => k (v :: vs) B2 H2 (g1.trans g2) (.cons (r1.mono g2.b) r2)
theorem ev_tup {tr : TA} {ds : List D} (h : EvA K S tr ρ ds) (hl : ds.length ≤ sizeLine := by first | decide | simp [sizeLine_eq]) : EvD K S (tTup tr) ρ (.tuple ds) := .mk fun B H Fr σ R w k =>
  h B H Fr σ _ w fun vs B1 H1 g1 r => ⟨by rw [r.length]; exact hl, fun p hp => k _ (upd B1 p (.tup vs)) _ (g1.trans (Gr.laid g1.sub _ hp)) (.tup upd_same (r.mono (Ex.new (fresh_of g1.sub hp))))⟩
/-- a new list of frozen items, owned -/
theorem Ow.newList {B H : Hp} {p : Addr} {vs : List V} {ds : List D} (hB : B p = none) (hH : H p = some (.lst vs)) (r : RpAll K B vs ds) : Ow K S B H (.ref p) (.l (ds.map O.d)) fun a => a = p := by
  have hl := r.length
  have e1 : ((vs.zip ds).map fun x => (x.1, O.d x.2)).map (fun x : V × O => x.1) = vs := by
    rw [List.map_map]
    exact (show List.map (fun x : V × D => x.1) (vs.zip ds) = vs from List.map_fst_zip (by omega))
  have e2 : ((vs.zip ds).map fun x => (x.1, O.d x.2)).map (fun x : V × O => x.2) = ds.map O.d := by
    rw [List.map_map]
    have : ((vs.zip ds).map fun x => O.d x.2) = ((vs.zip ds).map (·.2)).map O.d := by rw [List.map_map]; rfl
    exact (show (vs.zip ds).map (fun x => O.d x.2) = ds.map O.d from this.trans (by rw [List.map_snd_zip (by omega)]))
  have key := Ow.l (K := K) (S := S) (B := B) (H := H) p ((vs.zip ds).map fun x => (x.1, O.d x.2)) (fun a => a = p) (fun _ _ => False) hB (by rw [e1]; exact hH) (fun i x hx => ?_) (fun _ _ _ _ z => z.elim) (fun _ z => z) (fun _ _ z => z.elim) (fun a => ⟨.inl, fun z => z.elim id fun ⟨_, z⟩ => z.elim⟩)
  · rw [e2] at key
    exact key
  · rw [List.getElem?_map] at hx
    obtain ⟨y, hy, rfl⟩ := Option.map_eq_some_iff.mp hx
    rw [List.getElem?_zip_eq_some] at hy
    obtain ⟨d, hd, q⟩ := r.get hy.1
    rw [hy.2] at hd
    cases hd
    exact .d _ _ _ q fun _ z => z
theorem ev_lst {tr : TA} {ds : List D} (h : EvA K S tr ρ ds) (hl : ds.length ≤ sizeLine := by first | decide | simp [sizeLine_eq]) : EvO K S (tLst tr) ρ (.l (ds.map O.d)) := fun B H Fr σ R w k =>
  h B H Fr σ _ w fun vs B1 H1 g1 r => ⟨by rw [r.length]; exact hl, fun p hp =>
    k _ (fun a => a = p) B1 _ (g1.trans (Gr.made g1.sub _ hp)) (Ow.newList (fresh_of g1.sub hp) upd_same r) fun a e => e ▸ fresh_of g1.h hp⟩
/-! ### operations by values -/
/-- a new result from values that stand in B -/
abbrev Res (K : PySem.W.Frag) (S : Option (Addr × Addr)) (B H : Hp) (o : O) (R : VK) : Prop := ∀ v F B' H', Gr B H B' H' → Ow K S B' H' v o F → (∀ a, F a → H a = none) → R v H'
theorem Res.val {B H : Hp} {R : VK} {v : V} (k : Res K S B H (.d d) R) (e : Ex B H) (r : Rp K B v d) : R v H := k v (fun _ => False) B H (Gr.refl e) (.d _ _ _ r fun _ z => z) fun _ z => z.elim
theorem Res.tup {B H : Hp} {R : VK} {vs : List V} {ds : List D} (k : Res K S B H (.d (.tuple ds)) R) (e : Ex B H) (r : RpAll K B vs ds) : ∀ p, H p = none → R (.ref p) (upd H p (.tup vs)) := fun p hp =>
  k _ (fun _ => False) (upd B p (.tup vs)) _ (Gr.laid e _ hp) (.d _ _ _ (.tup upd_same (r.mono (Ex.new (fresh_of e hp)))) fun _ z => z) fun _ z => z.elim
theorem Res.lst {B H : Hp} {R : VK} {vs : List V} {ds : List D} (k : Res K S B H (.l (ds.map O.d)) R) (e : Ex B H) (r : RpAll K B vs ds) : ∀ p, H p = none → R (.ref p) (upd H p (.lst vs)) := fun p hp =>
  k _ (fun a => a = p) B _ (Gr.made e _ hp) (Ow.newList (fresh_of e hp) upd_same r) fun a z => z ▸ hp
def R2D (K : PySem.W.Frag) (S : Option (Addr × Addr)) (r : R2) (x y : D) (o : O) : Prop := ∀ (B H : Hp) (v u : V) (R : VK), Ex B H → Rp K B v x → Rp K B u y → Res K S B H o R → r v u H R
def R1D (K : PySem.W.Frag) (S : Option (Addr × Addr)) (r : V → Hp → VK → Prop) (x : D) (o : O) : Prop := ∀ (B H : Hp) (v : V) (R : VK), Ex B H → Rp K B v x → Res K S B H o R → r v H R
def RcD (K : PySem.W.Frag) (S : Option (Addr × Addr)) (r : List V → Hp → VK → Prop) (xs : List D) (o : O) : Prop := ∀ (B H : Hp) (vs : List V) (R : VK), Ex B H → RpAll K B vs xs → Res K S B H o R → r vs H R
theorem Res.after {B H B1 H1 : Hp} {R : VK} (k : Res K S B H o R) (g : Gr B H B1 H1) : Res K S B1 H1 o R := fun v F B' H' g2 q n => k v F B' H' (g.trans g2) q fun a ha => fresh_of g.h (n a ha)
theorem ev_op {r : R2} (ha : EvD K S ta ρ x) (hb : EvD K S tb ρ y) (hr : R2D K S r x y o) : EvO K S (tOp r ta tb) ρ o := fun B H Fr σ R w k =>
  ha.use w fun v B1 H1 g1 r1 => hb.use (w.grow g1) fun u B2 H2 g2 r2 => hr B2 H2 v u R g2.sub (r1.mono g2.b) r2 (Res.after k (g1.trans g2))
theorem ev_un {r : V → Hp → VK → Prop} (ha : EvD K S ta ρ x) (hr : R1D K S r x o) : EvO K S (tUn r ta) ρ o := fun B H Fr σ R w k =>
  ha.use w fun v B1 H1 g1 r1 => hr B1 H1 v R g1.sub r1 (Res.after k g1)
theorem ev_then {r : V → Hp → VK → Prop} (ha : EvD K S ta ρ x) (hr : R1D K S r x o) : EvO K S (tThen ta r) ρ o := fun B H Fr σ R w k =>
  ha.use w fun v B1 H1 g1 r1 => hr B1 H1 v R g1.sub r1 (Res.after k g1)
theorem ev_cb {r : List V → Hp → VK → Prop} {tr : TA} {ds : List D} (ha : EvA K S tr ρ ds) (hr : RcD K S r ds o) : EvO K S (tCB r tr) ρ o := fun B H Fr σ R w k =>
  ha B H Fr σ _ w fun vs B1 H1 g1 r1 => hr B1 H1 vs R g1.sub r1 (Res.after k g1)
theorem ev_chain {r r' : R2} {tc : TE} {a b : Bool} (ha : EvD K S ta ρ x) (hb : EvD K S tb ρ y) (h1 : R2D K S r x y (.d (.bool a))) (hc : a = true → EvD K S tc ρ z) (h2 : a = true → R2D K S r' y z (.d (.bool b))) : EvD K S (tChain r r' ta tb tc) ρ (.bool (a && b)) := .mk fun B H Fr σ R w k =>
  ha.use w fun v B1 H1 g1 r1 => hb.use (w.grow g1) fun u B2 H2 g2 r2 => h1 B2 H2 v u _ g2.sub (r1.mono g2.b) r2 fun c F B3 H3 g3 q3 _ => by
    cases q3 with
    | d _ _ _ rc _ =>
      cases rc
      refine ⟨a, rfl, ?_⟩
      cases a with
      | true =>
        refine (hc rfl).use (w.grow ((g1.trans g2).trans g3)) fun t B4 H4 g4 r4 => h2 rfl B4 H4 u t _ g4.sub (r2.mono (g3.b.trans g4.b)) r4 fun c2 F2 B5 H5 g5 q5 _ => ?_
        cases q5 with
        | d _ _ _ rc2 _ =>
          cases rc2
          exact k _ B5 H5 ((((g1.trans g2).trans g3).trans g4).trans g5) (.bl _)
      | false => exact k _ B3 H3 ((g1.trans g2).trans g3) (.bl false)
end
/-! ### the operations -/
section
variable {K : PySem.W.Frag} {S : Option (Addr × Addr)}
theorem r2_I0 {g : Int → Int → V} {f : Int → Int → D} (h : ∀ i j B, Rp K B (g i j) (f i j)) {i j : Int} : R2D K S (rI0 g) (.int i) (.int j) (.d (f i j)) := fun B H v u R e r1 r2 k => by
  cases r1; cases r2; exact ⟨i, j, rfl, rfl, k.val e (h i j B)⟩
theorem r2_I {C : Int → Int → Prop} {g : Int → Int → V} {f : Int → Int → D} (h : ∀ i j B, Rp K B (g i j) (f i j)) {i j : Int} (c : C i j) : R2D K S (rI C g) (.int i) (.int j) (.d (f i j)) := fun B H v u R e r1 r2 k => by
  cases r1; cases r2; exact ⟨i, j, rfl, rfl, c, k.val e (h i j B)⟩
end
end DL

set_option Elab.async false
set_option linter.all false
set_option maxRecDepth 100000
set_option maxHeartbeats 2000000
/-! DLC: operations that take data of every kind -/
namespace DL
open PySem PySem.Spec PyProof.Rows L2
open Evl (Ex Ex.refl Ex.trans Ex.new Ex.mut)

section
variable {K : PySem.W.Frag} {H : Hp}
mutual
theorem Rp.dp : ∀ {d : D} {v : V}, Rp K H v d → d.canLay0 = true → Dp K H v d
  | _, _, .non, _ => .non
  | _, _, .bl b, _ => .bl b
  | _, _, .int i, _ => .int i
  | _, _, .str x, _ => .str x
  | _, _, .lst h r, m => .lst (SqL.of h) (RpAll.dp r (by simpa [PyData.canLay0] using m))
  | _, _, .tup h r, m => .tup (sqt_of h) (RpAll.dp r (by simpa [PyData.canLay0] using m))
  | _, _, .dk h r k, m => by simp [PyData.canLay0] at m
  | _, _, .dt h r k, m => by simp [PyData.canLay0] at m
theorem RpAll.dp : ∀ {ds : List D} {vs : List V}, RpAll K H vs ds → PyData.canLayAll0 ds = true → DpAll K H vs ds
  | _, _, .nil, _ => .nil
  | _, _, .cons h r, m => by
    simp only [PyData.canLayAll0, Bool.and_eq_true] at m
    exact .cons (Rp.dp h m.1) (RpAll.dp r m.2)
end
end
theorem lay_of {d : D} (h : SeqAt.shaped d = true) : d.canLay0 = true := SeqAt.canLay_of_shaped h
section
variable {X : Cx} {pins : List (Addr × Obj)} {σ : L2.St} {H : Hp} {s : Shared}
theorem Rp.reads {d : D} {v : V} {u : Value} (I : Inv X pins σ H s) (h : Rp X.K H v d) (m : d.canLay0 = true) (r : RelV v u) : ∃ as, Reads s.heap u d as := Dp.reads I d v u (h.dp m) r

/-! + -/
def rAddD (K : PySem.W.Frag) : R2 := fun x y H Q => rI0 (fun i j => .int (i + j)) x y H Q ∨ rCatA K x y H Q ∨ rCat x y H Q ∨ ∃ i j, x = .str i ∧ y = .str j ∧ i.length + j.length ≤ sizeLine ∧ Q (.str (i ++ j)) H
theorem op_addD : OpR X (binaryOp .Add) (rAddD X.K) := op_add.or (op_catA.or (op_cat.or op_add_str))
/-! * -/
def rMulD (K : PySem.W.Frag) : R2 := fun x y H Q => rI CMul (fun i j => .int (i * j)) x y H Q ∨ rRep x y H Q ∨ rRepT K x y H Q
theorem op_mulD : OpR X (binaryOp .Mult) (rMulD X.K) := op_mul.or (op_rep.or op_repT)
/-! == and != -/
def rEqX (K : PySem.W.Frag) : R2 := fun x y H Q => ∃ d e, Rp K H x d ∧ Rp K H y e ∧ SeqAt.shaped d = true ∧ SeqAt.shaped e = true ∧ Q (.bl (PyData.eqv d e)) H
def rNeX (K : PySem.W.Frag) : R2 := fun x y H Q => ∃ d e, Rp K H x d ∧ Rp K H y e ∧ SeqAt.shaped d = true ∧ SeqAt.shaped e = true ∧ Q (.bl (!PyData.eqv d e)) H
theorem op_eqX (hu : X.A.units + 64 < cLine) : OpR X (compareOp .Eq) (rEqX X.K) := fun pins s σ H x y v u Q I rx ry ⟨d, e, h1, h2, s1, s2, q⟩ =>
  op_eqD hu pins s σ H x y v u Q I rx ry ⟨d, e, h1.dp (lay_of s1), h2.dp (lay_of s2), s1, s2, q⟩
theorem op_neX (hu : X.A.units + 64 < cLine) : OpR X (compareOp .NotEq) (rNeX X.K) := fun pins s σ H x y v u Q I rx ry ⟨d, e, h1, h2, s1, s2, q⟩ =>
  op_neD hu pins s σ H x y v u Q I rx ry ⟨d, e, h1.dp (lay_of s1), h2.dp (lay_of s2), s1, s2, q⟩
/-! order -/
def rOrdD (K : PySem.W.Frag) (f : D → D → Bool) : R2 := fun x y H Q => ∃ d e, Rp K H x d ∧ Rp K H y e ∧ PySem.W.alike d e = true ∧ d ≠ .none ∧ d.canLay0 = true ∧ e.canLay0 = true ∧ d.depth ≤ 60 ∧ Q (.bl (f d e)) H
theorem op_ltX (hu : X.A.units + 64 < cLine) : OpR X (compareOp .Lt) (rOrdD X.K PySem.W.dataLt) := fun pins s σ H x y v u Q I rx ry ⟨d, e, h1, h2, al, nn, l1, l2, dp, q⟩ => by
  obtain ⟨as, r1⟩ := h1.reads I l1 rx
  obtain ⟨bs, r2⟩ := h2.reads I l2 ry
  exact PySem.W.rcLt_alike d e X.A s v u as bs r1 r2 al nn (by omega) _ _ _ _ ⟨.bl _, H, I, rfl, q⟩
theorem op_gtX (hu : X.A.units + 64 < cLine) : OpR X (compareOp .Gt) (rOrdD X.K fun d e => PySem.W.dataLt e d) := fun pins s σ H x y v u Q I rx ry ⟨d, e, h1, h2, al, nn, l1, l2, dp, q⟩ => by
  obtain ⟨as, r1⟩ := h1.reads I l1 rx
  obtain ⟨bs, r2⟩ := h2.reads I l2 ry
  exact PySem.W.rcGt_alike d e X.A s v u as bs r1 r2 al nn (by omega) _ _ _ _ ⟨.bl _, H, I, rfl, q⟩
theorem op_leX (hu : X.A.units + 64 < cLine) : OpR X (compareOp .LtE) (rOrdD X.K fun d e => !PySem.W.dataLt e d) := fun pins s σ H x y v u Q I rx ry ⟨d, e, h1, h2, al, nn, l1, l2, dp, q⟩ => by
  obtain ⟨as, r1⟩ := h1.reads I l1 rx
  obtain ⟨bs, r2⟩ := h2.reads I l2 ry
  exact PySem.W.rcLe_alike d e X.A s v u as bs r1 r2 al nn (by omega) _ _ _ _ ⟨.bl _, H, I, rfl, q⟩
theorem op_geX (hu : X.A.units + 64 < cLine) : OpR X (compareOp .GtE) (rOrdD X.K fun d e => !PySem.W.dataLt d e) := fun pins s σ H x y v u Q I rx ry ⟨d, e, h1, h2, al, nn, l1, l2, dp, q⟩ => by
  obtain ⟨as, r1⟩ := h1.reads I l1 rx
  obtain ⟨bs, r2⟩ := h2.reads I l2 ry
  exact PySem.W.rcGe_alike d e X.A s v u as bs r1 r2 al nn (by omega) _ _ _ _ ⟨.bl _, H, I, rfl, q⟩
abbrev rLtX (K : PySem.W.Frag) (g : Int → Int → Bool) (f : D → D → Bool) : R2 := fun x y H Q => rI0 (fun i j => .bl (g i j)) x y H Q ∨ rOrdD K f x y H Q
theorem op_lt' (hu : X.A.units + 64 < cLine) : OpR X (compareOp .Lt) (rLtX X.K (fun i j => decide (i < j)) PySem.W.dataLt) := op_lt.or (op_ltX hu)
theorem op_gt' (hu : X.A.units + 64 < cLine) : OpR X (compareOp .Gt) (rLtX X.K (fun i j => decide (j < i)) fun d e => PySem.W.dataLt e d) := op_gt.or (op_gtX hu)
theorem op_le' (hu : X.A.units + 64 < cLine) : OpR X (compareOp .LtE) (rLtX X.K (fun i j => decide (i ≤ j)) fun d e => !PySem.W.dataLt e d) := op_le.or (op_leX hu)
theorem op_ge' (hu : X.A.units + 64 < cLine) : OpR X (compareOp .GtE) (rLtX X.K (fun i j => decide (j ≤ i)) fun d e => !PySem.W.dataLt d e) := op_ge.or (op_geX hu)
/-! in -/
def rInX (K : PySem.W.Frag) (neg : Bool) : R2 := fun x y H Q =>
  (∃ d ds, Rp K H x d ∧ (Rp K H y (.list ds) ∨ Rp K H y (.tuple ds)) ∧ SeqAt.shaped d = true ∧ PyData.canLayAll0 ds = true ∧ Q (.bl (if neg then !ds.any fun z => PyData.eqv z d else ds.any fun z => PyData.eqv z d)) H) ∨
  (∃ a o, y = .ref a ∧ DGet H a x o ∧ Q (.bl (if neg then !o.isSome else o.isSome)) H)
theorem room_min {A : Around} {d : D} {n : Nat} (hu : A.units + 65 < cLine) (h : SeqAt.shaped d = true) : A.units + 1 + min n d.depth < cLine := by
  have : (d.canLay0 && decide (d.depth ≤ 64)) = true := h
  simp only [Bool.and_eq_true, decide_eq_true_eq] at this
  omega
theorem op_inX (hu : X.A.units + 65 < cLine) : OpR X (compareOp .In) (rInX X.K false) := fun pins s σ H x y v u Q I rx ry h => by
  rcases h with ⟨d, ds, h1, h2, s1, l2, q⟩ | ⟨a, o, rfl, g, q⟩
  · obtain ⟨as, r1⟩ := h1.reads I (lay_of s1) rx
    rcases h2 with h2 | h2
    · obtain ⟨bs, r2⟩ := h2.reads I (by simpa [PyData.canLay0] using l2) ry
      exact SeqAt.in_list_reads r2 r1 l2 (lay_of s1) (room_min hu s1) ⟨.bl _, H, I, rfl, q⟩
    · obtain ⟨bs, r2⟩ := h2.reads I (by simpa [PyData.canLay0] using l2) ry
      exact SeqAt.in_tuple_reads r2 r1 l2 (lay_of s1) (room_min hu s1) ⟨.bl _, H, I, rfl, q⟩
  · cases ry
    exact d_in (by omega) I g rx fun s' I' => ⟨.bl _, H, I', rfl, q⟩
theorem op_notInX (hu : X.A.units + 65 < cLine) : OpR X (compareOp .NotIn) (rInX X.K true) := fun pins s σ H x y v u Q I rx ry h => by
  rcases h with ⟨d, ds, h1, h2, s1, l2, q⟩ | ⟨a, o, rfl, g, q⟩
  · obtain ⟨as, r1⟩ := h1.reads I (lay_of s1) rx
    rcases h2 with h2 | h2
    · obtain ⟨bs, r2⟩ := h2.reads I (by simpa [PyData.canLay0] using l2) ry
      exact SeqAt.notIn_list_reads r2 r1 l2 (lay_of s1) (room_min hu s1) ⟨.bl _, H, I, rfl, q⟩
    · obtain ⟨bs, r2⟩ := h2.reads I (by simpa [PyData.canLay0] using l2) ry
      exact SeqAt.notIn_tuple_reads r2 r1 l2 (lay_of s1) (room_min hu s1) ⟨.bl _, H, I, rfl, q⟩
  · cases ry
    exact d_notIn (by omega) I g rx fun s' I' => ⟨.bl _, H, I', rfl, q⟩
/-! subscripts -/
def rIxX (K : PySem.W.Frag) : R2 := fun x y H Q => rIx K x y H Q ∨ ∃ a v, x = .ref a ∧ DGet H a y (some v) ∧ Q v H
theorem ix_dict (hu : X.A.units + 1 < cLine) : IxR X (fun x y H Q => ∃ a v, x = .ref a ∧ DGet H a y (some v) ∧ Q v H) := by
  intro value slice pins s σ H x y v u Q I rx ry h hs
  obtain ⟨a, z, rfl, g, q⟩ := h
  cases rx
  exact tail_any (dict_typeIs I g) PySem.F.slot_dict_getitem.lookup (d_getItem hu I g ry fun w' s' I' rw' => ⟨z, H, I', rw', q⟩) hs
theorem ix_X (hu : X.A.units + 1 < cLine) : IxR X (rIxX X.K) := ix_seq.or (ix_dict hu)
/-! slices -/
def rSlX (K : PySem.W.Frag) : V → Option Int → Option Int → Hp → VK → Prop := fun x lo hi H Q => rSlA K x lo hi H Q ∨ rSlL K x lo hi H Q ∨ rSlS x lo hi H Q
theorem sl_X : SlR X (rSlX X.K) := sl_tupA.or (sl_list.or sl_str)
/-! len -/
def rLenX (K : PySem.W.Frag) : List V → Hp → VK → Prop := fun xs H Q => (∃ x n, xs = [x] ∧ LenV K x H n ∧ Q (.int n) H) ∨ ∃ a kvs, xs = [.ref a] ∧ Rd H a (.dK kvs) ∧ Q (.int kvs.length) H
theorem call_lenX : CallR X (.builtin "len") (rLenX X.K) := call_len.or fun pins s σ H xs us Q I r ⟨a, kvs, e, hd, q⟩ => by
  subst e
  obtain ⟨u, rfl, rx⟩ := vals1 r
  cases rx
  exact d_len I hd fun t s' I' => ⟨.int _, H, I', ⟨t, rfl⟩, q⟩
end
end DL

set_option Elab.async false
set_option linter.all false
set_option maxRecDepth 100000
set_option maxHeartbeats 2000000
namespace DL
open PySem PySem.Spec PySem.Calls PyProof.Rows PySem.W
section
variable {prog : Program} {w : World} {A : Around} {E : Value → Shared → Prop} {s : Shared}
theorem collect_tup {l : Addr} {vs : List Value} {Q : List Value → Shared → Prop} (hl : s.heap.IsTuple l vs.toArray)
    (h : Q vs { s with heap := (s.heap.push (seqObj "list" #[] 0)).update s.heap.objs.size (Obj.mapSeq fun x => x ++ vs.toArray) }) (hsz : vs.length ≤ sizeLine) :
    wpAny (model prog w) A (collect (.ref l)) Q E s := by
  obtain ⟨o, ho, hc, n, hd⟩ := id hl
  have ho' : (s.heap.push (seqObj "list" #[] 0)).get? l = some o := Heap.get?_push_of_some _ ho
  have hN := Heap.get?_push_size s.heap (o := seqObj "list" #[] 0) rfl
  unfold collect
  refine wpAny_bind (wpAny_runValue (codeAny_builtin entry_proto_collect' ?_))
  refine wpAny_bind (wpAny_newList (wpAny_pure ⟨Code.quiet_builtin _ (by decide +kernel), codeAny_builtin entry_list_iadd' ?_⟩))
  show wpAny (model prog w) _ (Builtin.List.listExtendWith (.ref s.heap.objs.size) (.ref l) (.ref s.heap.objs.size)) _ E { s with heap := s.heap.push (seqObj "list" #[] 0) }
  unfold Builtin.List.listExtendWith
  refine wpAny_bind (wpAny_typeOf (T := "tuple") ⟨o, ho', hc⟩ ?_)
  have ht : (Value.type "tuple" == Value.type "tuple") = true := by decide +kernel
  rw [if_pos (by rw [ht, Bool.or_true])]
  refine wpAny_bind (listItems_at ho' hd ?_)
  refine wpAny_bind (listItems_at (xs := #[]) (n := 0) hN rfl ?_)
  rw [if_neg (by simp)]
  refine wpAny_bind (listUpdate_at (xs := #[]) (n := 0) hN rfl ?_ (Nat.zero_le _) (by show (#[] ++ vs.toArray).size ≤ sizeLine + 1; simp only [Array.size_append, List.size_toArray, List.length_nil]; omega))
  refine wpAny_pure ?_
  have hU := get?_update_seq hN (fun x => x ++ vs.toArray)
  refine wpAny_bind (wpAny_load hU ?_)
  have e : ((#[] : Array Value) ++ vs.toArray).toList = vs := by simp
  show wpAny (model prog w) A (pure ((#[] : Array Value) ++ vs.toArray).toList) Q E _
  rw [e]
  exact wpAny_pure h

/-- sorted of a tuple -/
theorem sorted_of_tup {l : Addr} {vs : List Value} {kw : List (Str × Value)} {Q : Value → Shared → Prop} (hl : s.heap.IsTuple l vs.toArray) (hL : vs.length ≤ sizeLine) (ha1 : argsOk "sorted" ⟨[.ref l], kw⟩) (ha2 : ∀ x, argsOk "list.sort" ⟨[.ref x], kw⟩)
    (body : ∀ E' : Value → Shared → Prop, wpAny (model prog w) A.in1.in1 (Builtin.«list.sort» ⟨[.ref (s.heap.objs.size + 1)], kw⟩) (fun f s' => f = .done (.ret .none) ∧ Q (.ref (s.heap.objs.size + 1)) s') E' { s with heap := copyHeap s.heap vs }) :
    wpAny (model prog w) A (call (.builtin "sorted") [.ref l] kw) Q E s := by
  refine call_function_entry_kw kind_sorted plain_sorted entry_sorted ha1 ?_
  unfold Builtin.«sorted»
  refine wpAny_bind (m := checkCount "sorted" 1 1 _) (wpAny_pure (wpAny_bind (collect_tup hl (wpAny_bind (wpAny_newList ?_ hL)) hL)))
  have hsz : ((s.heap.push (seqObj "list" #[] 0)).update s.heap.objs.size (Obj.mapSeq fun x => x ++ vs.toArray)).objs.size = s.heap.objs.size + 1 := by
    rw [Heap.size_update, size_push']
  show wpAny (model prog w) _ _ _ E { s with heap := copyHeap s.heap vs }
  rw [hsz]
  refine wpAny_bind (wpAny_holding (wpAny_call_entry_kw slot_list_sort ⟨_, copyHeap_at s.heap vs, rfl⟩ entry_list_sort ?body (ha2 _)))
  case body =>
    refine wpAny_mono (body _) (fun f s' hf => ?_) fun _ _ e => e
    obtain ⟨rfl, hq⟩ := hf
    exact ⟨_, rfl, wpAny_pure ⟨_, rfl, hq⟩⟩
/-- sorted(xs) of a list or a tuple of alike data: R is what the items are known to stand for -/
theorem sorted_dataLT {β : Type} {vs : List Value} {bs : List β} {enc : β → PyData} {R : Value → β → Prop} {l : Addr} {Q : Value → Shared → Prop} (hl : s.heap.IsList l vs.toArray ∨ s.heap.IsTuple l vs.toArray) (e : EachIs R vs bs) (er : EachIs (fun v b => ∃ as, Reads s.heap v (enc b) as) vs bs)
    (hal : AllAlike (bs.map enc)) (hk : Sortable (bs.map enc)) (hL : bs.length ≤ sizeLine) (hu : ∀ b, b ∈ bs → A.units + 2 + (enc b).depth < cLine)
    (h : ∀ out, out.length = bs.length → EachIs R out (bs.mergeSort (dataLe false enc)) → Q (.ref (s.heap.objs.size + 1)) { s with heap := sortedAll s.heap vs (List.toArray out) }) :
    wpAny (model prog w) A (call (.builtin "sorted") [.ref l]) Q E s := by
  rcases hl with hl | hl
  · exact sorted_data hl e er hal hk hL hu h
  · have er' : EachIs (fun v b => ∃ as, Reads (sortingHeap (copyHeap s.heap vs) (s.heap.objs.size + 1) vs) v (enc b) as) vs bs := er.mono fun _ _ ⟨as, r⟩ => ⟨as, PyProof.Rows.Reads.keeps (fun _ _ => sorting_copy_old) r⟩
    have S := SortsAt.data (prog := prog) (w := w) (A := A.in1.in1) (s := { s with heap := sortingHeap (copyHeap s.heap vs) (s.heap.objs.size + 1) vs }) (each_map (R := fun v d => ∃ as, Reads (sortingHeap (copyHeap s.heap vs) (s.heap.objs.size + 1) vs) v d as) enc er') hal hk (bound_map hu)
    have hLv : vs.length ≤ sizeLine := by rw [e.length]; exact hL
    refine sorted_of_tup hl hLv (args_sorted1 _) (fun _ => args_list_sort _) fun _ => list_sort_vals (s := { s with heap := copyHeap s.heap vs }) (copyHeap_at s.heap vs) S hLv ⟨rfl, ?_⟩
    exact h _ (by rw [sortVals_length false rfl]; exact e.length) (sortVals_data false e er' hal)
theorem sorted_rev_dataLT {β : Type} {vs : List Value} {bs : List β} {enc : β → PyData} {R : Value → β → Prop} {l : Addr} {b : Bool} {Q : Value → Shared → Prop} (hl : s.heap.IsList l vs.toArray ∨ s.heap.IsTuple l vs.toArray) (e : EachIs R vs bs) (er : EachIs (fun v b => ∃ as, Reads s.heap v (enc b) as) vs bs)
    (hal : AllAlike (bs.map enc)) (hk : Sortable (bs.map enc)) (hL : bs.length ≤ sizeLine) (hu : ∀ b, b ∈ bs → A.units + 2 + (enc b).depth < cLine)
    (h : ∀ out, out.length = bs.length → EachIs R out (bs.mergeSort (dataLe b enc)) → Q (.ref (s.heap.objs.size + 1)) { s with heap := sortedAll s.heap vs (List.toArray out) }) :
    wpAny (model prog w) A (call (.builtin "sorted") [.ref l] [(Str.ofString "reverse", .bool b)]) Q E s := by
  rcases hl with hl | hl
  · exact sorted_rev_data hl e er hal hk hL hu h
  · have er' : EachIs (fun v b => ∃ as, Reads (sortingHeap (copyHeap s.heap vs) (s.heap.objs.size + 1) vs) v (enc b) as) vs bs := er.mono fun _ _ ⟨as, r⟩ => ⟨as, PyProof.Rows.Reads.keeps (fun _ _ => sorting_copy_old) r⟩
    have S := SortsAt.data (prog := prog) (w := w) (A := A.in1.in1) (s := { s with heap := sortingHeap (copyHeap s.heap vs) (s.heap.objs.size + 1) vs }) (each_map (R := fun v d => ∃ as, Reads (sortingHeap (copyHeap s.heap vs) (s.heap.objs.size + 1) vs) v d as) enc er') hal hk (bound_map hu)
    have hLv : vs.length ≤ sizeLine := by rw [e.length]; exact hL
    refine sorted_of_tup hl hLv (args_sorted_rev _ _) (fun _ => args_list_sort_rev _ _) fun _ => list_sort_rev_vals (s := { s with heap := copyHeap s.heap vs }) (copyHeap_at s.heap vs) S hLv ⟨rfl, ?_⟩
    exact h _ (by rw [sortVals_length b rfl]; exact e.length) (sortVals_data b e er' hal)
end
end DL

set_option Elab.async false
set_option linter.all false
set_option maxRecDepth 100000
set_option maxHeartbeats 2000000
/-! DLD: calls of built-ins that take data of every kind -/
namespace DL
open PySem PySem.Spec PyProof.Rows L2
open Evl (Ex Ex.refl Ex.trans Ex.new Ex.mut)
section
variable {X : Cx} {pins : List (Addr × Obj)} {σ : L2.St} {H : Hp} {s : Shared}
theorem RpAll.readsAll {ds : List D} {vs : List V} {us : List Value} (I : Inv X pins σ H s) (h : RpAll X.K H vs ds) (m : PyData.canLayAll0 ds = true) (r : Vals vs us) : ∃ as, ReadsAll s.heap us ds as := Dp.readsAll I ds vs us (h.dp m) r
/-- a list or a tuple that is read, its items data -/
def SqD (K : PySem.W.Frag) (H : Hp) (v : V) (vs : List V) (ds : List D) : Prop := ∃ a, v = .ref a ∧ (SqL K H a vs ∨ SqT K H a vs) ∧ RpAll K H vs ds
theorem SqD.look {a : Addr} {vs : List V} {ds : List D} (I : Inv X pins σ H s) (h : SqL X.K H a vs ∨ SqT X.K H a vs) (r : RpAll X.K H vs ds) : ∃ its : List Value, Vals vs its ∧ (s.heap.IsList a its.toArray ∨ s.heap.IsTuple a its.toArray) ∧ vs.length ≤ sizeLine := by
  rcases h with h | h
  · obtain ⟨its, rv, pl, hz⟩ := I.list h
    exact ⟨its, rv, .inl pl.isList, hz⟩
  · obtain ⟨its, rv, pl, hz⟩ := I.tuple h
    exact ⟨its, rv, .inr pl, hz⟩
/-! sum -/
def rSumX (K : PySem.W.Frag) : List V → Hp → VK → Prop := fun vs H Q => ∃ (a : Addr) (ns : List Int), vs = [V.ref a] ∧ (SqL K H a (ns.map V.int) ∨ SqT K H a (ns.map V.int)) ∧ Q (.int ns.sum) H
theorem cr_sumX (hc : X.calm = true) : CallR X (.builtin "sum") (rSumX X.K) := by
  intro pins s σ H vs us Q I r h
  obtain ⟨a, ns, rfl, hs, q⟩ := h
  rcases hs with hs | hs
  · exact cr_sum hc pins s σ H _ us Q I r ⟨a, ns, rfl, hs, q⟩
  · obtain ⟨its, rv, hl, _⟩ := I.tuple hs
    rw [Vals.ref1 r]
    have hi := rv.ints
    obtain ⟨xs, hx⟩ := hi.allInts.items
    have hn : numsOf its.toArray.toList = ns := by rw [show its.toArray.toList = its from rfl, hi.numsOf]
    rw [hx] at hl hn
    rw [nums_intItems] at hn
    refine PySem.W.ktm_sumG (I.ok.hd hc) hl fun h' tk t' hk => ?_
    rw [preSum_eq, List.take_of_length_le (by simp), hn]
    exact ⟨.int _, H, I.kept hk, ⟨_, rfl⟩, q⟩
/-! max, min of a list, a tuple -/
def rBest (K : PySem.W.Frag) (f : D → List D → D) : List V → Hp → VK → Prop := fun vs H Q => ∃ (v : V) (us : List V) (x : D) (xs : List D), vs = [v] ∧ SqD K H v us (x :: xs) ∧ PySem.W.AlikeAll (x :: xs) ∧ PyData.canLayAll0 (x :: xs) = true ∧
  PyData.depthAll (x :: xs) ≤ 50 ∧ ∀ v, (∀ B, RpAll K B us (x :: xs) → Rp K B v (f x xs)) → Q v H
theorem best_end {a : Addr} {us : List V} {its : List Value} {ds : List D} {d : D} {i : Nat} {v : Value} {h' : Heap} {tk : Nat} {bs : List Addr} {Q : VK} (I : Inv X pins σ H s) (rv : Vals us its) (rp : RpAll X.K H us ds) (ly : PyData.canLayAll0 ds = true)
    (hv : its.toArray[i]? = some v) (rd : Reads h' v d bs) (hk : ∀ b o, s.heap.get? b = some o → h'.get? b = some o) (q : ∀ v, (∀ B, RpAll X.K B us ds → Rp X.K B v d) → Q v H) : EP X pins σ Q v { s with heap := h', toks := tk } := by
  have hv' : its[i]? = some v := by simpa using hv
  have hi : i < us.length := by rw [rv.length]; exact (List.getElem?_eq_some_iff.mp hv').1
  obtain ⟨e, hd, rp1⟩ := rp.get (List.getElem?_eq_getElem hi)
  obtain ⟨u, hu, rr⟩ := rv.get (List.getElem?_eq_getElem hi)
  rw [hv'] at hu
  cases hu
  have le : e.canLay0 = true := by
    have : ∀ (ds : List D) (i : Nat), PyData.canLayAll0 ds = true → ds[i]? = some e → e.canLay0 = true := by
      intro ds
      induction ds with
      | nil => intro i _ h; simp at h
      | cons d ds ih =>
        intro i h1 h2
        simp only [PyData.canLayAll0, Bool.and_eq_true] at h1
        cases i with
        | zero => simp at h2; subst h2; exact h1.1
        | succ i => exact ih i h1.2 (by simpa using h2)
    exact this ds i ly hd
  obtain ⟨as, r1⟩ := rp1.reads I le rr
  have ed : d = e := (PyProof.Rows.reads_det (fun b o q _ => hk b o q) r1 rd).1
  subst ed
  refine ⟨_, H, I.kept hk, rr, q _ fun B rb => ?_⟩
  obtain ⟨e2, hd2, rp2⟩ := rb.get (List.getElem?_eq_getElem hi)
  rw [hd] at hd2
  cases hd2
  exact rp2
theorem cr_maxX (hc : X.calm = true) (hu : X.A.units + 64 < cLine) : CallR X (.builtin "max") (rBest X.K PySem.W.maxD) := by
  intro pins s σ H vs us Q I r h
  obtain ⟨v, ws, x, xs, rfl, ⟨a, rfl, sq, rp⟩, al, ly, dp, q⟩ := h
  rw [Vals.ref1 r]
  obtain ⟨its, rv, hl, hz⟩ := SqD.look I sq rp
  obtain ⟨as, ra⟩ := rp.readsAll I ly rv
  rcases hl with hl | hl
  · exact PySem.W.max_list_data (as := as) (I.ok.hd hc) hl ra al (by omega) fun i v h' tk bs hv rd hk => best_end (a := a) I rv rp ly hv rd hk q
  · exact PySem.W.max_tuple_data (as := as) (I.ok.hd hc) hl ra al (by omega) fun i v h' tk bs hv rd hk => best_end (a := a) I rv rp ly hv rd hk q
theorem cr_minX (hc : X.calm = true) (hu : X.A.units + 64 < cLine) : CallR X (.builtin "min") (rBest X.K PySem.W.minD) := by
  intro pins s σ H vs us Q I r h
  obtain ⟨v, ws, x, xs, rfl, ⟨a, rfl, sq, rp⟩, al, ly, dp, q⟩ := h
  rw [Vals.ref1 r]
  obtain ⟨its, rv, hl, hz⟩ := SqD.look I sq rp
  obtain ⟨as, ra⟩ := rp.readsAll I ly rv
  rcases hl with hl | hl
  · exact PySem.W.min_list_data (as := as) (I.ok.hd hc) hl ra al (by omega) fun i v h' tk bs hv rd hk => best_end (a := a) I rv rp ly hv rd hk q
  · exact PySem.W.min_tuple_data (as := as) (I.ok.hd hc) hl ra al (by omega) fun i v h' tk bs hv rd hk => best_end (a := a) I rv rp ly hv rd hk q
/-! sorted -/
theorem mergeSort_snd {le : D → D → Bool} (ps : List (V × D)) : (ps.mergeSort fun p q => le p.2 q.2).map (·.2) = (ps.map (·.2)).mergeSort le :=
  PySem.W.sort_maps (r := fun p q : V × D => le p.2 q.2) (fun p : V × D => p.2) fun _ _ _ _ => rfl
theorem each_vals {us : List V} {its : List Value} {ds : List D} (rv : Vals us its) (rp : RpAll X.K H us ds) : PySem.W.EachIs (fun u (p : V × D) => RelV p.1 u ∧ Rp X.K H p.1 p.2) its (us.zip ds) := by
  induction rv generalizing ds with
  | nil => cases rp; exact .nil
  | cons r t ih => cases rp with | cons h1 h2 => exact .cons ⟨r, h1⟩ (ih h2)
theorem vals_each {out : List Value} {ps : List (V × D)} (e : PySem.W.EachIs (fun u (p : V × D) => RelV p.1 u ∧ Rp X.K H p.1 p.2) out ps) : Vals (ps.map (·.1)) out ∧ RpAll X.K H (ps.map (·.1)) (ps.map (·.2)) := by
  induction e with
  | nil => exact ⟨.nil, .nil⟩
  | cons h t ih => exact ⟨.cons h.1 ih.1, .cons h.2 ih.2⟩
theorem each_reads {us : List V} {its : List Value} {ds : List D} (I : Inv X pins σ H s) (rv : Vals us its) (rp : RpAll X.K H us ds) (ly : PyData.canLayAll0 ds = true) : PySem.W.EachIs (fun u (p : V × D) => ∃ as, Reads s.heap u p.2 as) its (us.zip ds) := by
  induction rv generalizing ds with
  | nil => cases rp; exact .nil
  | cons r t ih =>
    cases rp with
    | cons h1 h2 =>
      simp only [PyData.canLayAll0, Bool.and_eq_true] at ly
      exact .cons (h1.reads I ly.1 r) (ih h2 ly.2)
/-- sorted data -/
def sortD (b : Bool) (ds : List D) : List D := ds.mergeSort (PySem.W.dataLe b id)
def rSortedX (K : PySem.W.Frag) (b : Bool) : V → Hp → VK → Prop := fun v H Q => ∃ (us : List V) (ds : List D), SqD K H v us ds ∧ PySem.W.AllAlike ds ∧ PySem.W.Sortable ds ∧ PyData.canLayAll0 ds = true ∧ PyData.depthAll ds ≤ 50 ∧
  ∀ p ws, H p = none → ws.length = us.length → (∀ B, RpAll K B us ds → RpAll K B ws (sortD b ds)) → Q (.ref p) (upd H p (.lst ws))
theorem depth_in : ∀ {ds : List D} {d : D}, d ∈ ds → d.depth ≤ PyData.depthAll ds
  | d :: ds, e, h => by
    simp only [PyData.depthAll]
    rcases List.mem_cons.mp h with rfl | h
    · omega
    · have := depth_in h
      omega
theorem zip_snd {us : List V} {ds : List D} (h : us.length = ds.length) : (us.zip ds).map (fun p : V × D => p.2) = ds := List.map_snd_zip (by omega)
theorem sorted_fin {us : List V} {its : List Value} {ds : List D} {b : Bool} {Q : VK} {out : List Value} (I : Inv X pins σ H s) (rv : Vals us its) (rp : RpAll X.K H us ds) (hz : us.length ≤ sizeLine)
    (q : ∀ p ws, H p = none → ws.length = us.length → (∀ B, RpAll X.K B us ds → RpAll X.K B ws (sortD b ds)) → Q (.ref p) (upd H p (.lst ws))) (ho : out.length = (us.zip ds).length)
    (e : PySem.W.EachIs (fun u (p : V × D) => RelV p.1 u ∧ Rp X.K H p.1 p.2) out ((us.zip ds).mergeSort (PySem.W.dataLe b fun p : V × D => p.2))) :
    EP X pins σ Q (.ref (s.heap.objs.size + 1)) { s with heap := sortedAll s.heap its (List.toArray out) } := by
  obtain ⟨v1, v2⟩ := vals_each e
  have e2 : ((us.zip ds).mergeSort (PySem.W.dataLe b fun p : V × D => p.2)).map (fun p : V × D => p.2) = sortD b ds := by
    have := mergeSort_snd (le := PySem.W.dataLe b id) (us.zip ds)
    rw [zip_snd rp.length] at this
    exact this
  have hf : H (s.heap.objs.size + 1) = none := I.hok.fresh (Nat.le_succ _)
  obtain ⟨ep, he⟩ := PyProof.Rows.sortedAll_at s.heap its (List.toArray out)
  have hl : (((us.zip ds).mergeSort (PySem.W.dataLe b fun p : V × D => p.2)).map fun p : V × D => p.1).length ≤ sizeLine := by
    rw [v1.length, ho, List.length_zip]
    omega
  have new : ObjOk X.prog X.w (upd H (s.heap.objs.size + 1) (.lst (((us.zip ds).mergeSort (PySem.W.dataLe b fun p : V × D => p.2)).map fun p : V × D => p.1))) (sortedAll s.heap its (List.toArray out)) (s.heap.objs.size + 1) (.lst (((us.zip ds).mergeSort (PySem.W.dataLe b fun p : V × D => p.2)).map fun p : V × D => p.1)) := ⟨hl, out, ep, v1, he⟩
  refine ⟨.ref (s.heap.objs.size + 1), _, I.laid (t' := s.toks) (fun b o q => PyProof.Rows.sortedAll_old q) (Nat.le_succ _) new, rfl, q (s.heap.objs.size + 1) (List.map (fun p : V × D => p.1) ((us.zip ds).mergeSort (PySem.W.dataLe b fun p : V × D => p.2))) hf ?_ fun B rb => ?_⟩
  · rw [v1.length, ho, List.length_zip, rp.length]
    omega
  · rw [← e2]
    refine RpAll.pair (f := fun p : V × D => p.1) (g := fun p : V × D => p.2) fun x hx => ?_
    have hx := (List.mergeSort_perm _ _).mem_iff.mp hx
    obtain ⟨i, hi, ex⟩ := List.getElem_of_mem hx
    have hz2 : (us.zip ds)[i]? = some x := by rw [List.getElem?_eq_getElem hi, ex]
    rw [List.getElem?_zip_eq_some] at hz2
    obtain ⟨d, hd, r⟩ := rb.get hz2.1
    rw [hz2.2] at hd
    cases hd
    exact r
theorem cr_sortedX (hu : X.A.units + 64 < cLine) : CallR X (.builtin "sorted") (fun vs H Q => ∃ v, vs = [v] ∧ rSortedX X.K false v H Q) := by
  intro pins s σ H vs us Q I r h
  obtain ⟨v, rfl, ws, ds, ⟨a, rfl, sq, rp⟩, al, so, ly, dp, q⟩ := h
  rw [Vals.ref1 r]
  obtain ⟨its, rv, hl, hz⟩ := SqD.look I sq rp
  have hlz := rp.length
  refine sorted_dataLT (enc := fun p : V × D => p.2) hl (each_vals rv rp) (each_reads I rv rp ly) (by rw [zip_snd hlz]; exact al) (by rw [zip_snd hlz]; exact so) (by rw [List.length_zip]; omega) (fun p hp => ?_) fun out ho e => sorted_fin I rv rp hz q ho e
  have := depth_in (List.of_mem_zip hp).2
  omega
theorem cr_sortedRev (hu : X.A.units + 64 < cLine) : CallRK X (.builtin "sorted") ["reverse"] (fun vs zs H Q => ∃ v b, vs = [v] ∧ zs = [.bl b] ∧ rSortedX X.K b v H Q) := by
  intro pins s σ H vs zs us ws0 Q I r rz h
  obtain ⟨v, b, rfl, rfl, ws, ds, ⟨a, rfl, sq, rp⟩, al, so, ly, dp, q⟩ := h
  rw [Vals.ref1 r]
  obtain ⟨uz, rfl, rz2⟩ := vals1 rz
  obtain rfl : uz = Value.bool b := rz2
  obtain ⟨its, rv, hl, hz⟩ := SqD.look I sq rp
  have hlz := rp.length
  show wpAny _ _ (call (.builtin "sorted") [.ref a] [(Str.ofString "reverse", .bool b)]) _ _ _
  refine sorted_rev_dataLT (enc := fun p : V × D => p.2) hl (each_vals rv rp) (each_reads I rv rp ly) (by rw [zip_snd hlz]; exact al) (by rw [zip_snd hlz]; exact so) (by rw [List.length_zip]; omega) (fun p hp => ?_) fun out ho e => sorted_fin I rv rp hz q ho e
  have := depth_in (List.of_mem_zip hp).2
  omega
/-! isinstance of built-in types -/
def isTy : String → D → Bool
  | "int", .int _ => true
  | "int", .bool _ => true
  | "bool", .bool _ => true
  | "str", .str _ => true
  | "tuple", .tuple _ => true
  | "list", .list _ => true
  | "dict", .dict _ => true
  | _, _ => false
def tyName : D → String
  | .none => "NoneType"
  | .bool _ => "bool"
  | .int _ => "int"
  | .str _ => "str"
  | .list _ => "list"
  | .tuple _ => "tuple"
  | .dict _ => "dict"
theorem sqt_ty {K : PySem.W.Frag} {a : Addr} {xs : List V} (h : SqT K H a xs) : TyX K H (.ref a) (.type "tuple") := by
  rcases h with (h | ⟨o, h⟩) | ⟨o, its, n, h, c, _⟩
  · exact .base (.tup h)
  · exact .fTuple h
  · exact .kTuple h c
theorem Rp.ty {K : PySem.W.Frag} {v : V} {d : D} (h : Rp K H v d) (nt : ∀ kvs, d ≠ .dict kvs) : TyX K H v (.type (tyName d)) := by
  cases h with
  | non => exact .base .non
  | bl b => exact .base (.bl b)
  | int i => exact .base (.int i)
  | str x => exact .base (.str x)
  | lst h r => exact .base (.lst h)
  | tup h r => exact sqt_ty (sqt_of h)
  | dk h r q => exact absurd rfl (nt _)
  | dt h r q => exact absurd rfl (nt _)
def rIsX (K : PySem.W.Frag) : List V → Hp → VK → Prop := fun xs H Q => ∃ (x : V) (d : D) (T : String) (b : Bool), xs = [x, .ty T] ∧ Rp K H x d ∧ (∀ kvs, d ≠ .dict kvs) ∧ PySem.W.kitOne K (.type (tyName d)) (.type T) = some b ∧ Q (.bl b) H
theorem call_isX : CallR X (.builtin "isinstance") (rIsX X.K) := fun pins s σ H xs us Q I r ⟨x, d, T, b, e, rp, nt, k, q⟩ =>
  call_isi pins s σ H xs us Q I r ⟨x, .ty T, _, _, b, e, .ty T, rp.ty nt, k, q⟩
/-! repr -/
def rRepr (K : PySem.W.Frag) : List V → Hp → VK → Prop := fun vs H Q => ∃ (v : V) (d : D), vs = [v] ∧ Rp K H v d ∧ d.canLay0 = true ∧ d.showable = true ∧ d.depth ≤ 50 ∧ d.shown.length ≤ sizeLine ∧ Q (.str d.shown) H
theorem cr_repr (hg : X.A.guards = some []) (hu : X.A.units + 64 < cLine) : CallR X (.builtin "repr") (rRepr X.K) := by
  intro pins s σ H vs us Q I r h
  obtain ⟨v, d, rfl, rp, ly, sh, dp, sz, q⟩ := h
  have seq : (∃ a, v = .ref a) → wpAny (model X.prog X.w) X.A (call (.builtin "repr") us) (EP X pins σ Q) X.xe s := by
    rintro ⟨a, rfl⟩
    rw [Vals.ref1 r]
    obtain ⟨as, rd⟩ := rp.reads I ly rfl
    exact repr_of_reads' rd sh (PyData.noDict_hsm (PyData.hasDict_of_canLay d ly)) hg (by omega) (fun _ _ z => z) (fun h' u tk hk => ⟨.str _, H, I.kept hk, ⟨_, rfl⟩, q⟩) sz
  cases rp with
  | non =>
    obtain ⟨u, rfl, rfl⟩ := vals1 r
    exact PySem.P.repr_of_none ⟨.str _, H, I.tok _, ⟨_, rfl⟩, q⟩
  | bl b =>
    obtain ⟨u, rfl, rfl⟩ := vals1 r
    refine PySem.P.repr_of_bool ⟨.str _, H, I.tok _, ⟨_, rfl⟩, ?_⟩
    cases b <;> exact q
  | int i =>
    obtain ⟨u, rfl, t, rfl⟩ := vals1 r
    refine PySem.P.repr_of_int (by simpa [PyData.showable] using sh) ⟨.str _, H, I.tok _, ⟨_, rfl⟩, ?_⟩
    simpa only [PyData.shown] using q
  | str x =>
    obtain ⟨u, rfl, t, rfl⟩ := vals1 r
    exact PySem.P.repr_of_str ⟨.str _, H, I.tok _, ⟨_, rfl⟩, (by simpa only [PyData.shown] using q)⟩ (by simpa only [PyData.shown] using sz)
  | lst _ _ => exact seq ⟨_, rfl⟩
  | tup _ _ => exact seq ⟨_, rfl⟩
  | dk _ _ _ => exact seq ⟨_, rfl⟩
  | dt _ _ _ => exact seq ⟨_, rfl⟩
end
end DL

set_option Elab.async false
set_option linter.all false
set_option maxRecDepth 100000
set_option maxHeartbeats 2000000
/-! DLE: what loops walk: lists and tuples, their enumerate and zip -/
namespace DL
open PySem PySem.Spec PyProof.Rows L2
open Evl (Ex Ex.refl Ex.trans Ex.new Ex.mut)

/-- a list (true) or a tuple (false) that is read -/
def SqK (k : Bool) (K : PySem.W.Frag) (H : Hp) (a : Addr) (xs : List V) : Prop := if k then SqL K H a xs else SqT K H a xs
def IsK (k : Bool) (h : Heap) (a : Addr) (its : Array Value) : Prop := if k then h.IsList a its else h.IsTuple a its
def ItK (k : Bool) (h : Heap) (it a : Addr) (i : Nat) : Prop := if k then h.IsListIter it a i else h.IsTupleIter it a i
def ItObj (k : Bool) (a : Addr) : Obj := { cls := .type (if k then "list_iterator" else "tuple_iterator"), data := .fields #[.ref a, .int 0 0] }
theorem ItK.at {k : Bool} {h h' : Heap} {it a : Addr} {i : Nat} (x : ItK k h it a i) (e : ∀ o, h.get? it = some o → h'.get? it = some o) : ItK k h' it a i := by
  cases k with
  | true => exact Heap.IsListIter.at (x : h.IsListIter it a i) e
  | false => exact Heap.IsTupleIter.at (x : h.IsTupleIter it a i) e
theorem ItK.obj {k : Bool} {h : Heap} {it a : Addr} {i : Nat} (x : ItK k h it a i) : ∃ o, h.get? it = some o ∧ ∀ v, o.data ≠ .cell v := by
  cases k with
  | true => obtain ⟨o, e, _, d⟩ := (x : h.IsListIter it a i); exact ⟨o, e, fun v z => by rw [d] at z; cases z⟩
  | false => obtain ⟨o, e, _, d⟩ := (x : h.IsTupleIter it a i); exact ⟨o, e, fun v z => by rw [d] at z; cases z⟩
theorem begins_K (k : Bool) (a : Addr) (its : Array Value) : Begins (.ref a) (ItObj k a) fun h => IsK k h a its := by
  cases k with
  | true => exact begins_list a its
  | false => exact begins_tuple a its
theorem itK_new {k : Bool} {h : Heap} {it a : Addr} (e : h.get? it = some (ItObj k a)) : ItK k h it a 0 := by
  cases k with
  | true => exact (⟨_, e, rfl, rfl⟩ : h.IsListIter it a 0)
  | false => exact (⟨_, e, rfl, rfl⟩ : h.IsTupleIter it a 0)
theorem draws_K {prog : Program} {w : World} {A : Around} (hh : A.handled = none) (k : Bool) (it a : Addr) (hne : a ≠ it) (items : Array Value) :
    Draws prog w A it [it, a] items.size (fun i v => items[i]? = some v) (fun i h => ItK k h it a i ∧ IsK k h a items) := by
  cases k with
  | true => exact Draws.list hh it a hne items
  | false => exact Draws.tuple hh it a hne items
section
variable {X : Cx} {pins : List (Addr × Obj)} {σ : L2.St} {H : Hp} {s : Shared} {k k1 k2 : Bool} {a b : Addr} {xs ys : List V}
theorem seqK (I : Inv X pins σ H s) (h : SqK k X.K H a xs) : ∃ its : List Value, Vals xs its ∧ IsK k s.heap a its.toArray ∧ xs.length ≤ sizeLine ∧ a < s.heap.objs.size := by
  cases k with
  | true =>
    obtain ⟨its, rv, pl, hz⟩ := I.list (show SqL X.K H a xs from h)
    exact ⟨its, rv, pl.isList, hz, pl.lt⟩
  | false =>
    obtain ⟨its, rv, pl, hz⟩ := I.tuple (show SqT X.K H a xs from h)
    exact ⟨its, rv, pl, hz, pl.lt⟩
/-! ### a list or a tuple -/
def iSeq (K : PySem.W.Frag) (tl : TE) : TI := fun σ H R => tl σ H fun x H1 => ∃ a xs, x = .ref a ∧ ((SqL K H1 a xs ∧ (xs.length ≤ sizeLine → R (Itl K a) H1)) ∨ (SqT K H1 a xs ∧ (xs.length ≤ sizeLine → R (Itt K a) H1)))
theorem pi_seq {tg l : Expr} {tl : TE} (hl : PE X l tl) : PI X tg l (iSeq X.K tl) := by
  refine ⟨fun pins s σ H R I h => ?_⟩
  refine thn (hl.run pins s σ H _ I h) fun v s1 ⟨x, H1, I1, r1, q1⟩ => ?_
  obtain ⟨a, xs, e, q⟩ := q1
  subst e
  cases r1
  rcases q with ⟨hq, q⟩ | ⟨hq, q⟩
  · obtain ⟨its, rv, p, hz⟩ := I1.list hq
    refine wpAny_pyIter_list p.isList ?_
    refine ⟨s1.heap.objs.size, [s1.heap.objs.size], _, _, H1, rfl, I1.kept (t' := s1.toks) fun b o e => Heap.get?_push_of_some _ e, turn_list a _, ⟨_, Heap.get?_push_size _ rfl, rfl, rfl⟩, fun b hb => ?_, q hz⟩
    have e : b = s1.heap.objs.size := by simpa using hb
    subst e
    exact I1.fpOk (Nat.le_refl _) (I1.hok.fresh (Nat.le_refl _))
  · obtain ⟨its, rv, p, hz⟩ := I1.tuple hq
    refine wpAny_pyIter_tuple (show s1.heap.IsTuple a its.toArray from p) ?_
    refine ⟨s1.heap.objs.size, [s1.heap.objs.size], _, _, H1, rfl, I1.kept (t' := s1.toks) fun b o e => Heap.get?_push_of_some _ e, turn_tuple a _, ⟨_, Heap.get?_push_size _ rfl, rfl, rfl⟩, fun b hb => ?_, q hz⟩
    have e : b = s1.heap.objs.size := by simpa using hb
    subst e
    exact I1.fpOk (Nat.le_refl _) (I1.hok.fresh (Nat.le_refl _))
/-! ### enumerate -/
def IteK (k : Bool) (K : PySem.W.Frag) (a : Addr) (xs : List V) : It :=
  ⟨fun i H => SqK k K H a xs ∧ i < xs.length, fun i H v H' => ∃ T x, v = .ref T ∧ H T = none ∧ H' = upd H T (.tup [.int (i : Nat), x]) ∧ xs[i]? = some x, fun i H => SqK k K H a xs ∧ i = xs.length⟩
theorem new_pair {pins : List (Addr × Obj)} {σ : L2.St} {H : Hp} {s : Shared} {h' : Heap} {tk : Nat} {ch : List Addr} {T : Addr} {u1 u2 : Value} {x1 x2 : V} (I : Inv X pins σ H s) (k : ∀ b o, b ∉ ch → s.heap.get? b = some o → h'.get? b = some o) (hf : ∀ b ∈ ch, FpOk X pins H b)
    (hT : s.heap.objs.size ≤ T) (ht : h'.IsTuple T #[u1, u2]) (r1 : RelV x1 u1) (r2 : RelV x2 u2) : Inv X pins σ (upd H T (.tup [x1, x2])) { s with heap := h', toks := tk } :=
  I.turnedNew (t' := tk) (ch := ch) k hf hT (show ObjOk X.prog X.w (upd H T (.tup [x1, x2])) h' T (.tup [x1, x2]) from ⟨by show 2 ≤ sizeLine; decide, [u1, u2], .cons r1 (.cons r2 .nil), ht⟩)
theorem turn_enumK {P : Program} {w : World} {K : PySem.W.Frag} {elts : List Expr} {kk : Nat} {tpos : Pos} (a e it : Addr) (hea : e ≠ a) (hia : it ≠ a) (hei : e ≠ it) :
    Turn P w K (.Tuple elts kk tpos) (IteK k K a xs) [e, it] e (fun i h => (∃ old, IsEnum h e it ((0 : Int) + (i : Int)) old) ∧ ItK k h it a i) where
  mem := by simp
  obj := fun i h st b hb => by
    obtain ⟨⟨old, he⟩, hi⟩ := st
    have e' : b = e ∨ b = it := by simpa using hb
    rcases e' with z | z
    · rw [z]; exact ⟨_, he, fun v q => nomatch q⟩
    · rw [z]; exact hi.obj
  keep := fun i h h' st k => let ⟨⟨old, he⟩, hi⟩ := st; ⟨⟨old, k e (by simp) _ he⟩, hi.at fun o q => k it (by simp) o q⟩
  item := by
    intro X hP hw hK hc i pins s σ H E I hf st hg
    subst hP hw hK
    obtain ⟨hq, hlt⟩ := hg
    obtain ⟨its, rv, p, hz, ha⟩ := seqK I hq
    have D := draws_K (prog := X.prog) (w := X.w) (A := X.A.in1) (by exact I.ok.hd hc) k it a (Ne.symm hia) its.toArray
    have G := GoesN.enumFrom (elts := elts) (x1 := kk) (pos := tpos) 0 D e hei (by simp [hei, hea]) (by simp)
    have hle := rv.length
    refine G.goes i s (fun v s2 => ∃ x H', Inv X pins σ H' s2 ∧ RelV x v ∧ (IteK k X.K a xs).yld i H x H' ∧ ((∃ old, IsEnum s2.heap e it ((0 : Int) + ((i + 1 : Nat) : Int)) old) ∧ ItK k s2.heap it a (i + 1)) ∧ ∀ b ∈ [e, it], H' b = none) E (by rw [List.size_toArray]; omega) ⟨st.1, st.2, p⟩ ?_
    intro v h' tk hY hst hk htk
    obtain ⟨T, t, x, rfl, hT, hx, hIT⟩ := hY
    obtain ⟨xv, hxv, rx⟩ : ∃ xv, xs[i]? = some xv ∧ RelV xv x := by
      obtain ⟨u, hu, ru⟩ := rv.get (List.getElem?_eq_getElem hlt)
      have hx' : its[i]? = some x := by simpa using hx
      rw [hx'] at hu
      cases hu
      exact ⟨_, List.getElem?_eq_getElem hlt, ru⟩
    have I1 := new_pair (tk := tk) (x1 := .int (i : Nat)) (x2 := xv) I (ch := [e, it]) (fun b o hb => hk b o hb) hf hT hIT ⟨t, by simp⟩ rx
    refine ⟨.ref T, _, I1, rfl, ⟨T, xv, rfl, I.hok.fresh hT, rfl, hxv⟩, ⟨hst.1, hst.2.1⟩, fun b hb => ?_⟩
    have hlt' : b < s.heap.objs.size := by
      have e' : b = e ∨ b = it := by simpa using hb
      obtain ⟨⟨old, he⟩, hi⟩ := st
      rcases e' with z | z
      · rw [z]; exact Heap.lt_size he
      · rw [z]; obtain ⟨o, q, _⟩ := hi.obj; exact Heap.lt_size q
    rw [upd_ne (Nat.ne_of_lt (Nat.lt_of_lt_of_le hlt' hT))]
    exact (hf b hb).1
  done := by
    intro X hP hw hK hc i pins s σ H E I hf st hg
    subst hP hw hK
    obtain ⟨hq, rfl⟩ := hg
    obtain ⟨its, rv, p, hz, ha⟩ := seqK I hq
    have D := draws_K (prog := X.prog) (w := X.w) (A := X.A.in1) (by exact I.ok.hd hc) k it a (Ne.symm hia) its.toArray
    have G := GoesN.enumFrom (elts := elts) (x1 := kk) (pos := tpos) 0 D e hei (by simp [hei, hea]) (by simp)
    have hn : its.toArray.size = xs.length := by rw [List.size_toArray, rv.length]
    refine G.stops s (fun s1 => Inv X pins σ H s1) E (by rw [hn]; exact ⟨st.1, st.2, p⟩) fun h' tk hk htk => ?_
    exact I.turnedL (ch := [e, it]) (fun b o hb => hk b o hb) hf
  self := fun A i s Q E st h => let ⟨⟨_, he⟩, _⟩ := st; wpAny_pyIter_enum he h
set_option maxHeartbeats 4000000 in
theorem meets_enum1 {v : Value} {o : Obj} {H : Heap → Prop} (B : Begins v o H) :
    Meets (Builtin.«enumerate.__new__» ⟨[.type "enumerate", v], []⟩) (fun _ R s => H s.heap ∧
      R (.ok (.ret (.ref (s.heap.push o).objs.size))) { s with heap := (s.heap.push o).push { cls := .type "enumerate", data := .fields #[.none, .bool false, .ref s.heap.objs.size, rawInt 0, .none, .none] } }) :=
  .of_wp fun prog w A R s h => by
    obtain ⟨hp, g, d, tk, os⟩ := s; obtain ⟨h1, h⟩ := h
    have hsub := sub_enumerate
    have q1 : ∀ {A' : Around} {E Q : Value → Shared → Prop}, Q (.ref hp.objs.size) ⟨hp.push o, g, d, tk, os⟩ → wpAny (model prog w) A' (pyIter v) Q E ⟨hp, g, d, tk, os⟩ :=
      fun q => B.iter prog w _ _ ⟨hp, g, d, tk, os⟩ _ h1 q
    wp_walk using q1
    refine wpAny_stack_any fun st => wpAny_pure ?_
    split
    · rename_i c _ _ _ _ _
      cases (c == Value.type "enumerate") <;> (wp_walk using q1; exact ⟨_, rfl, h⟩)
    · wp_walk using q1
      exact ⟨_, rfl, h⟩
theorem enum1_begins {prog : Program} {w : World} {A : Around} {E : Value → Shared → Prop} {s : Shared} {v : Value} {o : Obj} {H : Heap → Prop} {Q : Value → Shared → Prop} (B : Begins v o H) (h1 : H s.heap)
    (h : ∀ h', IsEnum h' (s.heap.objs.size + 1) s.heap.objs.size 0 .none → h'.get? s.heap.objs.size = some o → (∀ b o, s.heap.get? b = some o → h'.get? b = some o) → Q (.ref (s.heap.objs.size + 1)) { s with heap := h' }) :
    wpAny (model prog w) A (call (.type "enumerate") [v]) Q E s := by
  refine callType_new F.called_enumerate (by decide) (F.typeCall_enumerate_1 _) (F.newCall_enumerate_1 _) (fun obj => F.args_object_init_2 obj _) F.entry_enumerate_new (meets_enum1 B) ⟨h1, ?_⟩
  have hz : (s.heap.push o).objs.size = s.heap.objs.size + 1 := Heap.size_push ..
  show _ ∧ _
  rw [hz]
  have he := Heap.get?_push_size (s.heap.push o) (o := { cls := .type "enumerate", data := .fields #[.none, .bool false, .ref s.heap.objs.size, rawInt 0, .none, .none] }) rfl
  rw [hz] at he
  exact ⟨⟨_, he, rfl⟩, h _ he (Heap.get?_push_of_some _ (Heap.get?_push_size _ B.free)) fun b o x => Heap.get?_push_of_some _ (Heap.get?_push_of_some _ x)⟩
def iEnumK (K : PySem.W.Frag) (ta : TA) : TI := fun σ H R => ta σ H fun vs H1 => ∃ a xs k, vs = [.ref a] ∧ SqK k K H1 a xs ∧ (xs.length ≤ sizeLine → R (IteK k K a xs) H1)
theorem pi_enumK {e : Expr} {ta : TA} {p pos tpos : Pos} {elts : List Expr} {kk : Nat} (hg : Gl X "enumerate") (hm : X.mg "enumerate" = none) (ha : PA X [e] ta) (hs : starEach [e] X.env = [(false, eval e X.env)] := by rfl) :
    PI X (.Tuple elts kk tpos) (.Call (.Name "enumerate" p) [e] [] pos) (iEnumK X.K ta) := by
  refine ⟨fun pins s σ H R I h => ?_⟩
  refine Call_ (ld_blt I hg hm boot_enumerate (PyProof.Rows.callWith_type1 (thn (ha.run pos pins s σ H _ I h) fun us s1 ⟨vs, H1, I1, r1, q1⟩ => ?_) hs rfl))
  obtain ⟨a, xs, k, rfl, hq, q⟩ := q1
  rw [Vals.ref1 r1]
  obtain ⟨its, rv, p', hz, hlt⟩ := seqK I1 hq
  refine enum1_begins (begins_K k a its.toArray) p' fun h' he hit hk => wpAny_pyIter_enum he ?_
  have I2 : Inv X pins σ H1 { s1 with heap := h' } := I1.kept (t' := s1.toks) hk
  refine ⟨s1.heap.objs.size + 1, [s1.heap.objs.size + 1, s1.heap.objs.size], _, _, H1, rfl, I2, turn_enumK a (s1.heap.objs.size + 1) s1.heap.objs.size (fun z => Nat.lt_irrefl _ (Nat.lt_trans (Nat.lt_succ_self _) (show s1.heap.objs.size + 1 < s1.heap.objs.size from z ▸ hlt))) (by intro z; rw [← z] at hlt; exact absurd hlt (Nat.lt_irrefl _)) (Nat.succ_ne_self _), ⟨⟨.none, he⟩, itK_new hit⟩, fun b hb => ?_, q hz⟩
  have e' : b = s1.heap.objs.size + 1 ∨ b = s1.heap.objs.size := by simpa using hb
  have hle : s1.heap.objs.size ≤ b := by
    rcases e' with z | z
    · rw [z]; exact Nat.le_add_right _ _
    · rw [z]; exact Nat.le_refl _
  exact I1.fpOk hle (I1.hok.fresh hle)

/-! ### zip -/
def ItzK (k1 k2 : Bool) (K : PySem.W.Frag) (a b : Addr) (xs ys : List V) : It :=
  ⟨fun i H => SqK k1 K H a xs ∧ SqK k2 K H b ys ∧ i < min xs.length ys.length, fun i H v H' => ∃ T x y, v = .ref T ∧ H T = none ∧ H' = upd H T (.tup [x, y]) ∧ xs[i]? = some x ∧ ys[i]? = some y, fun i H => SqK k1 K H a xs ∧ SqK k2 K H b ys ∧ i = min xs.length ys.length⟩
/-- the zip's five cells -/
structure ZCells (z TI TO i1 i2 a b : Addr) : Prop where
  sep : ZipSep2 z TI TO i1 i2 [i1, a] [i2, b]
theorem vals_at {us : List V} {its : List Value} {i : Nat} {x : Value} (rv : Vals us its) (h : its.toArray[i]? = some x) : ∃ v, us[i]? = some v ∧ RelV v x := by
  have h' : its[i]? = some x := by simpa using h
  have hi : i < us.length := by rw [rv.length]; exact (List.getElem?_eq_some_iff.mp h').1
  obtain ⟨u, hu, r⟩ := rv.get (List.getElem?_eq_getElem hi)
  rw [h'] at hu
  cases hu
  exact ⟨_, List.getElem?_eq_getElem hi, r⟩
theorem turn_zipK {P : Program} {w : World} {K : PySem.W.Frag} {elts : List Expr} {kk : Nat} {tpos : Pos} {z TI TO i1 i2 : Addr} (Z : ZipSep2 z TI TO i1 i2 [i1, a] [i2, b]) (h1a : a ≠ i1) (h2b : b ≠ i2) :
    Turn P w K (.Tuple elts kk tpos) (ItzK k1 k2 K a b xs ys) [z, TI, TO, i1, i2] z
      (fun i h => IsZip h z TI TO .none ∧ IsTupOf2 h TI (.ref i1) (.ref i2) ∧ (∃ x y, IsTupOf2 h TO x y) ∧ ItK k1 h i1 a i ∧ ItK k2 h i2 b i) where
  mem := by simp
  obj := fun i h st c hc => by
    obtain ⟨hz, hTI, ⟨x, y, hTO⟩, hi1, hi2⟩ := st
    have e' : c = z ∨ c = TI ∨ c = TO ∨ c = i1 ∨ c = i2 := by simpa using hc
    rcases e' with q | q | q | q | q
    · rw [q]; exact ⟨_, hz, fun v q => nomatch q⟩
    · rw [q]; exact ⟨_, hTI, fun v q => nomatch q⟩
    · rw [q]; exact ⟨_, hTO, fun v q => nomatch q⟩
    · rw [q]; exact hi1.obj
    · rw [q]; exact hi2.obj
  keep := fun i h h' st k => by
    obtain ⟨hz, hTI, ⟨x, y, hTO⟩, hi1, hi2⟩ := st
    exact ⟨k z (by simp) _ hz, k TI (by simp) _ hTI, ⟨x, y, k TO (by simp) _ hTO⟩, hi1.at fun o q => k i1 (by simp) o q, hi2.at fun o q => k i2 (by simp) o q⟩
  item := by
    intro X hP hw hK hc i pins s σ H E I hf st hg
    subst hP hw hK
    obtain ⟨hq1, hq2, hlt⟩ := hg
    obtain ⟨its, rv, p, hz1, ha⟩ := seqK I hq1
    obtain ⟨its2, rv2, p2, hz2, hb⟩ := seqK I hq2
    have D1 := draws_K (prog := X.prog) (w := X.w) (A := X.A.in1) (by exact I.ok.hd hc) k1 i1 a h1a its.toArray
    have D2 := draws_K (prog := X.prog) (w := X.w) (A := X.A.in1) (by exact I.ok.hd hc) k2 i2 b h2b its2.toArray
    have G := GoesN.zip2 (elts := elts) (x1 := kk) (pos := tpos) Z D1 D2
    have n1 : its.toArray.size = xs.length := by rw [List.size_toArray, rv.length]
    have n2 : its2.toArray.size = ys.length := by rw [List.size_toArray, rv2.length]
    refine G.goes i s (fun v s2 => ∃ x H', Inv X pins σ H' s2 ∧ RelV x v ∧ (ItzK k1 k2 X.K a b xs ys).yld i H x H' ∧ (IsZip s2.heap z TI TO .none ∧ IsTupOf2 s2.heap TI (.ref i1) (.ref i2) ∧ (∃ x y, IsTupOf2 s2.heap TO x y) ∧ ItK k1 s2.heap i1 a (i + 1) ∧ ItK k2 s2.heap i2 b (i + 1)) ∧ ∀ b ∈ [z, TI, TO, i1, i2], H' b = none) E (by rw [n1, n2]; exact hlt) ⟨st.1, st.2.1, st.2.2.1, ⟨st.2.2.2.1, p⟩, st.2.2.2.2, p2⟩ ?_
    intro v h' tk hY hst hk htk
    obtain ⟨T, x, y, rfl, hT, hx, hy, hIT⟩ := hY
    obtain ⟨xv, hxv, rx⟩ := vals_at rv hx
    obtain ⟨yv, hyv, ry⟩ := vals_at rv2 hy
    have hk' : ∀ c o, c ∉ [z, TI, TO, i1, i2] → s.heap.get? c = some o → h'.get? c = some o := fun c o hc e => hk c o (fun q => hc (by
      have e' : c = z ∨ c = TO ∨ c = i1 ∨ c = i2 := by simpa using q
      rcases e' with q | q | q | q <;> simp [q])) e
    have I1 := new_pair (tk := tk) I hk' hf hT hIT rx ry
    refine ⟨.ref T, _, I1, rfl, ⟨T, xv, yv, rfl, I.hok.fresh hT, rfl, hxv, hyv⟩, ⟨hst.1, hst.2.1, hst.2.2.1, hst.2.2.2.1.1, hst.2.2.2.2.1⟩, fun c hcm => ?_⟩
    have hlt' : c < s.heap.objs.size := by
      obtain ⟨hz, hTI, ⟨_, _, hTO⟩, hi1, hi2⟩ := st
      have e' : c = z ∨ c = TI ∨ c = TO ∨ c = i1 ∨ c = i2 := by simpa using hcm
      rcases e' with q | q | q | q | q
      · rw [q]; exact Heap.lt_size hz
      · rw [q]; exact Heap.lt_size hTI
      · rw [q]; exact Heap.lt_size hTO
      · rw [q]; obtain ⟨o, q, _⟩ := hi1.obj; exact Heap.lt_size q
      · rw [q]; obtain ⟨o, q, _⟩ := hi2.obj; exact Heap.lt_size q
    rw [upd_ne (Nat.ne_of_lt (Nat.lt_of_lt_of_le hlt' hT))]
    exact (hf c hcm).1
  done := by
    intro X hP hw hK hc i pins s σ H E I hf st hg
    subst hP hw hK
    obtain ⟨hq1, hq2, rfl⟩ := hg
    obtain ⟨its, rv, p, hz1, ha⟩ := seqK I hq1
    obtain ⟨its2, rv2, p2, hz2, hb⟩ := seqK I hq2
    have D1 := draws_K (prog := X.prog) (w := X.w) (A := X.A.in1) (by exact I.ok.hd hc) k1 i1 a h1a its.toArray
    have D2 := draws_K (prog := X.prog) (w := X.w) (A := X.A.in1) (by exact I.ok.hd hc) k2 i2 b h2b its2.toArray
    have G := GoesN.zip2 (elts := elts) (x1 := kk) (pos := tpos) Z D1 D2
    have n1 : its.toArray.size = xs.length := by rw [List.size_toArray, rv.length]
    have n2 : its2.toArray.size = ys.length := by rw [List.size_toArray, rv2.length]
    refine G.stops s (fun s1 => Inv X pins σ H s1) E (by rw [n1, n2]; exact ⟨st.1, st.2.1, st.2.2.1, ⟨st.2.2.2.1, p⟩, st.2.2.2.2, p2⟩) fun h' tk hk htk => ?_
    exact I.turnedL (ch := [z, TI, TO, i1, i2]) (fun c o hc e => hk c o (fun q => hc (by
      have e' : c = z ∨ c = TO ∨ c = i1 ∨ c = i2 := by simpa using q
      rcases e' with q | q | q | q <;> simp [q])) e) hf
  self := fun A i s Q E st h => wpAny_pyIter_zip st.1 h
def iZipK (K : PySem.W.Frag) (ta : TA) : TI := fun σ H R => ta σ H fun vs H1 => ∃ a b xs ys k1 k2, vs = [.ref a, .ref b] ∧ SqK k1 K H1 a xs ∧ SqK k2 K H1 b ys ∧ (xs.length ≤ sizeLine → ys.length ≤ sizeLine → R (ItzK k1 k2 K a b xs ys) H1)
theorem pi_zipK {e e2 : Expr} {ta : TA} {p pos tpos : Pos} {elts : List Expr} {kk : Nat} (hg : Gl X "zip") (hm : X.mg "zip" = none) (ha : PA X [e, e2] ta)
    (hs : starEach [e, e2] X.env = (false, eval e X.env) :: starEach [e2] X.env := by rfl) (hpl : (backTo pos (starEach [e2] X.env)).any (·.1) = false := by rfl) :
    PI X (.Tuple elts kk tpos) (.Call (.Name "zip" p) [e, e2] [] pos) (iZipK X.K ta) := by
  refine ⟨fun pins s σ H R I h => ?_⟩
  refine Call_ (ld_blt I hg hm PyProof.Rows.boot_zip (PyProof.Rows.callWith_type1 (thn (ha.run pos pins s σ H _ I h) fun us s1 ⟨vs, H1, I1, r1, q1⟩ => ?_) hs hpl))
  obtain ⟨a, b, xs, ys, k1, k2, rfl, hqx, hqy, q⟩ := q1
  obtain ⟨u1, u2, rfl, r1, r2⟩ := vals2 r1
  obtain rfl : u1 = Value.ref a := r1
  obtain rfl : u2 = Value.ref b := r2
  obtain ⟨its, rv, p1, hz1, la⟩ := seqK I1 hqx
  obtain ⟨its2, rv2, p2, hz2, lb⟩ := seqK I1 hqy
  refine zip_begins2 (begins_K k1 a its.toArray) (begins_K k2 b its2.toArray) p1 p2 fun h' hz hTI hTO h1 h2 hsz hk => wpAny_pyIter_zip hz ?_
  have I2 : Inv X pins σ H1 { s1 with heap := h' } := I1.kept (t' := s1.toks) hk
  have Z : ZipSep2 (s1.heap.objs.size + 4) (s1.heap.objs.size + 2) (s1.heap.objs.size + 3) s1.heap.objs.size (s1.heap.objs.size + 1) [s1.heap.objs.size, a] [s1.heap.objs.size + 1, b] :=
    zip_sep2 (N := s1.heap.objs.size) (fp1 := [a]) (fp2 := [b]) (fun c hc => by rw [List.mem_singleton.mp hc]; exact la) (fun c hc => by rw [List.mem_singleton.mp hc]; exact lb)
  refine ⟨s1.heap.objs.size + 4, [s1.heap.objs.size + 4, s1.heap.objs.size + 2, s1.heap.objs.size + 3, s1.heap.objs.size, s1.heap.objs.size + 1], _, _, H1, rfl, I2,
    turn_zipK Z (Nat.ne_of_lt la) (Nat.ne_of_lt (Nat.lt_succ_of_lt lb)), ⟨hz, hTI, ⟨_, _, hTO⟩, itK_new h1, itK_new h2⟩, fun c hcm => ?_, q hz1 hz2⟩
  have e' : c = s1.heap.objs.size + 4 ∨ c = s1.heap.objs.size + 2 ∨ c = s1.heap.objs.size + 3 ∨ c = s1.heap.objs.size ∨ c = s1.heap.objs.size + 1 := by simpa using hcm
  have hle : s1.heap.objs.size ≤ c := by
    rcases e' with z | z | z | z | z
    · rw [z]; exact Nat.le_add_right _ _
    · rw [z]; exact Nat.le_add_right _ _
    · rw [z]; exact Nat.le_add_right _ _
    · rw [z]; exact Nat.le_refl _
    · rw [z]; exact Nat.le_add_right _ _
  exact I1.fpOk hle (I1.hok.fresh hle)
end
end DL

set_option Elab.async false
set_option linter.all false
set_option maxRecDepth 100000
set_option maxHeartbeats 2000000
/-! DLF: iterators, targets, comprehensions, statements over data -/
namespace DL
open PySem PySem.Spec PyProof.Rows L2
open Evl (Ex Ex.refl Ex.trans Ex.new Ex.mut)
section
variable {K : PySem.W.Frag} {S : Option (Addr × Addr)} {ρ ρ' ρ1 ρ2 : Env} {ta tb te : TE} {tt tu : TT} {o : O} {x y z d : D} {i j : Nat}
/-! ### iterators -/
def ItS (K : PySem.W.Frag) (B : Hp) (J : It) (ds : List D) : Prop := ∀ B1 H1, Ex B B1 → Ex B1 H1 → ∀ i : Nat,
  (∀ d, ds[i]? = some d → J.go i H1 ∧ ∀ x H2, J.yld i H1 x H2 → ∃ B2, Gr B1 H1 B2 H2 ∧ Rp K B2 x d) ∧ (i = ds.length → J.stop i H1)
def EvI (K : PySem.W.Frag) (S : Option (Addr × Addr)) (wi : TI) (ρ : Env) (ds : List D) : Prop := ∀ (B H : Hp) (Fr : Set') (σ : L2.St) (R : It → Hp → Prop), Wd K S B H Fr σ ρ →
  (∀ J B' H', Gr B H B' H' → ItS K B' J ds → ds.length ≤ sizeLine → R J H') → wi σ H R
theorem sqt_mono {B H : Hp} {a : Addr} {xs : List V} (e : Ex B H) (h : SqT K B a xs) : SqT K H a xs := Evl.ex_t e h
theorem its_list {B : Hp} {a : Addr} {xs : List V} {ds : List D} (h : SqL K B a xs) (r : RpAll K B xs ds) : ItS K B (Itl K a) ds := fun B1 H1 e1 e2 i => by
  have h1 := Evl.ex_l (e1.trans e2) h
  refine ⟨fun d hd => ?_, fun hi => ⟨xs, h1, by rw [r.length, hi]; exact Nat.le_refl _⟩⟩
  obtain ⟨v, hv, rv⟩ := r.getD hd
  refine ⟨⟨xs, v, h1, hv⟩, fun x H2 y => ?_⟩
  obtain ⟨rfl, y⟩ := y
  rw [y xs h1] at hv
  cases hv
  exact ⟨B1, Gr.refl e2, rv.mono e1⟩
theorem its_tup {B : Hp} {a : Addr} {xs : List V} {ds : List D} (h : SqT K B a xs) (r : RpAll K B xs ds) : ItS K B (Itt K a) ds := fun B1 H1 e1 e2 i => by
  have h1 := Evl.ex_t (e1.trans e2) h
  refine ⟨fun d hd => ?_, fun hi => ⟨xs, h1, by rw [r.length, hi]; exact Nat.le_refl _⟩⟩
  obtain ⟨v, hv, rv⟩ := r.getD hd
  refine ⟨⟨xs, v, h1, hv⟩, fun x H2 y => ?_⟩
  obtain ⟨rfl, y⟩ := y
  rw [y xs h1] at hv
  cases hv
  exact ⟨B1, Gr.refl e2, rv.mono e1⟩
theorem ei_list {ds : List D} (h : EvD K S te ρ (.list ds)) : EvI K S (iSeq K te) ρ ds := fun B H Fr σ R w k => h.use w fun v B1 H1 g r => by
  cases r with
  | lst hl ra => exact ⟨_, _, rfl, .inl ⟨SqL.of (g.sub _ _ hl), fun hz => k _ B1 H1 g (its_list (SqL.of hl) ra) (by rw [← ra.length]; exact hz)⟩⟩
theorem ei_tup {ds : List D} (h : EvD K S te ρ (.tuple ds)) : EvI K S (iSeq K te) ρ ds := fun B H Fr σ R w k => h.use w fun v B1 H1 g r => by
  cases r with
  | tup hl ra => exact ⟨_, _, rfl, .inr ⟨Evl.ex_t g.sub (sqt_of hl), fun hz => k _ B1 H1 g (its_tup (sqt_of hl) ra) (by rw [← ra.length]; exact hz)⟩⟩
theorem ei_new {ds : List D} (h : EvO K S te ρ (.l (ds.map O.d))) : EvI K S (iSeq K te) ρ ds := ei_list (ev_frzL h)
theorem ei_scr {ns : List Int} (h : ρ[i]? = some (some (.scr ns))) : EvI K S (iSeq K (tVar i)) ρ (ns.map PyData.int) := fun B H Fr σ R w k => by
  obtain ⟨v, F, e, q, _⟩ := w.at h
  cases q with
  | scr a _ _ hl n => exact ⟨_, e, _, _, rfl, .inl ⟨Evl.ex_l w.ex hl, fun hz => k _ B H (Gr.refl w.ex) (its_list hl RpAll.of_ints) (by simpa using hz)⟩⟩
/-- lo, lo + 1, .., n of them -/
def rangeD (lo : Int) (n : Nat) : List D := (List.range n).map fun i => .int (lo + (i : Nat))
theorem rangeD_at {lo : Int} {n i : Nat} {d : D} (h : (rangeD lo n)[i]? = some d) : i < n ∧ d = .int (lo + (i : Nat)) := by
  unfold rangeD at h
  rw [List.getElem?_map] at h
  obtain ⟨j, hj, rfl⟩ := Option.map_eq_some_iff.mp h
  obtain ⟨h1, h2⟩ := List.getElem?_eq_some_iff.mp hj
  simp at h1 h2
  exact ⟨h1, by rw [← h2]⟩
theorem rangeD_len {lo : Int} {n : Nat} : (rangeD lo n).length = n := by simp [rangeD]
theorem its_rng {B : Hp} {lo : Int} {n : Nat} : ItS K B (Itr lo n) (rangeD lo n) := fun B1 H1 e1 e2 i =>
  ⟨fun d hd => by
    obtain ⟨h1, rfl⟩ := rangeD_at hd
    exact ⟨h1, fun x H2 ⟨a, b⟩ => by subst a; subst b; exact ⟨B1, Gr.refl e2, .int _⟩⟩, fun hi => by rw [rangeD_len] at hi; exact Nat.le_of_eq hi.symm⟩
theorem ei_rng1 {tr : TA} {n : Int} (h : EvA K S tr ρ [.int n]) (h0 : -(2 ^ 62) ≤ n) (hn : n ≤ 16000000) : EvI K S (iRng1 tr) ρ (rangeD 0 n.toNat) := fun B H Fr σ R w k => h B H Fr σ _ w fun vs B1 H1 g r => by
  cases r with
  | cons r t =>
    cases r
    cases t
    exact ⟨n, rfl, h0, by omega, k _ B1 H1 g its_rng (by rw [rangeD_len, sizeLine_eq]; omega)⟩
theorem ei_rng2 {tr : TA} {a b : Int} (h : EvA K S tr ρ [.int a, .int b]) (ha : -(2 ^ 62) ≤ a ∧ a < 2 ^ 62 ∧ -(2 ^ 62) ≤ b ∧ b < 2 ^ 62) (hn : b - a ≤ 16000000) : EvI K S (iRng2 tr) ρ (rangeD a (b - a).toNat) := fun B H Fr σ R w k => h B H Fr σ _ w fun vs B1 H1 g r => by
  cases r with
  | cons r t =>
    cases r
    cases t with
    | cons r t =>
      cases r
      cases t
      exact ⟨a, b, rfl, ha, k _ B1 H1 g its_rng (by rw [rangeD_len, sizeLine_eq]; omega)⟩
/-- a list or a tuple as data -/
def seqD (k : Bool) (ds : List D) : D := if k then .list ds else .tuple ds
theorem Rp.seq {B : Hp} {v : V} {k : Bool} {ds : List D} (h : Rp K B v (seqD k ds)) : ∃ a xs, v = .ref a ∧ SqK k K B a xs ∧ RpAll K B xs ds := by
  cases k with
  | true => cases h with | lst hl r => exact ⟨_, _, rfl, SqL.of hl, r⟩
  | false => cases h with | tup hl r => exact ⟨_, _, rfl, sqt_of hl, r⟩
theorem sqk_mono {B H : Hp} {k : Bool} {a : Addr} {xs : List V} (e : Ex B H) (h : SqK k K B a xs) : SqK k K H a xs := by
  cases k with
  | true => exact Evl.ex_l e (show SqL K B a xs from h)
  | false => exact Evl.ex_t e (show SqT K B a xs from h)
def enumD (ds : List D) : List D := ds.zipIdx.map fun p => .tuple [.int (p.2 : Nat), p.1]
def zipD (ds es : List D) : List D := (ds.zip es).map fun p => .tuple [p.1, p.2]
theorem gr_pair {B H : Hp} {T : Addr} {x y : V} {d e : D} (ex : Ex B H) (h : H T = none) (r1 : Rp K B x d) (r2 : Rp K B y e) : ∃ B2, Gr B H B2 (upd H T (.tup [x, y])) ∧ Rp K B2 (.ref T) (.tuple [d, e]) :=
  ⟨upd B T (.tup [x, y]), Gr.laid ex _ h, .tup upd_same (.cons (r1.mono (Ex.new (fresh_of ex h))) (.cons (r2.mono (Ex.new (fresh_of ex h))) .nil))⟩
theorem its_enum {B : Hp} {k : Bool} {a : Addr} {xs : List V} {ds : List D} (h : SqK k K B a xs) (r : RpAll K B xs ds) : ItS K B (IteK k K a xs) (enumD ds) := fun B1 H1 e1 e2 i => by
  have h1 := sqk_mono (e1.trans e2) h
  refine ⟨fun d hd => ?_, fun hi => ⟨h1, by rw [hi, r.length]; simp [enumD]⟩⟩
  unfold enumD at hd
  rw [List.getElem?_map] at hd
  obtain ⟨p, hp, rfl⟩ := Option.map_eq_some_iff.mp hd
  rw [List.getElem?_zipIdx] at hp
  obtain ⟨d, hd', rfl⟩ := Option.map_eq_some_iff.mp hp
  obtain ⟨v, hv, rv⟩ := r.getD hd'
  refine ⟨⟨h1, (List.getElem?_eq_some_iff.mp hv).1⟩, fun x H2 y => ?_⟩
  obtain ⟨T, u, rfl, hT, rfl, hu⟩ := y
  rw [hv] at hu
  cases hu
  simp only [Nat.zero_add]
  exact gr_pair e2 hT (.int _) (rv.mono e1)
theorem ei_enum {tr : TA} {k : Bool} {ds : List D} (h : EvA K S tr ρ [seqD k ds]) : EvI K S (iEnumK K tr) ρ (enumD ds) := fun B H Fr σ R w kk => h B H Fr σ _ w fun vs B1 H1 g r => by
  cases r with
  | cons r t =>
    cases t
    obtain ⟨a, xs, rfl, hs, ra⟩ := r.seq
    exact ⟨a, xs, k, rfl, sqk_mono g.sub hs, fun hz => kk _ B1 H1 g (its_enum hs ra) (by simp [enumD]; rw [← ra.length]; exact hz)⟩
theorem its_zip {B : Hp} {k1 k2 : Bool} {a b : Addr} {xs ys : List V} {ds es : List D} (h1 : SqK k1 K B a xs) (h2 : SqK k2 K B b ys) (r1 : RpAll K B xs ds) (r2 : RpAll K B ys es) : ItS K B (ItzK k1 k2 K a b xs ys) (zipD ds es) := fun B1 H1 e1 e2 i => by
  have q1 := sqk_mono (e1.trans e2) h1
  have q2 := sqk_mono (e1.trans e2) h2
  refine ⟨fun d hd => ?_, fun hi => ⟨q1, q2, by rw [hi, r1.length, r2.length]; simp [zipD]⟩⟩
  unfold zipD at hd
  rw [List.getElem?_map] at hd
  obtain ⟨p, hp, rfl⟩ := Option.map_eq_some_iff.mp hd
  rw [List.getElem?_zip_eq_some] at hp
  obtain ⟨v, hv, rv⟩ := r1.getD hp.1
  obtain ⟨u, hu, ru⟩ := r2.getD hp.2
  have l1 := (List.getElem?_eq_some_iff.mp hv).1
  have l2 := (List.getElem?_eq_some_iff.mp hu).1
  refine ⟨⟨q1, q2, by omega⟩, fun x H2 y => ?_⟩
  obtain ⟨T, v', u', rfl, hT, rfl, hv', hu'⟩ := y
  rw [hv] at hv'
  rw [hu] at hu'
  cases hv'
  cases hu'
  exact gr_pair e2 hT (rv.mono e1) (ru.mono e1)
theorem ei_zip {tr : TA} {k1 k2 : Bool} {ds es : List D} (h : EvA K S tr ρ [seqD k1 ds, seqD k2 es]) : EvI K S (iZipK K tr) ρ (zipD ds es) := fun B H Fr σ R w kk => h B H Fr σ _ w fun vs B1 H1 g r => by
  cases r with
  | cons r t =>
    cases t with
    | cons r' t =>
      cases t
      obtain ⟨a, xs, rfl, hs, ra⟩ := r.seq
      obtain ⟨b, ys, rfl, hs', ra'⟩ := r'.seq
      exact ⟨a, b, xs, ys, k1, k2, rfl, sqk_mono g.sub hs, sqk_mono g.sub hs', fun hz hz' => kk _ B1 H1 g (its_zip hs hs' ra ra') (by simp [zipD]; rw [← ra.length]; omega)⟩
/-! ### targets -/
def GtD (K : PySem.W.Frag) (S : Option (Addr × Addr)) (g : TG) (ρ : Env) (d : D) (ρ2 : Env) (js : List Nat) : Prop := ∀ (B H : Hp) (Fr : Set') (σ : L2.St) (x : V) (Q : L2.St → Hp → Prop), Wd K S B H Fr σ ρ → Rp K B x d →
  (∀ σ2, Wd K S B H Fr σ2 ρ2 → σ2.length = σ.length → (∀ j, j ∉ js → σ2[j]? = σ[j]?) → Q σ2 H) → g x σ H Q
def GsD (K : PySem.W.Frag) (S : Option (Addr × Addr)) (g : TGs) (ρ : Env) (ds : List D) (ρ2 : Env) (js : List Nat) : Prop := ∀ (B H : Hp) (Fr : Set') (σ : L2.St) (xs : List V) (Q : L2.St → Hp → Prop), Wd K S B H Fr σ ρ → RpAll K B xs ds →
  (∀ σ2, Wd K S B H Fr σ2 ρ2 → σ2.length = σ.length → (∀ j, j ∉ js → σ2[j]? = σ[j]?) → Q σ2 H) → g xs σ H Q
theorem Wd.putD {B H : Hp} {Fr : Set'} {σ : L2.St} {v : V} (w : Wd K S B H Fr σ ρ) (r : Rp K B v d) (i : Nat) : Wd K S B H Fr (σ.set i (some v)) (ρ.set i (some (.d d))) :=
  (w.less (G := fun a => Fr a ∨ False) fun a ha => ha.elim id fun z => z.elim).put (.d v d _ r fun _ z => z) (fun _ z => z.elim) i
theorem gt_name : GtD K S (gName i) ρ d (ρ.set i (some (.d d))) [i] := fun B H Fr σ x Q w r k => k _ (w.putD r i) (by simp) fun j hj => List.getElem?_set_ne (fun e => hj (by simp [e]))
theorem gs_nil : GsD K S gNil ρ [] ρ [] := fun B H Fr σ xs Q w r k => by cases r; exact ⟨rfl, k σ w rfl fun _ _ => rfl⟩
theorem gs_cons {g : TG} {gs : TGs} {ds : List D} {js js' : List Nat} (h : GtD K S g ρ d ρ1 js) (hs : GsD K S gs ρ1 ds ρ2 js') : GsD K S (gCons g gs) ρ (d :: ds) ρ2 (js ++ js') := fun B H Fr σ xs Q w r k => by
  cases r with
  | cons r1 r2 => exact ⟨_, _, rfl, h B H Fr σ _ _ w r1 fun σ2 w2 l2 e2 => hs B H Fr σ2 _ _ w2 r2 fun σ3 w3 l3 e3 => k σ3 w3 (l3.trans l2) fun j hj => (e3 j fun z => hj (by simp [z])).trans (e2 j fun z => hj (by simp [z]))⟩
theorem gt_tup {n : Nat} {gs : TGs} {ds : List D} {js : List Nat} (hs : GsD K S gs ρ ds ρ2 js) (hn : ds.length = n) : GtD K S (gTup K n gs) ρ (.tuple ds) ρ2 js := fun B H Fr σ x Q w r k => by
  cases r with
  | tup h ra => exact ⟨_, _, rfl, Evl.ex_t w.ex (sqt_of h), by rw [ra.length, hn], hs B H Fr σ _ _ w ra k⟩
/-! ### comprehensions -/
def wipeE (ρ : Env) : List Nat → Env
  | [] => ρ
  | v :: vs => (wipeE ρ vs).set v none
theorem wipeE_len (ρ : Env) : ∀ vs, (wipeE ρ vs).length = ρ.length
  | [] => rfl
  | v :: vs => by simp [wipeE, wipeE_len ρ vs]
theorem wipe_at {α : Type} (σ : List (Option α)) (wp : List (Option α) → List Nat → List (Option α)) (h0 : ∀ σ, wp σ [] = σ) (h1 : ∀ σ v vs, wp σ (v :: vs) = (wp σ vs).set v none) (i : Nat) : ∀ vs, (wp σ vs)[i]? = if i ∈ vs then σ[i]?.map fun _ => none else σ[i]?
  | [] => by simp [h0]
  | v :: vs => by
    have ih := wipe_at σ wp h0 h1 i vs
    rw [h1]
    by_cases e : v = i
    · subst e
      rw [List.getElem?_set_self']
      simp only [List.mem_cons, true_or, if_true]
      rw [ih]
      split <;> cases σ[v]? <;> rfl
    · rw [List.getElem?_set_ne e, ih]
      have : (i ∈ v :: vs) ↔ i ∈ vs := by simp [Ne.symm e]
      simp only [this]
theorem wipeE_at (ρ : Env) (i : Nat) (vs : List Nat) : (wipeE ρ vs)[i]? = if i ∈ vs then ρ[i]?.map fun _ => none else ρ[i]? := wipe_at ρ wipeE (fun _ => rfl) (fun _ _ _ => rfl) i vs
theorem wipeS_at (σ : L2.St) (i : Nat) (vs : List Nat) : (wipe σ vs)[i]? = if i ∈ vs then σ[i]?.map fun _ => none else σ[i]? := wipe_at σ wipe (fun _ => rfl) (fun _ _ _ => rfl) i vs
theorem Wd.wipe {B H : Hp} {Fr : Set'} {σ : L2.St} (w : Wd K S B H Fr σ ρ) (vs : List Nat) : Wd K S B H Fr (L2.wipe σ vs) (wipeE ρ vs) := by
  obtain ⟨Fs, h1, h2, h3⟩ := w.own
  refine ⟨w.ex, by rw [wipe_length, wipeE_len]; exact w.len, w.fr, w.src, Fs, fun i o e => ?_, h2, h3⟩
  rw [wipeE_at] at e
  split at e
  · cases q : ρ[i]? <;> rw [q] at e <;> cases e
  · rename_i hi
    obtain ⟨v, e1, q⟩ := h1 i o e
    exact ⟨v, by rw [wipeS_at, if_neg hi]; exact e1, q⟩
theorem wipe_same {σ σ2 : L2.St} {vs js : List Nat} (h : ∀ j, j ∉ js → σ2[j]? = (L2.wipe σ vs)[j]?) (hl : σ2.length = σ.length) (hs : ∀ j ∈ js, j ∈ vs) : L2.wipe σ2 vs = L2.wipe σ vs := by
  apply List.ext_getElem?
  intro i
  rw [wipeS_at, wipeS_at]
  by_cases hi : i ∈ vs
  · rw [if_pos hi, if_pos hi]
    by_cases hlt : i < σ.length
    · rw [List.getElem?_eq_getElem hlt, List.getElem?_eq_getElem (by omega)]; rfl
    · rw [List.getElem?_eq_none (by omega), List.getElem?_eq_none (by omega)]
  · rw [if_neg hi, if_neg hi, h i fun z => hi (hs i z), wipeS_at, if_neg hi]
theorem take_filter {α β : Type} {p : α → Bool} {f : α → β} {xs : List α} {i : Nat} {x : α} (h : xs[i]? = some x) : (((xs.take (i + 1)).filter p).map f) = ((xs.take i).filter p).map f ++ (if p x then [f x] else []) := by
  rw [List.take_add_one, h]
  simp only [Option.toList_some, List.filter_append, List.map_append]
  congr 1
  simp only [List.filter_cons, List.filter_nil]
  split <;> rfl
/-- [te for g in wi if tt] -/
theorem ev_lc {α : Type} {wi : TI} {g : TG} {vs : List Nat} (xs : List α) (e : α → D) (p : α → Bool) (f : α → D) (hi : EvI K S wi ρ (xs.map e))
    (hb : ∀ x, x ∈ xs → ∃ ρ2 js, GtD K S g (wipeE ρ vs) (e x) ρ2 js ∧ (∀ j ∈ js, j ∈ vs) ∧ EvT K S tt ρ2 (p x) ∧ (p x = true → EvD K S te ρ2 (f x))) :
    EvO K S (tLc wi g tt te vs) ρ (.l (((xs.filter p).map f).map O.d)) := fun B H Fr σ R w k => hi B H Fr σ _ w fun J B1 H1 g1 it hz => by
  intro Dl hD
  have hB1 := fresh_of g1.sub hD
  refine ⟨fun i m H' => m = xs.length - i ∧ i ≤ xs.length ∧ ∃ B' acc, Gr B1 H1 B' H' ∧ B' Dl = none ∧ H' Dl = some (.lst acc) ∧ RpAll K B' acc (((xs.take i).filter p).map f),
    ⟨xs.length, by simp, Nat.zero_le _, B1, [], Gr.made g1.sub _ hD, hB1, upd_same, by simpa using RpAll.nil⟩, ?_⟩
  rintro i m H' ⟨rfl, hle, B', acc, g2, hBD, hHD, ra⟩
  obtain ⟨go, stop⟩ := it B' H' g2.b g2.sub i
  by_cases hlt : i < xs.length
  · have hx := List.getElem?_eq_getElem hlt
    obtain ⟨go1, yl⟩ := go (e xs[i]) (by rw [List.getElem?_map, hx]; rfl)
    refine .inr ⟨go1, fun H3 => i + 1 ≤ xs.length ∧ ∃ B' acc, Gr B1 H1 B' H3 ∧ B' Dl = none ∧ H3 Dl = some (.lst acc) ∧ RpAll K B' acc (((xs.take (i + 1)).filter p).map f), fun H3 q => ⟨xs.length - (i + 1), by omega, rfl, q.1, q.2⟩, fun v H3 hy => ?_⟩
    obtain ⟨B3, g3, rv⟩ := yl v H3 hy
    obtain ⟨ρ2, js, hg, hjs, ht, he⟩ := hb xs[i] (List.getElem_mem hlt)
    have w3 := (((w.grow g1).grow g2).grow g3).wipe vs
    refine hg B3 H3 Fr _ v _ w3 rv fun σ2 w4 l4 eq => ⟨?_, ?_⟩
    · exact wipe_same eq (l4.trans (wipe_length σ vs)) hjs
    · refine ht B3 H3 Fr σ2 _ w4 fun B4 H4 g4 => ?_
      have hB3 : B3 Dl = none := g3.out hBD (by rw [hHD]; simp)
      have hH3 : H3 Dl = some (.lst acc) := g3.h _ _ hHD
      have hB4 : B4 Dl = none := g4.out hB3 (by rw [hH3]; simp)
      have hH4 : H4 Dl = some (.lst acc) := g4.h _ _ hH3
      cases hp : p xs[i] with
      | false =>
        refine ⟨hlt, B4, acc, (g2.trans g3).trans g4, hB4, hH4, ?_⟩
        rw [take_filter hx, hp]
        simpa using (ra.mono (g3.b.trans g4.b))
      | true =>
        refine (he hp).use (w4.grow g4) fun u B5 H5 g5 r5 => ⟨acc, g5.h _ _ hH4, ?_, hlt, B5, acc ++ [u], ?_, g5.out hB4 (by rw [hH4]; simp), upd_same, ?_⟩
        · have h1 := ra.length
          have h2 : (((xs.take i).filter p).map f).length ≤ i := by
            rw [List.length_map]
            exact Nat.le_trans (List.length_filter_le _ _) (by rw [List.length_take]; omega)
          have h3 : (xs.map e).length = xs.length := by simp
          omega
        · have g6 := ((g2.trans g3).trans g4).trans g5
          have hH1D : H1 Dl = none := hD
          refine ⟨g6.b, fun a u h => ?_, fun a u h => ?_, g6.new⟩
          · rw [upd_ne (ne_of_none h hH1D)]; exact g6.h a u h
          · rw [upd_ne (ne_of_none h (g5.out hB4 (by rw [hH4]; simp)))]; exact g6.sub a u h
        · rw [take_filter hx, hp]
          exact (ra.mono ((g3.b.trans g4.b).trans g5.b)).append (.cons r5 .nil)
  · have hi' : i = xs.length := by omega
    subst hi'
    refine .inl ⟨stop (by simp), ?_⟩
    rw [List.take_length] at ra
    refine k _ (fun a => a = Dl) B' H' (g1.trans g2) (Ow.newList hBD hHD ra) fun a z => z ▸ fresh_of g1.h hD
end
end DL

set_option Elab.async false
set_option linter.all false
set_option maxRecDepth 100000
set_option maxHeartbeats 2000000
/-! DLG: statements over data -/
namespace DL
open PySem PySem.Spec PyProof.Rows L2
open Evl (Ex Ex.refl Ex.trans Ex.new Ex.mut)
section
variable {K : PySem.W.Frag} {S : Option (Addr × Addr)} {ρ ρ' ρ1 ρ2 : Env} {ta tb te : TE} {tt tu : TT} {o o1 o2 : O} {x y z d : D} {i j : Nat}
/-- what is wanted behind a statement, in words of the slots -/
structure DE where
  nx : Env → Prop
  rt : O → Prop
  bk : Env → Prop := fun _ => False
  ct : Env → Prop := fun _ => False
/-- a state that is met behind: more is frozen, what is others' stands -/
structure Aft (S : Option (Addr × Addr)) (B H : Hp) (Fr : Set') (B' H' : Hp) : Prop where
  b : Ex B B'
  sub : Ex B' H'
  fr : ∀ a, Fr a → H' a = H a ∧ B' a = none
  src : ∀ p q, S = some (p, q) → SrcAt H' p q ∧ B' p = none ∧ B' q = none
theorem Aft.refl {B H : Hp} {Fr : Set'} {σ : L2.St} (w : Wd K S B H Fr σ ρ) : Aft S B H Fr B H :=
  ⟨Ex.refl B, w.ex, fun a ha => ⟨rfl, (w.fr a ha).1⟩, fun p q e => ⟨(w.src p q e).1, (w.src p q e).2.1, (w.src p q e).2.2.1⟩⟩
theorem Aft.trans {B H B1 H1 B2 H2 : Hp} {Fr : Set'} (a : Aft S B H Fr B1 H1) (b : Aft S B1 H1 Fr B2 H2) : Aft S B H Fr B2 H2 :=
  ⟨a.b.trans b.b, b.sub, fun x hx => ⟨(b.fr x hx).1.trans (a.fr x hx).1, (b.fr x hx).2⟩, b.src⟩
theorem Gr.aft {B H B' H' : Hp} {Fr : Set'} {σ : L2.St} (g : Gr B H B' H') (w : Wd K S B H Fr σ ρ) : Aft S B H Fr B' H' :=
  ⟨g.b, g.sub, fun a ha => ⟨ex_eq g.h (w.fr a ha).2, g.out (w.fr a ha).1 (w.fr a ha).2⟩, fun p q e => ⟨((w.grow g).src p q e).1, ((w.grow g).src p q e).2.1, ((w.grow g).src p q e).2.2.1⟩⟩
structure Ok (K : PySem.W.Frag) (S : Option (Addr × Addr)) (B H : Hp) (Fr : Set') (E : DE) (D : Ends) : Prop where
  nx : ∀ ρ' σ' B' H', E.nx ρ' → Aft S B H Fr B' H' → Wd K S B' H' Fr σ' ρ' → D.nx σ' H'
  bk : ∀ ρ' σ' B' H', E.bk ρ' → Aft S B H Fr B' H' → Wd K S B' H' Fr σ' ρ' → D.bk σ' H'
  ct : ∀ ρ' σ' B' H', E.ct ρ' → Aft S B H Fr B' H' → Wd K S B' H' Fr σ' ρ' → D.ct σ' H'
  rt : ∀ v o F B' H', E.rt o → Aft S B H Fr B' H' → Ow K S B' H' v o F → (∀ a, F a → ¬ Fr a ∧ ¬ SrcM S a) → D.rt v H'
theorem Ok.after {B H B1 H1 : Hp} {Fr : Set'} {E : DE} {D : Ends} (k : Ok K S B H Fr E D) (a : Aft S B H Fr B1 H1) : Ok K S B1 H1 Fr E D :=
  ⟨fun ρ' σ' B' H' e b => k.nx ρ' σ' B' H' e (a.trans b), fun ρ' σ' B' H' e b => k.bk ρ' σ' B' H' e (a.trans b), fun ρ' σ' B' H' e b => k.ct ρ' σ' B' H' e (a.trans b), fun v o F B' H' e b => k.rt v o F B' H' e (a.trans b)⟩
def StW (K : PySem.W.Frag) (S : Option (Addr × Addr)) (ts : TS) (ρ : Env) (E : DE) : Prop := ∀ (B H : Hp) (Fr : Set') (σ : L2.St) (D : Ends), Wd K S B H Fr σ ρ → Ok K S B H Fr E D → ts D σ H
/-- a stateful expression: the result a tree, the slots changed -/
def EvW (K : PySem.W.Frag) (S : Option (Addr × Addr)) (te : TE) (ρ : Env) (Q : O → Env → Prop) : Prop := ∀ (B H : Hp) (Fr : Set') (σ : L2.St) (R : VK), Wd K S B H Fr σ ρ →
  (∀ v o F ρ' B' H', Q o ρ' → Aft S B H Fr B' H' → Ow K S B' H' v o F → (∀ a, F a → ¬ Fr a) → Wd K S B' H' (fun a => Fr a ∨ F a) σ ρ' → R v H') → te σ H R
def EvTW (K : PySem.W.Frag) (S : Option (Addr × Addr)) (tt : TT) (ρ : Env) (Q : Bool → Env → Prop) : Prop := ∀ (B H : Hp) (Fr : Set') (σ : L2.St) (R : Bool → Hp → Prop), Wd K S B H Fr σ ρ →
  (∀ b ρ' B' H', Q b ρ' → Aft S B H Fr B' H' → Wd K S B' H' Fr σ ρ' → R b H') → tt σ H R
theorem EvO.w {Q : O → Env → Prop} (h : EvO K S te ρ o) (q : Q o ρ) : EvW K S te ρ Q := fun B H Fr σ R w k =>
  h B H Fr σ R w fun v F B' H' g qo n => k v o F ρ B' H' q (g.aft w) qo (fun a ha hf => (w.fr a hf).2 (n a ha)) (w.growAdd g (fun a ha => qo.there a ha) n)
theorem EvT.w {Q : Bool → Env → Prop} {b : Bool} (h : EvT K S tt ρ b) (q : Q b ρ) : EvTW K S tt ρ Q := fun B H Fr σ R w k =>
  h B H Fr σ R w fun B' H' g => k b ρ B' H' q (g.aft w) (w.grow g)
theorem EvW.mono {Q Q' : O → Env → Prop} (h : EvW K S te ρ Q) (m : ∀ o ρ', Q o ρ' → Q' o ρ') : EvW K S te ρ Q' := fun B H Fr σ R w k => h B H Fr σ R w fun v o F ρ' B' H' q => k v o F ρ' B' H' (m _ _ q)

/-! ### straight lines -/
variable {E : DE} {ts us : TS}
theorem sw_next (h : E.nx ρ) : StW K S tNext ρ E := fun B H Fr σ D w k => k.nx ρ σ B H h (Aft.refl w) w
theorem sw_seq (h : StW K S ts ρ { E with nx := fun ρ1 => StW K S us ρ1 E }) : StW K S (tSeq ts us) ρ E := fun B H Fr σ D w k =>
  h B H Fr σ _ w ⟨fun ρ' σ' B' H' e a w' => e B' H' Fr σ' D w' (k.after a), k.bk, k.ct, k.rt⟩
theorem sw_mono {E' : DE} (h : StW K S ts ρ E) (n : ∀ ρ, E.nx ρ → E'.nx ρ) (b : ∀ ρ, E.bk ρ → E'.bk ρ) (c : ∀ ρ, E.ct ρ → E'.ct ρ) (r : ∀ o, E.rt o → E'.rt o) : StW K S ts ρ E' := fun B H Fr σ D w k =>
  h B H Fr σ D w ⟨fun ρ' σ' B' H' e => k.nx ρ' σ' B' H' (n _ e), fun ρ' σ' B' H' e => k.bk ρ' σ' B' H' (b _ e), fun ρ' σ' B' H' e => k.ct ρ' σ' B' H' (c _ e), fun v o F B' H' e => k.rt v o F B' H' (r _ e)⟩
/-- slots may be forgotten -/
structure Le (ρ' ρ : Env) : Prop where
  len : ρ'.length = ρ.length
  at' : ∀ (i : Nat) o, ρ'[i]? = some (some o) → ρ[i]? = some (some o)
theorem Le.refl (ρ : Env) : Le ρ ρ := ⟨rfl, fun _ _ e => e⟩
theorem Le.nil : Le [] [] := Le.refl []
theorem Le.keep {r : Option O} (h : Le ρ' ρ) : Le (r :: ρ') (r :: ρ) := ⟨by simp [h.len], fun i o e => by cases i with | zero => exact e | succ i => exact h.at' i o e⟩
theorem Le.drop {r : Option O} (h : Le ρ' ρ) : Le (none :: ρ') (r :: ρ) := ⟨by simp [h.len], fun i o e => by cases i with | zero => simp at e | succ i => exact h.at' i o e⟩
theorem Le.trans (a : Le ρ ρ1) (b : Le ρ1 ρ2) : Le ρ ρ2 := ⟨a.len.trans b.len, fun i o e => b.at' i o (a.at' i o e)⟩
theorem Wd.le {B H : Hp} {Fr : Set'} {σ : L2.St} (w : Wd K S B H Fr σ ρ) (l : Le ρ' ρ) : Wd K S B H Fr σ ρ' := w.weak l.len l.at'
theorem sw_le (l : Le ρ' ρ) (h : StW K S ts ρ' E) : StW K S ts ρ E := fun B H Fr σ D w k => h B H Fr σ D (w.le l) k
/-- what is wanted may speak of fewer slots -/
theorem sw_wk (h : StW K S ts ρ { E with nx := fun ρ1 => ∃ ρ2, Le ρ2 ρ1 ∧ E.nx ρ2 }) : StW K S ts ρ E := fun B H Fr σ D w k =>
  h B H Fr σ D w ⟨fun ρ' σ' B' H' ⟨ρ2, l, e⟩ a w' => k.nx ρ2 σ' B' H' e a (w'.le l), k.bk, k.ct, k.rt⟩
theorem sw_asgW (h : EvW K S te ρ fun o ρ1 => E.nx (ρ1.set i (some o))) : StW K S (tAsg te (gName i)) ρ E := fun B H Fr σ D w k =>
  h B H Fr σ _ w fun v o F ρ' B' H' q a qo n w' => k.nx _ _ B' H' q a (w'.put qo n i)
theorem sw_asg (h : EvO K S te ρ o) (k : E.nx (ρ.set i (some o))) : StW K S (tAsg te (gName i)) ρ E := sw_asgW (h.w k)
theorem sw_drop (h : EvO K S te ρ o) (k : E.nx ρ) : StW K S (tDrop te) ρ E := fun B H Fr σ D w kk => h B H Fr σ _ w fun v F B' H' g q n => kk.nx ρ σ B' H' k (g.aft w) (w.grow g)
theorem sw_dropW (h : EvW K S te ρ fun _ ρ1 => E.nx ρ1) : StW K S (tDrop te) ρ E := fun B H Fr σ D w kk => h B H Fr σ _ w fun v o F ρ' B' H' q a qo n w' => kk.nx ρ' σ B' H' q a (w'.less fun _ z => .inl z)
theorem sw_retW (h : EvW K S te ρ fun o _ => E.rt o) : StW K S (tRet te) ρ E := fun B H Fr σ D w kk => h B H Fr σ _ w fun v o F ρ' B' H' q a qo n w' => kk.rt v o F B' H' q a qo fun a ha => ⟨n a ha, fun m => (w'.srcThere m).2.2 (.inr ha)⟩
theorem sw_ret (h : EvO K S te ρ o) (k : E.rt o) : StW K S (tRet te) ρ E := sw_retW (h.w k)
theorem sw_retN (k : E.rt (.d .none)) : StW K S tRetN ρ E := fun B H Fr σ D w kk => kk.rt .non _ (fun _ => False) B H k (Aft.refl w) (.d _ _ _ .non fun _ z => z) fun _ z => z.elim
/-- a slot's tree, handed over -/
theorem ew_mov {Q : O → Env → Prop} (h : ρ[i]? = some (some o)) (q : Q o (ρ.set i none)) : EvW K S (tVar i) ρ Q := fun B H Fr σ R w k => by
  obtain ⟨v, F, e, qo, n, w'⟩ := w.at h
  exact ⟨v, e, k v o F _ B H q (Aft.refl w) qo (fun a ha => (n a ha).1) w'⟩
theorem sw_if {b : Bool} (h : EvT K S tt ρ b) (h1 : b = true → StW K S ts ρ E) (h2 : b = false → StW K S us ρ E) : StW K S (tIfS tt ts us) ρ E := fun B H Fr σ D w k => h B H Fr σ _ w fun B1 H1 g => by
  have a : Aft S B H Fr B1 H1 := g.aft w
  cases b with
  | true => exact h1 rfl B1 H1 Fr σ D (w.grow g) (k.after a)
  | false => exact h2 rfl B1 H1 Fr σ D (w.grow g) (k.after a)
theorem sw_ifW (h : EvTW K S tt ρ fun b ρ1 => if b = true then StW K S ts ρ1 E else StW K S us ρ1 E) : StW K S (tIfS tt ts us) ρ E := fun B H Fr σ D w k => h B H Fr σ _ w fun b ρ1 B1 H1 q a w1 => by
  cases b with
  | true => exact (show StW K S ts ρ1 E from q) B1 H1 Fr σ D w1 (k.after a)
  | false => exact (show StW K S us ρ1 E from q) B1 H1 Fr σ D w1 (k.after a)
/-- a, b = x, y -/
theorem sw_par {tr : TA} (h : EvA K S tr ρ [x, y]) (k : E.nx ((ρ.set i (some (.d x))).set j (some (.d y)))) : StW K S (tPar i j tr) ρ E := fun B H Fr σ D w kk => h B H Fr σ _ w fun vs B1 H1 g r => by
  cases r with
  | cons r1 r => cases r with
    | cons r2 r => cases r; exact ⟨_, _, rfl, kk.nx _ _ B1 H1 k (g.aft w) (((w.grow g).putD r1 i).putD r2 j)⟩
theorem sw_par3 {tr : TA} {l : Nat} (h : EvA K S tr ρ [x, y, z]) (k : E.nx (((ρ.set i (some (.d x))).set j (some (.d y))).set l (some (.d z)))) : StW K S (tPar3 i j l tr) ρ E := fun B H Fr σ D w kk => h B H Fr σ _ w fun vs B1 H1 g r => by
  cases r with
  | cons r1 r => cases r with
    | cons r2 r => cases r with
      | cons r3 r => cases r; exact ⟨_, _, _, rfl, kk.nx _ _ B1 H1 k (g.aft w) ((((w.grow g).putD r1 i).putD r2 j).putD r3 l)⟩
/-- any target of frozen data -/
theorem sw_tgt {g : TG} {js : List Nat} (h : EvD K S te ρ d) (hg : GtD K S g ρ d ρ2 js) (k : E.nx ρ2) : StW K S (tAsg te g) ρ E := fun B H Fr σ D w kk => h.use w fun v B1 H1 gr r =>
  hg B1 H1 Fr σ v _ (w.grow gr) r fun σ2 w2 _ _ => kk.nx ρ2 σ2 B1 H1 k (gr.aft w) w2
/-! ### frozen slots -/
theorem Wd.frz_aft {B H : Hp} {Fr F : Set'} {σ : L2.St} (w : Wd K S (DL.frz B H F) H Fr σ ρ) (hF : ∀ a, F a → B a = none) : Aft S B H Fr (DL.frz B H F) H :=
  ⟨frz_ex hF, w.ex, fun a ha => ⟨rfl, (w.fr a ha).1⟩, fun p q e => ⟨(w.src p q e).1, (w.src p q e).2.1, (w.src p q e).2.2.1⟩⟩
theorem sw_frz (i : Nat) (h : ρ[i]? = some (some o)) (ns : NoSrc o) (k : StW K S ts (ρ.set i (some (.d o.data))) E) : StW K S ts ρ E := fun B H Fr σ D w kk => by
  obtain ⟨v, F, e, q, n, w'⟩ := w.frzAt h ns
  exact k _ H Fr σ D w' (kk.after (w'.frz_aft fun a ha => (q.there a ha).1))
/-! ### loops -/
theorem sw_for {α : Type} {wi : TI} {g : TG} {tb : TS} (xs : List α) (e : α → D) (I : Nat → Env → Prop) (hi : EvI K S wi ρ (xs.map e)) (h0 : I 0 ρ)
    (hs : ∀ i x ρ1, xs[i]? = some x → I i ρ1 → ∃ ρ2 js, GtD K S g ρ1 (e x) ρ2 js ∧ StW K S tb ρ2 { E with nx := fun ρ3 => ∃ ρ4, Le ρ4 ρ3 ∧ I (i + 1) ρ4, ct := fun ρ3 => ∃ ρ4, Le ρ4 ρ3 ∧ I (i + 1) ρ4, bk := E.nx })
    (hd : ∀ ρ1, I xs.length ρ1 → E.nx ρ1) : StW K S (tFor wi g tb) ρ E := fun B H Fr σ D w k => hi B H Fr σ _ w fun J B1 H1 g1 it hz => by
  have a1 : Aft S B H Fr B1 H1 := g1.aft w
  refine ⟨fun i m σ' H' => m = xs.length - i ∧ i ≤ xs.length ∧ ∃ ρ' B', I i ρ' ∧ Aft S B1 H1 Fr B' H' ∧ Wd K S B' H' Fr σ' ρ', ⟨xs.length, by simp, Nat.zero_le _, ρ, B1, h0, Aft.refl (w.grow g1), w.grow g1⟩, ?_⟩
  rintro i m σ' H' ⟨rfl, hle, ρ', B', hI, a2, w2⟩
  obtain ⟨go, stop⟩ := it B' H' a2.b a2.sub i
  by_cases hlt : i < xs.length
  · have hx := List.getElem?_eq_getElem hlt
    obtain ⟨go1, yl⟩ := go (e xs[i]) (by rw [List.getElem?_map, hx]; rfl)
    refine .inr ⟨go1, fun σ3 H3 => i + 1 ≤ xs.length ∧ ∃ ρ' B', I (i + 1) ρ' ∧ Aft S B1 H1 Fr B' H3 ∧ Wd K S B' H3 Fr σ3 ρ', fun σ3 H3 q => ⟨xs.length - (i + 1), by omega, rfl, q.1, q.2⟩, fun v H3 hy => ?_⟩
    obtain ⟨B3, g3, rv⟩ := yl v H3 hy
    obtain ⟨ρ2, js, hg, hb⟩ := hs i xs[i] ρ' hx hI
    have a3 : Aft S B1 H1 Fr B3 H3 := a2.trans (g3.aft w2)
    refine hg B3 H3 Fr σ' v _ (w2.grow g3) rv fun σ4 w4 _ _ => hb B3 H3 Fr σ4 _ w4 ⟨?_, ?_, ?_, ?_⟩
    · rintro ρ5 σ5 B5 H5 ⟨ρ6, le, hI6⟩ a5 w5
      exact ⟨hlt, ρ6, B5, hI6, a3.trans a5, w5.le le⟩
    · exact fun ρ5 σ5 B5 H5 q a5 w5 => k.nx ρ5 σ5 B5 H5 q ((a1.trans a3).trans a5) w5
    · rintro ρ5 σ5 B5 H5 ⟨ρ6, le, hI6⟩ a5 w5
      exact ⟨hlt, ρ6, B5, hI6, a3.trans a5, w5.le le⟩
    · exact fun v o F B5 H5 q a5 => k.rt v o F B5 H5 q ((a1.trans a3).trans a5)
  · have hi' : i = xs.length := by omega
    subst hi'
    exact .inl ⟨stop (by simp), k.nx ρ' σ' B' H' (hd ρ' hI) (a1.trans a2) w2⟩
/-- a loop told by a state s: one turn by step; P what holds between the turns -/
theorem sw_fold {α T : Type} {wi : TI} {g : TG} {tb : TS} (xs : List α) (e : α → D) (env : T → Env) (step : T → α → T) (s0 : T) (P : Nat → T → Prop) (hi : EvI K S wi ρ (xs.map e)) (h0 : Le (env s0) ρ) (hP : P 0 s0)
    (hs : ∀ i x s, xs[i]? = some x → P i s → s = (xs.take i).foldl step s0 → P (i + 1) (step s x) ∧ ∃ ρ2 js, GtD K S g (env s) (e x) ρ2 js ∧ StW K S tb ρ2 { E with nx := fun ρ3 => Le (env (step s x)) ρ3, ct := fun ρ3 => Le (env (step s x)) ρ3, bk := fun _ => False })
    (hd : ∀ ρ1, P xs.length (xs.foldl step s0) → Le (env (xs.foldl step s0)) ρ1 → E.nx ρ1) : StW K S (tFor wi g tb) ρ E := by
  refine sw_for xs e (fun i ρ1 => ∃ s, s = (xs.take i).foldl step s0 ∧ P i s ∧ Le (env s) ρ1) hi ⟨s0, by simp, hP, h0⟩ ?_ ?_
  · rintro i x ρ1 hx ⟨s, hs', hp, le⟩
    obtain ⟨hp', ρ2, js, hg, hb⟩ := hs i x s hx hp hs'
    refine ⟨ρ2, js, fun B H Fr σ v Q w r k => hg B H Fr σ v Q (w.le le) r k, sw_mono hb (fun ρ3 l => ⟨_, l, step s x, ?_, hp', Le.refl _⟩) (fun _ z => z.elim) (fun ρ3 l => ⟨_, l, step s x, ?_, hp', Le.refl _⟩) fun _ z => z⟩
    all_goals rw [List.take_add_one, hx, List.foldl_append, ← hs']; rfl
  · rintro ρ1 ⟨s, rfl, hp, le⟩
    rw [List.take_length] at hp le
    exact hd ρ1 hp le
end
end DL

set_option Elab.async false
set_option linter.all false
set_option maxRecDepth 100000
set_option maxHeartbeats 2000000
/-! DLH: defs that may ask repr (no guard stands around them), and the end of a row -/
namespace DL
open PySem PySem.Spec PyProof.Rows L2
/-- a def's promise where no guard is around -/
structure Gn (P : Program) (w : World) (K : PySem.W.Frag) (mg : Str → Option Value) (base : Heap) (k : Nat) (f : Addr) (fd : FuncData) (ps : List Str) (sp : Sp) : Prop where
  len : ∀ vs H Q E, sp vs H Q E → vs.length = ps.length
  run : ∀ (A : Around) (st : List PySem.Env) (s : Shared) (H : Hp) (args : Args) (us : List Value) (vs : List V) (Q : VK) (E : XK), A.guards = some [] → Room k A → Env0 P w K mg base A st s H →
    BindsTo s fd args (ps.zip us) → Vals vs us → sp vs H Q E → codeAny (model P w) A (.call (.ref f) args) (CR CX0 st P w H s Q E) s
section
variable {P : Program} {w : World} {K : PySem.W.Frag} {mg : Str → Option Value} {base : Heap}
theorem Gn.up {i j : Nat} {f : Addr} {fd : FuncData} {ps : List Str} {sp : Sp} (G : Gn P w K mg base i f fd ps sp) (h : i ≤ j) : Gn P w K mg base j f fd ps sp :=
  ⟨G.len, fun A st s H args us vs Q E g hr => G.run A st s H args us vs Q E g (hr.mono h)⟩
/-- what a body may lean on -/
structure CxB (P : Program) (w : World) (K : PySem.W.Frag) (mg : Str → Option Value) (base : Heap) (N : List Str) (sc : Scope) (k : Nat) (X : Cx) : Prop where
  prog : X.prog = P
  w : X.w = w
  K : X.K = K
  mg : X.mg = mg
  base : X.base = base
  room : Room k X.A
  gd : X.A.guards = some []
/-- by the body -/
theorem gn_of {x qual : Str} {st : Stmt} {f : Addr} {fd : FuncData} {N ps : List Str} {k : Nat} {sp : Sp} (F : Fun K x qual st f fd) (S : FnScope N ps (defScope st)) (len : ∀ vs H Q E, sp vs H Q E → vs.length = ps.length)
    (hb : ∀ (cdv : Value) (A : Around) (fs : List PySem.Env) (s : Shared) (H : Hp) (vs : List V) (Q : VK) (E : XK), (A.deeper (envOfC qual (defScope st) s.heap.objs.size f cdv)).guards = some [] → Room k (A.deeper (envOfC qual (defScope st) s.heap.objs.size f cdv)) → sp vs H Q E →
      ∃ t, PSs (cxOf CX0 P w K mg base N qual (defScope st) f cdv A fs s H E).nox (defBody st) t ∧ t { nx := fun _ H' => Q .non H', rt := Q } (start N vs) H) : Gn P w K mg base (k + 1) f fd ps sp := by
  obtain ⟨oc, od, kV, doc, pm, an, cdv, ct, osl, rfl, lk, hcd⟩ := F.ex
  refine ⟨len, fun A fs s H args us vs Q E gd hr e0 hbd r hsp => ?_⟩
  have hl := len _ _ _ _ hsp
  have KX : K.In s.heap := e0.mod.kin.keeps fun b o e => (e0.bs b o e).1
  have nl : s.heap.NoLimit := e0.mod.nolimit.keeps fun b o e => (e0.bs b o e).1
  have hkind : ∀ y ∈ ps.zip us, (defScope st).names.lookup y.1 = some .local ∨ ((defScope st).names.lookup y.1 = some .cell ∧ ((cellsFrom (s.heap.objs.size + 1) (defScope st).names []).lookup y.1).isSome = true) := fun ⟨n, v⟩ hy =>
    (S.par n (List.of_mem_zip hy).1).elim .inl fun q => .inr ⟨q, PySem.W.cellsFrom_some _ _ _ (.inl q)⟩
  refine codeAny_call_function hr.depth (KX _ _ lk) rfl S.co S.gen rfl (PySem.W.codeRec_of KX hcd) (hbd _ _ _ _ ?_)
  refine wpAny_newFunctionEnv_cells S.kind hkind ?_
  rintro env rfl s1 x
  refine ⟨nl.keeps x.toInCall.keep, codeAny_func ?_⟩
  obtain ⟨t, ht, hq⟩ := hb cdv A fs s H vs Q E (show A.guards = some [] from gd) (hr.deeper _) hsp
  have I := inv_start (CX := CX0) (E := E) (cd := cdv) S hr.hd e0 hl r x
  refine wpAny_mono (ht.nox.run [] s1 (start N vs) H _ I hq) (fun fl s' hs => ?_) fun e s' hs => hs
  cases fl with
  | ret u => obtain ⟨v, σ', H', J, rv, q⟩ := hs; exact ⟨v, H', J.os, J.bare, J.base, J.hok, rv, q⟩
  | next => obtain ⟨σ', H', J, q⟩ := hs; exact ⟨V.non, H', J.os, J.bare, J.base, J.hok, rfl, q⟩
  | brk => obtain ⟨_, _, _, q⟩ := hs; exact q.elim
  | cont => obtain ⟨_, _, _, q⟩ := hs; exact q.elim
end
/-! ### calls -/
section
variable {X : Cx} {k j : Nat} {f : Addr} {fd : FuncData} {ps : List Str} {sp : Sp} {x : Str} {p pos : Pos} {e : Expr} {es : List Expr} {t : TA}
/-- a def that may be called by its name -/
structure Ca (P : Program) (w : World) (K : PySem.W.Frag) (mg : Str → Option Value) (base : Heap) (k : Nat) (x : Str) (sp : Sp) : Prop where
  ex : ∃ (f : Addr) (fd : FuncData) (ps : List Str), Gn P w K mg base k f fd ps sp ∧ mg x = some (.ref f) ∧ PySem.W.keepIn K (.ref f) = true ∧ Binds K fd ps []
theorem run_gn {pins : List (Addr × Obj)} {σ : L2.St} {H : Hp} {s : Shared} {Q : VK} {us : List Value} {vs : List V} (G : Gn X.prog X.w X.K X.mg X.base k f fd ps sp) (hr : Room k X.A) (gd : X.A.guards = some []) (hb : Binds X.K fd ps [])
    (I : Inv X pins σ H s) (r : Vals vs us) (h : sp (vs ++ []) H Q E0) : wpAny (model X.prog X.w) X.A (call (.ref f) us) (EP X pins σ Q) X.xe s := by
  have r2 : Vals (vs ++ []) (us ++ []) := r.append .nil
  have hl : (us ++ []).length = ps.length := r2.length.symm.trans (G.len _ _ _ _ h)
  refine wpAny_call (codeAny_mono (G.run X.A X.stack s H ⟨us, []⟩ (us ++ []) (vs ++ []) Q E0 gd hr I.env0 (hb s us I.kIn hl) r2 h) fun r s' hq => ?_)
  cases r with
  | error e => exact False.elim hq
  | ok fl =>
    cases fl with
    | ret u => exact I.after hq
    | next => exact hq.elim
    | brk => exact hq.elim
    | cont => exact hq.elim
theorem pe_g (c : Ca X.prog X.w X.K X.mg X.base k x sp) (hr : Room j X.A) (gd : X.A.guards = some []) (hk : k ≤ j) (hg : Gl X x) (ha : PA X (e :: es) t) (hdb : (x == ("__debug__" : Str)) = false := by decide)
    (he : starEach (e :: es) X.env = (false, eval e X.env) :: starEach es X.env := by rfl) (hpl : (backTo pos (starEach es X.env)).any (·.1) = false := by rfl) : PE X (.Call (.Name x p) (e :: es) [] pos) (tCall sp [] E0 t) := by
  obtain ⟨f, fd, ps, G, hm, kp, hb⟩ := c.ex
  refine ⟨fun pins s σ H Q I h => wpAny_Call_Name_kw (ld_glob I hg hm ?_ hdb)⟩
  exact PySem.W.callWith_K (h₀ := X.base) I.ok.mod.kin kp (thn (ha.run pos pins s σ H _ I h) fun us s1 ⟨vs, H1, I1, r, q⟩ => ⟨I1.kIn, run_gn G (hr.mono hk) gd hb I1 r q⟩) he hpl
theorem pe_g0 (c : Ca X.prog X.w X.K X.mg X.base k x sp) (hr : Room j X.A) (gd : X.A.guards = some []) (hk : k ≤ j) (hg : Gl X x) (hdb : (x == ("__debug__" : Str)) = false := by decide) : PE X (.Call (.Name x p) [] [] pos) (tCall sp [] E0 tNil) := by
  obtain ⟨f, fd, ps, G, hm, kp, hb⟩ := c.ex
  refine ⟨fun pins s σ H Q I h => wpAny_Call_Name_kw (ld_glob I hg hm ?_ hdb)⟩
  exact PySem.W.callWith_K0 I.kIn kp (run_gn (us := []) G (hr.mono hk) gd hb I .nil h)
end
/-! ### the end -/
theorem law_g {P : Program} {w : World} {K : PySem.W.Frag} {mg mb : Str → Option Value} {k : Nat} {fa a : Addr} {fd : FuncData} {x : Str} {sp : Sp} {s₁ : Shared} {vs : List Value} {ns : List Int}
    (KX : K.In s₁.heap) (hns : s₁.heap.Ns mainGlobals mg) (hb : s₁.heap.Ns builtinsNs mb) (hbb : ∀ x : Str, x ≠ "__name__" → mb x = bootBuiltins x) (hlim : s₁.heap.NoLimit) (hg : s₁.gens = #[])
    (ha : s₁.heap.get? a = some { cls := .type "list", data := .seq vs.toArray }) (hi : IntsAre vs ns) (hl : ns.length ≤ sizeLine) (hr : Room k callerA)
    (F : ∀ base : Heap, K.In base → base.Ns mainGlobals mg → Gn P w K mg base k fa fd [x] sp) (hbind : ∀ (s : Shared) (u : Value), BindsTo s fd ⟨[u], []⟩ [(x, u)])
    (hsp : ∀ H : Hp, Only H → SqL K H a (ns.map V.int) → sp [.ref a] H (fun v _ => v = .bl true) fun _ _ _ => False) :
    codeAny (model P w) callerA (.call (.ref fa) ⟨[.ref a], []⟩) (fun r s' => r = .ok (.ret (.bool true)) ∧ OldK s₁.heap s'.heap ∧ s'.os = s₁.os ∧ AllBare s'.gens) s₁ := by
  have rv := vals_ints hi
  have core : ∀ H : Hp, Only H → SqL K H a (ns.map V.int) → HOk P w H s₁.heap → (∀ b, H b ≠ none → b = a) → (H a ≠ none → K.lookup a = none) →
      codeAny (model P w) callerA (.call (.ref fa) ⟨[.ref a], []⟩) (fun r s' => r = .ok (.ret (.bool true)) ∧ OldK s₁.heap s'.heap ∧ s'.os = s₁.os ∧ AllBare s'.gens) s₁ := by
    intro H hO hS hok hA hK
    have noA : ∀ {b : Addr} {o : Obj} {es : Array DictEntry} {ep : Nat}, s₁.heap.get? b = some o → o.data = .dict es ep → H b = none := fun {b o es ep} e d =>
      Classical.byContradiction fun z => by
        have e' := hA b z
        subst e'
        rw [ha] at e
        cases e
        exact absurd (show Data.seq vs.toArray _ = Data.dict es ep from d) (by simp)
    have nsK : ∀ {b : Addr} {m : Str → Option Value}, s₁.heap.Ns b m → (hidT s₁.heap H).Ns b m := fun {b m} ⟨o, es, ep, e, d, r⟩ => ⟨o, es, ep, hidT_get e (noA e d), d, r⟩
    have hKb : K.In (hidT s₁.heap H) := fun b o e => hidT_get (KX b o e) (Classical.byContradiction fun z => by
      have e' := hA b z
      subst e'
      have q := hK z
      rw [e] at q
      cases q)
    have hM : Mod K mg (hidT s₁.heap H) := ⟨hKb, nsK hns, ⟨mb, nsK hb, hbb⟩, hlim.imp fun mc h => ⟨nsK h.1, h.2⟩⟩
    have e0 : Env0 P w K mg (hidT s₁.heap H) callerA [] s₁ H := ⟨rfl, hM, fun b o e => of_hidT e, Nat.le_of_eq (hidT_size _ _), trivial, fun b hb => absurd (show b ∈ ([] : List Addr) from hb) (by simp), hok, .of_eq hg⟩
    refine codeAny_mono ((F _ hKb (nsK hns)).run callerA [] s₁ H ⟨[.ref a], []⟩ [.ref a] [.ref a] _ _ rfl hr e0 (hbind s₁ (.ref a)) (.cons rfl .nil) (hsp H hO hS)) fun r s' h => ?_
    cases r with
    | error e => exact False.elim h
    | ok fl =>
      cases fl with
      | next => exact False.elim h
      | brk => exact False.elim h
      | cont => exact False.elim h
      | ret u =>
        obtain ⟨v, H', os, bare, un, hok', r', q⟩ := h
        obtain rfl : v = .bl true := q
        obtain rfl : u = Value.bool true := r'
        refine ⟨rfl, OldK.of_keep fun b o e => ?_, os, bare⟩
        rcases hO b with z | ⟨ob, xs, z⟩
        · exact un.keep b o e z (by intro y; exact absurd (show b ∈ ([] : List Addr) from y) (by simp)) (by simp)
        · have e1 := (hok b _ z).1
          have e2 := (hok' b _ (un.frzs b ob _ z)).1
          rw [e] at e1
          cases e1
          exact e2
  cases hk : K.lookup a with
  | some o =>
    have e := KX a o hk
    rw [ha] at e
    cases e
    exact core (fun _ => none) (fun _ => .inl rfl) (.inr ⟨_, vs.toArray, _, hk, rfl, rfl, rfl, by rw [List.size_toArray, hi.length]; exact hl, by simpa using rv⟩) (fun b u z => absurd (show (none : Option HO) = some u from z) (by simp)) (fun b z => absurd rfl z) fun z => absurd rfl z
  | none =>
    refine core (fun b => if b = a then some (.frz { cls := .type "list", data := .seq vs.toArray } (.lst (ns.map V.int))) else none) (fun b => ?_) (.inl (.inr ⟨{ cls := .type "list", data := .seq vs.toArray }, if_pos rfl⟩)) (fun b u z => ?_) (fun b z => ?_) fun _ => hk
    · by_cases hb : b = a
      · exact .inr ⟨_, _, if_pos hb⟩
      · exact .inl (if_neg hb)
    · by_cases hb : b = a
      · have z' := (if_pos hb).symm.trans z
        cases z'
        subst hb
        exact ⟨ha, by rw [List.length_map]; exact hl, vs, _, rv, ha⟩
      · exact absurd ((if_neg hb).symm.trans z) (by simp)
    · by_cases hb : b = a
      · exact hb
      · exact absurd (if_neg hb) z
theorem walk_g {l : PySem.W.OpenLaw} {n k : Nat} {q : Program} {loose : List Str} {XP : (Str → Option Value) → Heap → Prop} {YP : World → Heap → Prop} {d : DefRec} {K : Params → PySem.W.Frag} {sp : World → Sp} {x : Str}
    (hn : l.most = some n) (hn2 : n ≤ sizeLine) (hdf : d.params.defaults = []) (hr : Room k callerA) (hY : ∀ (w : World) (h : Heap), YP w h → (K w.params).In h)
    (F : ∀ (w : World) (mg : Str → Option Value) (fa : Addr) (h : Heap), (K w.params).In h → h.Ns mainGlobals mg → mg d.name = some (.ref fa) →
      ∃ fd : FuncData, (∀ (s : Shared) (u : Value), BindsTo s fd ⟨[u], []⟩ [(x, u)]) ∧ ∀ base : Heap, (K w.params).In base → base.Ns mainGlobals mg → Gn l.prog w (K w.params) mg base k fa fd [x] (sp w))
    (hsp : ∀ (w : World) (H : Hp) (a : Addr) (ns : List Int), ns.length ≤ n → (∀ z ∈ ns, Builtin.Int.intBits z ≤ 1048576) → Only H → SqL (K w.params) H a (ns.map V.int) → sp w [.ref a] H (fun v _ => v = .bl true) fun _ _ _ => False) :
    PySem.W.WalkO q loose XP YP l.row.toRowW d [] (fun f vs => PySem.call f vs) :=
  Att.attach_callB hn hdf fun w s₀ s₁ mg mb fa o pm cd doc a vs ns G Y ho hd hcd hmg hobj hints hlen hbits hg => by
    obtain ⟨fd, hb, hF⟩ := F w mg fa _ (hY w _ Y) G.T.g hmg
    exact law_g (hY w _ Y) G.T.g G.T.b G.T.builtins G.T.nolimit hg hobj hints (Nat.le_trans hlen hn2) hr hF hb fun H hO hS => hsp w H a ns hlen hbits hO hS
end DL

set_option Elab.async false
set_option linter.all false
set_option maxRecDepth 100000
set_option maxHeartbeats 2000000
/-! DLI: promises of defs over data, calls, drawn values -/
namespace DL
open PySem PySem.Spec PyProof.Rows L2
open Evl (Ex Ex.refl Ex.trans Ex.new Ex.mut)
section
variable {K : PySem.W.Frag} {S : Option (Addr × Addr)} {B B' H H' : Hp} {Fr : Set'} {v : V} {o : O} {F : Set'}
theorem Ow.anyS (h : Ow K none B H v o F) : Ow K S B H v o F := by
  induction h with
  | d v x F h n => exact .d v x F h n
  | l p its F Fs hB hH ih hd hp hn hF IH => exact .l p its F Fs hB hH IH hd hp hn hF
  | kd p its F Fs hB hH ih hd hp hn hF IH => exact .kd p its F Fs hB hH IH hd hp hn hF
  | td p its F Fs hB hH ih hd hp hn hF IH => exact .td p its F Fs hB hH IH hd hp hn hF
  | src p q F hS n => cases hS
  | scr a ns F h n => exact .scr a ns F h n
/-- the slots at a def's entry -/
def ent (N : List Str) (ds : List D) : Env := ds.map (fun d => some (O.d d)) ++ List.replicate (N.length - ds.length) none
theorem RpAll.ent_at {vs : List V} {ds : List D} {N : List Str} (r : RpAll K B vs ds) {i : Nat} {o : O} (e : (ent N ds)[i]? = some (some o)) : ∃ v d, o = .d d ∧ (L2.start N vs)[i]? = some (some v) ∧ Rp K B v d := by
  have hl := r.length
  unfold ent at e
  by_cases hi : i < ds.length
  · rw [List.getElem?_append_left (by simpa using hi), List.getElem?_map] at e
    obtain ⟨d, hd, e2⟩ := Option.map_eq_some_iff.mp e
    cases e2
    obtain ⟨v, hv, rv⟩ := r.getD hd
    refine ⟨v, d, rfl, ?_, rv⟩
    unfold L2.start
    rw [List.getElem?_append_left (by rw [List.length_map]; omega), List.getElem?_map, hv]
    rfl
  · rw [List.getElem?_append_right (by simpa using hi), List.getElem?_replicate] at e
    split at e <;> cases e
theorem wd_ent {vs : List V} {ds : List D} {N : List Str} (r : RpAll K B vs ds) (ex : Ex B H) (fr : ∀ a, Fr a → B a = none ∧ H a ≠ none) : Wd K none B H Fr (L2.start N vs) (ent N ds) := by
  refine ⟨ex, ?_, fr, fun p q e => (by cases e), fun _ _ => False, fun i o e => ?_, fun i a z => z.elim, fun _ _ _ _ z => z.elim⟩
  · unfold L2.start ent; simp [r.length]
  · obtain ⟨v, d, rfl, e2, rv⟩ := r.ent_at e
    exact ⟨v, e2, .d _ _ _ rv fun _ z => z⟩
/-- a def of data: what it gives is f of its arguments -/
def SpF (K : PySem.W.Frag) {α : Type} (ok : α → Prop) (args : α → List D) (f : α → O) : Sp := fun vs H Q E => ∃ (x : α) (B : Hp) (Fr : Set'), ok x ∧ Ex B H ∧ (∀ a, Fr a → B a = none ∧ H a ≠ none) ∧ RpAll K B vs (args x) ∧
  ∀ v F B' H', Aft none B H Fr B' H' → Ow K none B' H' v (f x) F → (∀ a, F a → ¬ Fr a) → Q v H'
theorem spf_len {α : Type} {ok : α → Prop} {args : α → List D} {f : α → O} {n : Nat} (h : ∀ x, (args x).length = n) : ∀ vs H Q E, SpF K ok args f vs H Q E → vs.length = n := fun vs H Q E ⟨x, B, Fr, _, _, _, r, _⟩ => r.length.trans (h x)
theorem spf_use {α : Type} {ok : α → Prop} {args : α → List D} {f : α → O} {t : TS} {N : List Str} {vs : List V} {Q : VK} {E : XK} (hs : SpF K ok args f vs H Q E)
    (h : ∀ x, ok x → StW K none t (ent N (args x)) { nx := fun _ => f x = .d .none, rt := fun o => o = f x }) : t { nx := fun _ H' => Q .non H', rt := Q } (L2.start N vs) H := by
  obtain ⟨x, B, Fr, hx, ex, fr, r, k⟩ := hs
  refine h x hx B H Fr _ _ (wd_ent r ex fr) ⟨fun ρ' σ' B' H' e a w => ?_, fun _ _ _ _ z => z.elim, fun _ _ _ _ z => z.elim, fun v o F B' H' e a q n => ?_⟩
  · refine k .non (fun _ => False) B' H' a ?_ fun _ z => z.elim
    rw [e]
    exact .d _ _ _ .non fun _ z => z
  · subst e
    exact k v F B' H' a q fun a ha => (n a ha).1
/-- the others' places at a call: all that is there and not frozen -/
def oth (B H : Hp) : Set' := fun a => B a = none ∧ H a ≠ none
theorem Aft.gr (a : Aft none B H (oth B H) B' H') (ex : Ex B H) : Gr B H B' H' := by
  refine ⟨a.b, fun x u e => ?_, a.sub, fun x hx => ?_⟩
  · cases hb : B x with
    | none => rw [(a.fr x ⟨hb, by rw [e]; simp⟩).1, e]
    | some w =>
      have e2 := ex x w hb
      rw [e] at e2
      cases e2
      exact a.sub x _ (a.b x _ hb)
  · by_cases hb : B x = none
    · refine .inr ?_
      cases e : H x with
      | none => rfl
      | some u => exact absurd ((a.fr x ⟨hb, by rw [e]; simp⟩).2) hx
    · exact .inl hb
theorem ev_call {α : Type} {ok : α → Prop} {args : α → List D} {f : α → O} {tr : TA} {ρ : Env} (x : α) (ha : EvA K S tr ρ (args x)) (hx : ok x) : EvO K S (tCall (SpF K ok args f) [] E0 tr) ρ (f x) := fun B H Fr σ R w k =>
  ha B H Fr σ _ w fun vs B1 H1 g1 r => ⟨x, B1, oth B1 H1, hx, g1.sub, fun a h => h, by rw [List.append_nil]; exact r, fun v F B' H' a q n => by
    refine k v F B' H' (g1.trans (a.gr g1.sub)) q.anyS fun y hy => ?_
    have h1 := (q.there y hy).1
    have h2 := fresh_of a.b h1
    have h3 : H1 y = none := by
      cases e : H1 y with
      | none => rfl
      | some u => exact absurd ⟨h2, by rw [e]; simp⟩ (n y hy)
    exact fresh_of g1.h h3⟩
/-! ### drawn values -/
/-- growth but for the source -/
structure GrN (S : Option (Addr × Addr)) (B H B' H' : Hp) : Prop where
  b : Ex B B'
  sub : Ex B' H'
  keep : ∀ a, H a ≠ none → B a = none → ¬ SrcM S a → H' a = H a ∧ B' a = none
  src : ∀ p q, S = some (p, q) → SrcAt H' p q ∧ B' p = none ∧ B' q = none
theorem GrN.refl {σ : L2.St} {ρ : Env} (w : Wd K S B H Fr σ ρ) : GrN S B H B H := ⟨Ex.refl _, w.ex, fun _ _ h _ => ⟨rfl, h⟩, fun p q e => ⟨(w.src p q e).1, (w.src p q e).2.1, (w.src p q e).2.2.1⟩⟩
theorem GrN.trans {B2 H2 : Hp} (a : GrN S B H B' H') (b : GrN S B' H' B2 H2) : GrN S B H B2 H2 := ⟨a.b.trans b.b, b.sub, fun y h1 h2 n => by
  obtain ⟨e1, e2⟩ := a.keep y h1 h2 n
  obtain ⟨e3, e4⟩ := b.keep y (by rw [e1]; exact h1) e2 n
  exact ⟨e3.trans e1, e4⟩, b.src⟩
theorem Gr.n {σ : L2.St} {ρ : Env} (g : Gr B H B' H') (w : Wd K S B H Fr σ ρ) : GrN S B H B' H' := ⟨g.b, g.sub, fun a h1 h2 _ => ⟨ex_eq g.h h1, g.out h2 h1⟩, fun p q e => ⟨((w.grow g).src p q e).1, ((w.grow g).src p q e).2.1, ((w.grow g).src p q e).2.2.1⟩⟩
theorem GrN.aft {σ : L2.St} {ρ : Env} (g : GrN S B H B' H') (w : Wd K S B H Fr σ ρ) : Aft S B H Fr B' H' :=
  ⟨g.b, g.sub, fun a ha => g.keep a (w.fr a ha).2 (w.fr a ha).1 fun m => (w.srcThere m).2.2 ha, g.src⟩
theorem Wd.growN {σ : L2.St} {ρ : Env} (w : Wd K S B H Fr σ ρ) (g : GrN S B H B' H') : Wd K S B' H' Fr σ ρ := by
  obtain ⟨Fs, h1, h2, h3⟩ := w.own
  refine ⟨g.sub, w.len, fun a ha => ?_, fun p q e => ?_, Fs, fun i o e => ?_, h2, h3⟩
  · obtain ⟨e1, e2⟩ := g.keep a (w.fr a ha).2 (w.fr a ha).1 fun m => (w.srcThere m).2.2 ha
    exact ⟨e2, by rw [e1]; exact (w.fr a ha).2⟩
  · obtain ⟨s, b1, b2⟩ := g.src p q e
    obtain ⟨_, _, _, f1, f2⟩ := w.src p q e
    exact ⟨s, b1, b2, f1, f2⟩
  · obtain ⟨v, e1, q⟩ := h1 i o e
    exact ⟨v, e1, q.move g.b (fun a ha => (g.keep a (q.there a ha).2 (q.there a ha).1 (h2 i a ha).2).2) fun a ha => (g.keep a (q.there a ha).2 (q.there a ha).1 (h2 i a ha).2).1⟩
def EvN (K : PySem.W.Frag) (S : Option (Addr × Addr)) (te : TE) (ρ : Env) (Q : D → Prop) : Prop := ∀ (B H : Hp) (Fr : Set') (σ : L2.St) (R : VK), Wd K S B H Fr σ ρ →
  (∀ v d B' H', Q d → GrN S B H B' H' → Rp K B' v d → R v H') → te σ H R
def EvTN (K : PySem.W.Frag) (S : Option (Addr × Addr)) (tt : TT) (ρ : Env) (Q : Bool → Prop) : Prop := ∀ (B H : Hp) (Fr : Set') (σ : L2.St) (R : Bool → Hp → Prop), Wd K S B H Fr σ ρ →
  (∀ b B' H', Q b → GrN S B H B' H' → R b H') → tt σ H R
def EvAN (K : PySem.W.Frag) (S : Option (Addr × Addr)) (ta : TA) (ρ : Env) (Q : List D → Prop) : Prop := ∀ (B H : Hp) (Fr : Set') (σ : L2.St) (R : List V → Hp → Prop), Wd K S B H Fr σ ρ →
  (∀ vs ds B' H', Q ds → GrN S B H B' H' → RpAll K B' vs ds → R vs H') → ta σ H R
variable {ρ ρ2 : Env} {te ta tb : TE} {tt tu : TT} {Q Q1 Q2 : D → Prop} {d : D} {i : Nat}
theorem EvD.n (h : EvD K S te ρ d) (q : Q d) : EvN K S te ρ Q := fun B H Fr σ R w k => h.use w fun v B' H' g r => k v d B' H' q (g.n w) r
theorem EvT.n {b : Bool} {Q : Bool → Prop} (h : EvT K S tt ρ b) (q : Q b) : EvTN K S tt ρ Q := fun B H Fr σ R w k => h B H Fr σ R w fun B' H' g => k b B' H' q (g.n w)
theorem EvA.n {ta : TA} {ds : List D} {Q : List D → Prop} (h : EvA K S ta ρ ds) (q : Q ds) : EvAN K S ta ρ Q := fun B H Fr σ R w k => h B H Fr σ R w fun vs B' H' g r => k vs ds B' H' q (g.n w) r
theorem EvN.mono (h : EvN K S te ρ Q1) (m : ∀ d, Q1 d → Q2 d) : EvN K S te ρ Q2 := fun B H Fr σ R w k => h B H Fr σ R w fun v d B' H' q => k v d B' H' (m d q)
theorem EvTN.mono {Q1 Q2 : Bool → Prop} (h : EvTN K S tt ρ Q1) (m : ∀ d, Q1 d → Q2 d) : EvTN K S tt ρ Q2 := fun B H Fr σ R w k => h B H Fr σ R w fun d B' H' q => k d B' H' (m d q)
theorem EvAN.mono {ta : TA} {Q1 Q2 : List D → Prop} (h : EvAN K S ta ρ Q1) (m : ∀ d, Q1 d → Q2 d) : EvAN K S ta ρ Q2 := fun B H Fr σ R w k => h B H Fr σ R w fun vs d B' H' q => k vs d B' H' (m d q)
theorem ean_nil {Q : List D → Prop} (q : Q []) : EvAN K S tNil ρ Q := ea_nil.n q
theorem ean_cons {tr : TA} {Q1 : D → Prop} {Q2 : List D → Prop} (h : EvN K S ta ρ Q1) (hr : EvAN K S tr ρ Q2) : EvAN K S (tCons ta tr) ρ fun ds => ∃ d r, ds = d :: r ∧ Q1 d ∧ Q2 r := fun B H Fr σ R w k =>
  h B H Fr σ _ w fun v d B1 H1 q1 a1 r1 => hr B1 H1 Fr σ _ (w.growN a1) fun vs ds B2 H2 q2 a2 r2 => k (v :: vs) (d :: ds) B2 H2 ⟨d, ds, rfl, q1, q2⟩ (a1.trans a2) (.cons (r1.mono a2.b) r2)
/-- a new result, frozen -/
theorem Res.n {B H : Hp} {R : VK} {σ : L2.St} (w : Wd K S B H Fr σ ρ) (ns : NoSrc o) (k : ∀ v B' H', GrN S B H B' H' → Rp K B' v o.data → R v H') : Res K S B H o R := fun v F B' H' g q n => by
  have g2 : Gr B H (frz B' H' F) H' := ⟨g.b.trans (frz_ex fun a ha => (q.there a ha).1), g.h, frz_sub g.sub, fun a ha => by
    by_cases z : F a
    · exact .inr (n a z)
    · rw [frz_out z] at ha
      exact g.new a ha⟩
  exact k v _ H' (g2.n w) (q.frz ns)
theorem en_op {r : R2} (ha : EvN K S ta ρ Q1) (hb : EvN K S tb ρ Q2) (hr : ∀ x y, Q1 x → Q2 y → ∃ d, R2D K S r x y (.d d) ∧ Q d) : EvN K S (tOp r ta tb) ρ Q := fun B H Fr σ R w k =>
  ha B H Fr σ _ w fun v x B1 H1 q1 a1 r1 => hb B1 H1 Fr σ _ (w.growN a1) fun u y B2 H2 q2 a2 r2 => by
    obtain ⟨d, h, q⟩ := hr x y q1 q2
    exact h B2 H2 v u R a2.sub (r1.mono a2.b) r2 (Res.n (w.growN (a1.trans a2)) (.d d) fun z B' H' a rz => k z d B' H' q ((a1.trans a2).trans a) rz)
theorem en_cb {r : List V → Hp → VK → Prop} {tr : TA} {Qs : List D → Prop} (ha : EvAN K S tr ρ Qs) (hr : ∀ ds, Qs ds → ∃ o, NoSrc o ∧ RcD K S r ds o ∧ Q o.data) : EvN K S (tCB r tr) ρ Q := fun B H Fr σ R w k =>
  ha B H Fr σ _ w fun vs ds B1 H1 q1 a1 r1 => by
    obtain ⟨o, ns, h, q⟩ := hr ds q1
    exact h B1 H1 vs R a1.sub r1 (Res.n (w.growN a1) ns fun z B' H' a rz => k z o.data B' H' q (a1.trans a) rz)
theorem en_un {r : V → Hp → VK → Prop} (ha : EvN K S ta ρ Q1) (hr : ∀ x, Q1 x → ∃ o, NoSrc o ∧ R1D K S r x o ∧ Q o.data) : EvN K S (tUn r ta) ρ Q := fun B H Fr σ R w k =>
  ha B H Fr σ _ w fun v d B1 H1 q1 a1 r1 => by
    obtain ⟨o, ns, h, q⟩ := hr d q1
    exact h B1 H1 v R a1.sub r1 (Res.n (w.growN a1) ns fun z B' H' a rz => k z o.data B' H' q (a1.trans a) rz)
theorem en_then {r : V → Hp → VK → Prop} (ha : EvN K S ta ρ Q1) (hr : ∀ x, Q1 x → ∃ o, NoSrc o ∧ R1D K S r x o ∧ Q o.data) : EvN K S (tThen ta r) ρ Q := fun B H Fr σ R w k =>
  ha B H Fr σ _ w fun v d B1 H1 q1 a1 r1 => by
    obtain ⟨o, ns, h, q⟩ := hr d q1
    exact h B1 H1 v R a1.sub r1 (Res.n (w.growN a1) ns fun z B' H' a rz => k z o.data B' H' q (a1.trans a) rz)
theorem en_tup {tr : TA} {Qs : List D → Prop} (h : EvAN K S tr ρ Qs) (hq : ∀ ds, Qs ds → ds.length ≤ sizeLine ∧ Q (.tuple ds)) : EvN K S (tTup tr) ρ Q := fun B H Fr σ R w k =>
  h B H Fr σ _ w fun vs ds B1 H1 q a r => ⟨by rw [r.length]; exact (hq ds q).1, fun p hp => by
    have g := Gr.laid a.sub (.tup vs) hp
    exact k _ (.tuple ds) _ _ (hq ds q).2 (a.trans (g.n (w.growN a))) (.tup upd_same (r.mono (Ex.new (fresh_of a.sub hp))))⟩
theorem en_lst {tr : TA} {Qs : List D → Prop} (h : EvAN K S tr ρ Qs) (hq : ∀ ds, Qs ds → ds.length ≤ sizeLine ∧ Q (.list ds)) : EvN K S (tLst tr) ρ Q := fun B H Fr σ R w k =>
  h B H Fr σ _ w fun vs ds B1 H1 q a r => ⟨by rw [r.length]; exact (hq ds q).1, fun p hp => by
    have g := Gr.laid a.sub (.lst vs) hp
    exact k _ (.list ds) _ _ (hq ds q).2 (a.trans (g.n (w.growN a))) (.lst upd_same (r.mono (Ex.new (fresh_of a.sub hp))))⟩
theorem en_if {Qb : Bool → Prop} (h : EvTN K S tt ρ Qb) (h1 : Qb true → EvN K S ta ρ Q) (h2 : Qb false → EvN K S tb ρ Q) : EvN K S (tIf tt ta tb) ρ Q := fun B H Fr σ R w k => h B H Fr σ _ w fun b B1 H1 q a => by
  cases b with
  | true => exact h1 q B1 H1 Fr σ R (w.growN a) fun v d B2 H2 q2 a2 r2 => k v d B2 H2 q2 (a.trans a2) r2
  | false => exact h2 q B1 H1 Fr σ R (w.growN a) fun v d B2 H2 q2 a2 r2 => k v d B2 H2 q2 (a.trans a2) r2
theorem etn_tB {Qb : Bool → Prop} (h : EvN K S te ρ fun d => ∃ b, d = .bool b ∧ Qb b) : EvTN K S (tB te) ρ Qb := fun B H Fr σ R w k => h B H Fr σ _ w fun v d B1 H1 q a r => by
  obtain ⟨b, rfl, q⟩ := q
  cases r
  exact ⟨b, rfl, k b B1 H1 q a⟩
theorem etn_test {Qb : Bool → Prop} (h : EvN K S te ρ fun d => ∃ b, d = .bool b ∧ Qb b) : EvTN K S (tTest te) ρ Qb := fun B H Fr σ R w k => h B H Fr σ _ w fun v d B1 H1 q a r => by
  obtain ⟨b, rfl, q⟩ := q
  cases r
  exact ⟨b, rfl, k b B1 H1 q a⟩
theorem etn_and {Q1 Q2 Q : Bool → Prop} (h1 : EvTN K S tt ρ Q1) (h2 : Q1 true → EvTN K S tu ρ Q2) (q1 : Q1 true → ∀ b, Q2 b → Q b) (q2 : Q1 false → Q false) : EvTN K S (tAnd tt tu) ρ Q := fun B H Fr σ R w k => h1 B H Fr σ _ w fun b B1 H1 q a => by
  cases b with
  | true => exact h2 q B1 H1 Fr σ R (w.growN a) fun b B2 H2 q' a2 => k b B2 H2 (q1 q b q') (a.trans a2)
  | false => exact k false B1 H1 (q2 q) a
theorem etn_or {Q1 Q2 Q : Bool → Prop} (h1 : EvTN K S tt ρ Q1) (h2 : Q1 false → EvTN K S tu ρ Q2) (q1 : Q1 false → ∀ b, Q2 b → Q b) (q2 : Q1 true → Q true) : EvTN K S (tOr tt tu) ρ Q := fun B H Fr σ R w k => h1 B H Fr σ _ w fun b B1 H1 q a => by
  cases b with
  | false => exact h2 q B1 H1 Fr σ R (w.growN a) fun b B2 H2 q' a2 => k b B2 H2 (q1 q b q') (a.trans a2)
  | true => exact k true B1 H1 (q2 q) a
theorem EvN.w {Q : O → Env → Prop} {Q0 : D → Prop} (h : EvN K S te ρ Q0) (q : ∀ d, Q0 d → Q (.d d) ρ) : EvW K S te ρ Q := fun B H Fr σ R w k =>
  h B H Fr σ R w fun v d B' H' q0 g r => k v (.d d) (fun _ => False) ρ B' H' (q d q0) (g.aft w) (.d _ _ _ r fun _ z => z) (fun _ z => z.elim) ((w.growN g).less fun a z => z.elim id fun z => z.elim)
theorem EvTN.w {Q : Bool → Env → Prop} {Q0 : Bool → Prop} (h : EvTN K S tt ρ Q0) (q : ∀ d, Q0 d → Q d ρ) : EvTW K S tt ρ Q := fun B H Fr σ R w k =>
  h B H Fr σ R w fun b B' H' q0 g => k b ρ B' H' (q b q0) (g.aft w) (w.growN g)
/-- what a comprehension over drawn values may give -/
inductive LcR {α : Type} (Qt : α → Bool → Prop) (Qe : α → D → Prop) : List α → List D → Prop
  | nil : LcR Qt Qe [] []
  | out {xs ds x} : LcR Qt Qe xs ds → Qt x false → LcR Qt Qe (xs ++ [x]) ds
  | add {xs ds x d} : LcR Qt Qe xs ds → Qt x true → Qe x d → LcR Qt Qe (xs ++ [x]) (ds ++ [d])
theorem LcR.len {α : Type} {Qt : α → Bool → Prop} {Qe : α → D → Prop} {xs : List α} {ds : List D} (h : LcR Qt Qe xs ds) : ds.length ≤ xs.length := by
  induction h with
  | nil => simp
  | out h q ih => simp; omega
  | add h q e ih => simp; omega
theorem LcR.all {α : Type} {Qt : α → Bool → Prop} {Qe : α → D → Prop} {P : D → Prop} {xs : List α} {ds : List D} (h : LcR Qt Qe xs ds) (m : ∀ x d, x ∈ xs → Qe x d → P d) : ∀ d ∈ ds, P d := by
  induction h with
  | nil => simp
  | out h q ih => exact ih fun x d hx => m x d (by simp [hx])
  | add h q e ih =>
    intro y hy
    rcases List.mem_append.mp hy with hy | hy
    · exact ih (fun x d hx => m x d (by simp [hx])) y hy
    · simp at hy
      subst hy
      exact m _ _ (by simp) e
theorem LcR.full {α : Type} {Qt : α → Bool → Prop} {Qe : α → D → Prop} {xs : List α} {ds : List D} (h : LcR Qt Qe xs ds) (m : ∀ x b, Qt x b → b = true) : ds.length = xs.length := by
  induction h with
  | nil => rfl
  | out h q ih => cases m _ _ q
  | add h q e ih => simp [ih]
theorem take_snoc {α : Type} {xs : List α} {i : Nat} {x : α} (h : xs[i]? = some x) : xs.take (i + 1) = xs.take i ++ [x] := by rw [List.take_add_one, h]; rfl
theorem en_lc {α : Type} {wi : TI} {g : TG} {vs : List Nat} (xs : List α) (e : α → D) (Qt : α → Bool → Prop) (Qe : α → D → Prop) (hi : EvI K S wi ρ (xs.map e))
    (hb : ∀ x, x ∈ xs → ∃ ρ2 js, GtD K S g (wipeE ρ vs) (e x) ρ2 js ∧ (∀ j ∈ js, j ∈ vs) ∧ EvTN K S tt ρ2 (Qt x) ∧ (Qt x true → EvN K S te ρ2 (Qe x))) (hq : ∀ ds, LcR Qt Qe xs ds → Q (.list ds)) :
    EvN K S (tLc wi g tt te vs) ρ Q := fun B H Fr σ R w k => hi B H Fr σ _ w fun J B1 H1 g1 it hz => by
  intro Dl hD
  have w1 := w.grow g1
  have nS : ¬ SrcM S Dl := fun m => (w1.srcThere m).2.1 hD
  have gm := Gr.made w1.ex (.lst []) hD
  have init : GrN S B1 H1 B1 (upd H1 Dl (.lst [])) := gm.n w1
  refine ⟨fun i m H' => m = xs.length - i ∧ i ≤ xs.length ∧ ∃ B' acc ds, GrN S B1 H1 B' H' ∧ B' Dl = none ∧ H' Dl = some (.lst acc) ∧ RpAll K B' acc ds ∧ LcR Qt Qe (xs.take i) ds,
    ⟨xs.length, by simp, Nat.zero_le _, B1, [], [], init, fresh_of w1.ex hD, upd_same, .nil, by rw [List.take_zero]; exact .nil⟩, ?_⟩
  rintro i m H' ⟨rfl, hle, B', acc, ds, g2, hBD, hHD, ra, lc⟩
  have w2 := w1.growN g2
  obtain ⟨go, stop⟩ := it B' H' g2.b g2.sub i
  by_cases hlt : i < xs.length
  · have hx := List.getElem?_eq_getElem hlt
    obtain ⟨go1, yl⟩ := go (e xs[i]) (by rw [List.getElem?_map, hx]; rfl)
    refine .inr ⟨go1, fun H3 => i + 1 ≤ xs.length ∧ ∃ B' acc ds, GrN S B1 H1 B' H3 ∧ B' Dl = none ∧ H3 Dl = some (.lst acc) ∧ RpAll K B' acc ds ∧ LcR Qt Qe (xs.take (i + 1)) ds, fun H3 q => ⟨xs.length - (i + 1), by omega, rfl, q.1, q.2⟩, fun v H3 hy => ?_⟩
    obtain ⟨B3, g3, rv⟩ := yl v H3 hy
    obtain ⟨ρ2, js, hg, hjs, ht, he⟩ := hb xs[i] (List.getElem_mem hlt)
    have w3 := (w2.grow g3).wipe vs
    refine hg B3 H3 Fr _ v _ w3 rv fun σ2 w4 l4 eq => ⟨wipe_same eq (l4.trans (wipe_length σ vs)) hjs, ?_⟩
    have hB3 : B3 Dl = none := g3.out hBD (by rw [hHD]; simp)
    have hH3 : H3 Dl = some (.lst acc) := g3.h _ _ hHD
    refine ht B3 H3 Fr σ2 _ w4 fun b B4 H4 qt g4 => ?_
    obtain ⟨k1, k2⟩ := g4.keep Dl (by rw [hH3]; simp) hB3 nS
    rw [hH3] at k1
    have gA := (g2.trans (g3.n w2)).trans g4
    cases b with
    | false =>
      rw [if_neg Bool.false_ne_true]
      exact ⟨hlt, B4, acc, ds, gA, k2, k1, ra.mono (g3.b.trans g4.b), by rw [take_snoc hx]; exact .out lc qt⟩
    | true =>
      rw [if_pos rfl]
      refine he qt B4 H4 Fr σ2 _ (w4.growN g4) fun u d B5 H5 qd g5 r5 => ?_
      obtain ⟨k3, k4⟩ := g5.keep Dl (by rw [k1]; simp) k2 nS
      rw [k1] at k3
      refine ⟨acc, k3, ?_, hlt, B5, acc ++ [u], ds ++ [d], ?_, k4, upd_same, ?_, by rw [take_snoc hx]; exact .add lc qt qd⟩
      · have h1 := ra.length
        have h2 := lc.len
        rw [List.length_take] at h2
        rw [List.length_map] at hz
        omega
      · have gB := gA.trans g5
        refine ⟨gB.b, fun a u h => ?_, fun a h1 h2 n => ?_, fun p q e => ?_⟩
        · rw [upd_ne (ne_of_none h k4)]; exact gB.sub a u h
        · have hne : a ≠ Dl := fun z => h1 (z ▸ hD)
          rw [upd_ne hne]; exact gB.keep a h1 h2 n
        · obtain ⟨s, b1, b2⟩ := gB.src p q e
          have np : p ≠ Dl := fun z => nS ⟨p, q, e, .inl z.symm⟩
          have nq : q ≠ Dl := fun z => nS ⟨p, q, e, .inr z.symm⟩
          exact ⟨s.same (upd_ne np) (upd_ne nq), b1, b2⟩
      · exact (ra.mono ((g3.b.trans g4.b).trans g5.b)).append (.cons r5 .nil)
  · have hi' : i = xs.length := by omega
    subst hi'
    refine .inl ⟨stop (by simp), ?_⟩
    rw [List.take_length] at lc
    have hF : ∀ a, a = Dl → B' a = none := fun a z => by rw [z]; exact hBD
    have gE : GrN S B1 H1 (frz B' H' fun a => a = Dl) H' := by
      refine ⟨g2.b.trans (frz_ex hF), frz_sub g2.sub, fun a h1 h2 n => ?_, fun p q e => ?_⟩
      · have hne : a ≠ Dl := fun z => h1 (z ▸ hD)
        rw [frz_out (F := fun a => a = Dl) hne]
        exact g2.keep a h1 h2 n
      · obtain ⟨s, b1, b2⟩ := g2.src p q e
        have np : p ≠ Dl := fun z => nS ⟨p, q, e, .inl z.symm⟩
        have nq : q ≠ Dl := fun z => nS ⟨p, q, e, .inr z.symm⟩
        rw [frz_out (F := fun a => a = Dl) np, frz_out (F := fun a => a = Dl) nq]
        exact ⟨s, b1, b2⟩
    exact k _ (.list ds) _ H' (hq ds lc) ((g1.n w).trans gE) (.lst (by rw [frz_at (F := fun a => a = Dl) rfl]; exact hHD) (ra.mono (frz_ex hF)))
/-! ### defs that draw -/
/-- the first argument is the source -/
def SpN (K : PySem.W.Frag) {α : Type} (ok : α → Prop) (args : α → List D) (post : α → D → Prop) : Sp := fun vs H Q E => ∃ (x : α) (p q : Addr) (ws : List V) (B : Hp) (Fr : Set'), ok x ∧ vs = .ref p :: ws ∧ Ex B H ∧ (∀ a, Fr a → B a = none ∧ H a ≠ none) ∧
  (SrcAt H p q ∧ B p = none ∧ B q = none ∧ ¬ Fr p ∧ ¬ Fr q) ∧ RpAll K B ws (args x) ∧ ∀ v d B' H', post x d → Aft (some (p, q)) B H Fr B' H' → Rp K B' v d → Q v H'
def entS (N : List Str) (ds : List D) : Env := some O.src :: (ds.map (fun d => some (O.d d)) ++ List.replicate (N.length - (ds.length + 1)) none)
theorem wd_entS {vs : List V} {ds : List D} {N : List Str} {p q : Addr} (r : RpAll K B vs ds) (ex : Ex B H) (fr : ∀ a, Fr a → B a = none ∧ H a ≠ none) (s : SrcAt H p q ∧ B p = none ∧ B q = none ∧ ¬ Fr p ∧ ¬ Fr q) :
    Wd K (some (p, q)) B H Fr (L2.start N (.ref p :: vs)) (entS N ds) := by
  refine ⟨ex, ?_, fr, fun p' q' e => (by cases e; exact s), fun _ _ => False, fun i o e => ?_, fun i a z => z.elim, fun _ _ _ _ z => z.elim⟩
  · unfold L2.start entS; simp [r.length]
  · unfold entS at e
    cases i with
    | zero =>
      simp at e
      subst e
      exact ⟨.ref p, rfl, .src p q _ rfl fun _ z => z⟩
    | succ i =>
      have e' : (ent (List.replicate (N.length - 1) default) ds)[i]? = some (some o) := by
        unfold ent
        rw [List.length_replicate]
        have : N.length - 1 - ds.length = N.length - (ds.length + 1) := by omega
        rw [this]
        simpa using e
      obtain ⟨v, d, rfl, e2, rv⟩ := r.ent_at e'
      refine ⟨v, ?_, .d _ _ _ rv fun _ z => z⟩
      unfold L2.start at e2 ⊢
      rw [List.length_replicate] at e2
      have : N.length - 1 - vs.length = N.length - (vs.length + 1) := by omega
      rw [this] at e2
      simpa using e2
theorem spn_len {α : Type} {ok : α → Prop} {args : α → List D} {post : α → D → Prop} {n : Nat} (h : ∀ x, (args x).length + 1 = n) : ∀ vs H Q E, SpN K ok args post vs H Q E → vs.length = n := fun vs H Q E ⟨x, p, q, ws, B, Fr, _, e, _, _, _, r, _⟩ => by
  rw [e, List.length_cons, r.length]
  exact h x
theorem spn_use {α : Type} {ok : α → Prop} {args : α → List D} {post : α → D → Prop} {t : TS} {N : List Str} {vs : List V} {Q : VK} {E : XK} (hs : SpN K ok args post vs H Q E)
    (h : ∀ x p q, ok x → StW K (some (p, q)) t (entS N (args x)) { nx := fun _ => post x .none, rt := fun o => NoSrc o ∧ post x o.data }) : t { nx := fun _ H' => Q .non H', rt := Q } (L2.start N vs) H := by
  obtain ⟨x, p, q, ws, B, Fr, hx, rfl, ex, fr, s, r, k⟩ := hs
  refine h x p q hx B H Fr _ _ (wd_entS r ex fr s) ⟨fun ρ' σ' B' H' e a w => k .non .none B' H' e a .non, fun _ _ _ _ z => z.elim, fun _ _ _ _ z => z.elim, fun v o F B' H' e a qo n => ?_⟩
  refine k v o.data (frz B' H' F) H' e.2 ⟨a.b.trans (frz_ex fun y hy => (qo.there y hy).1), frz_sub a.sub, fun y hy => ?_, fun p' q' e' => ?_⟩ (qo.frz e.1)
  · rw [frz_out fun z => (n y z).1 hy]
    exact a.fr y hy
  · obtain ⟨s', b1, b2⟩ := a.src p' q' e'
    rw [frz_out fun z => (n _ z).2 ⟨p', q', e', .inl rfl⟩, frz_out fun z => (n _ z).2 ⟨p', q', e', .inr rfl⟩]
    exact ⟨s', b1, b2⟩
theorem en_call {α : Type} {ok : α → Prop} {args : α → List D} {post : α → D → Prop} {tr : TA} {j : Nat} (x : α) (hsrc : ρ[j]? = some (some .src)) (ha : EvA K S tr ρ (args x)) (hx : ok x) (hq : ∀ d, post x d → Q d) :
    EvN K S (tCall (SpN K ok args post) [] E0 (tCons (tVar j) tr)) ρ Q := fun B H Fr σ R w k => by
  obtain ⟨v, F, e, qo, _⟩ := w.at hsrc
  cases qo with
  | src p q _ hS n =>
  refine ⟨.ref p, e, ha B H Fr σ _ w fun vs B1 H1 g1 r => ?_⟩
  have w1 := w.grow g1
  obtain ⟨s, b1, b2, _⟩ := w1.src p q hS
  have hm : ∀ a, SrcM S a → a = p ∨ a = q := fun a ⟨p', q', e', m⟩ => by rw [hS] at e'; cases e'; exact m
  refine ⟨x, p, q, vs, B1, fun a => B1 a = none ∧ H1 a ≠ none ∧ ¬ SrcM S a, hx, by rw [List.append_nil], g1.sub, fun a h => ⟨h.1, h.2.1⟩, ⟨s, b1, b2, fun z => z.2.2 ⟨p, q, hS, .inl rfl⟩, fun z => z.2.2 ⟨p, q, hS, .inr rfl⟩⟩, r, fun v d B' H' pd a rv => ?_⟩
  exact k v d B' H' (hq d pd) ((g1.n w).trans ⟨a.b, a.sub, fun y h1 h2 n => a.fr y ⟨h2, h1, n⟩, fun p' q' e' => by rw [hS] at e'; cases e'; exact a.src p q rfl⟩) rv
end
end DL

set_option Elab.async false
set_option linter.all false
set_option maxRecDepth 100000
set_option maxHeartbeats 2000000
/-! DLJ: lists that are changed in place, drawn statements, while -/
namespace DL
open PySem PySem.Spec PyProof.Rows L2
open Evl (Ex Ex.refl Ex.trans Ex.new Ex.mut)
section
variable {K : PySem.W.Frag} {S : Option (Addr × Addr)} {B B' H H' : Hp} {Fr G F : Set'} {σ : L2.St} {ρ ρ1 : Env} {v : V} {o : O} {i : Nat}
theorem Wd.chg (w : Wd K S B H (fun a => Fr a ∨ F a) σ ρ) (h1 : ∀ a, ¬ F a → H' a = H a) (h2 : ∀ a, F a → H' a ≠ none) : Wd K S B H' (fun a => Fr a ∨ F a) σ ρ := by
  obtain ⟨Fs, q1, q2, q3⟩ := w.own
  refine ⟨fun a u e => ?_, w.len, fun a ha => ⟨(w.fr a ha).1, ?_⟩, fun p q e => ?_, Fs, fun i o e => ?_, q2, q3⟩
  · have : ¬ F a := fun z => by
      have := (w.fr a (.inr z)).1
      rw [e] at this
      cases this
    rw [h1 a this]
    exact w.ex a u e
  · by_cases z : F a
    · exact h2 a z
    · rw [h1 a z]; exact (w.fr a ha).2
  · obtain ⟨s, b1, b2, f1, f2⟩ := w.src p q e
    exact ⟨s.same (h1 p fun z => f1 (.inr z)) (h1 q fun z => f2 (.inr z)), b1, b2, f1, f2⟩
  · obtain ⟨v, e1, q⟩ := q1 i o e
    exact ⟨v, e1, q.move (Ex.refl B) (fun a ha => (q.there a ha).1) fun a ha => h1 a fun z => (q2 i a ha).1 (.inr z)⟩
theorem set_same {α : Type} {σ : List (Option α)} {i : Nat} {v : α} (e : σ[i]? = some (some v)) : σ.set i (some v) = σ := by
  apply List.ext_getElem?
  intro j
  by_cases hj : j = i
  · subst hj
    rw [List.getElem?_set_self (List.getElem?_eq_some_iff.mp e).1, e]
  · rw [List.getElem?_set_ne (Ne.symm hj)]
/-- a slot's tree is changed in place, and takes G up -/
theorem Wd.mod (w : Wd K S B H (fun a => Fr a ∨ G a) σ ρ) (e : ρ[i]? = some (some o)) (hG : ∀ a, G a → ¬ Fr a) : ∃ v F, σ[i]? = some (some v) ∧ Ow K S B H v o F ∧ (∀ a, F a → ¬ Fr a ∧ ¬ G a) ∧
    ∀ H' o' F', (∀ a, ¬ F a → H' a = H a) → (∀ a, F a → H' a ≠ none) → Ow K S B H' v o' F' → (∀ a, F' a → F a ∨ G a) → Wd K S B H' Fr σ (ρ.set i (some o')) ∧ Aft S B H Fr B H' := by
  obtain ⟨v, F, e1, q, n, w2⟩ := w.at e
  have nF : ∀ a, F a → ¬ Fr a ∧ ¬ G a := fun a ha => ⟨fun z => (n a ha).1 (.inl z), fun z => (n a ha).1 (.inr z)⟩
  refine ⟨v, F, e1, q, nF, fun H' o' F' h1 h2 q' hF' => ?_⟩
  have w3 := w2.chg h1 h2
  have w4 : Wd K S B H' (fun a => Fr a ∨ F' a) σ (ρ.set i none) := w3.less fun a ha => by
    rcases ha with ha | ha
    · exact .inl (.inl ha)
    · rcases hF' a ha with z | z
      · exact .inr z
      · exact .inl (.inr z)
  have w5 := w4.put q' (fun a ha z => (hF' a ha).elim (fun y => (nF a y).1 z) fun y => hG a y z) i
  rw [set_same e1, List.set_set] at w5
  exact ⟨w5, Ex.refl B, w5.ex, fun a ha => ⟨h1 a fun z => (nF a z).1 ha, (w.fr a (.inl ha)).1⟩, fun p q e => ⟨(w5.src p q e).1, (w5.src p q e).2.1, (w5.src p q e).2.2.1⟩⟩
/-- put behind a list -/
theorem Wd.app {xs : List O} (w : Wd K S B H (fun a => Fr a ∨ G a) σ ρ) (e : ρ[i]? = some (some (.l xs))) (q : Ow K S B H v o G) (hG : ∀ a, G a → ¬ Fr a) : ∃ p vs, σ[i]? = some (some (.ref p)) ∧ H p = some (.lst vs) ∧ vs.length = xs.length ∧
    Wd K S B (upd H p (.lst (vs ++ [v]))) Fr σ (ρ.set i (some (.l (xs ++ [o])))) ∧ Aft S B H Fr B (upd H p (.lst (vs ++ [v]))) := by
  obtain ⟨v', F, e1, q', n, k⟩ := w.mod e hG
  cases q' with
  | l p its _ Fs hB hH ih hd hp hn hF =>
  have hFp : F p := (hF p).mpr (.inl rfl)
  refine ⟨p, _, e1, hH, by simp, ?_⟩
  have e2 : its.map (·.2) ++ [o] = (its ++ [(v, o)]).map (·.2) := by simp
  have e3 : its.map (·.1) ++ [v] = (its ++ [(v, o)]).map (·.1) := by simp
  have hFs : ∀ j a, Fs j a → a ≠ p ∧ F a := fun j a h => ⟨fun z => hp j (z ▸ h), (hF a).mpr (.inr ⟨j, h⟩)⟩
  refine k (upd H p (.lst (its.map (·.1) ++ [v]))) (.l (its.map (·.2) ++ [o])) (fun a => F a ∨ G a) (fun a ha => upd_ne fun z => ha (z ▸ hFp)) (fun a ha => ?_) ?_ fun a h => h
  · by_cases z : a = p
    · subst z; rw [upd_same]; simp
    · rw [upd_ne z]; exact (w.at e).elim fun _ ⟨_, _, q2, _⟩ => by
        rcases (hF a).mp ha with y | ⟨j, y⟩
        · exact absurd y z
        · exact ((ih j _ (List.getElem?_eq_getElem (hn j a y))).there a y).2
  · rw [e2, e3]
    have nG : ¬ G p := (n p hFp).2
    refine .l p (its ++ [(v, o)]) _ (fun j a => if j = its.length then G a else Fs j a) hB upd_same (fun j x hx => ?_) (fun j l a hne hj hl => ?_) (fun j hj => ?_) (fun j a hj => ?_) fun a => ?_
    · by_cases hj : j = its.length
      · subst hj
        rw [List.getElem?_append_right (Nat.le_refl _)] at hx
        simp at hx
        subst hx
        exact (q.move (Ex.refl B) (fun a ha => (q.there a ha).1) fun a ha => upd_ne fun (z : a = p) => nG (z ▸ ha)).ofIff fun a => by simp
      · have hlt : j < its.length := by
          have := (List.getElem?_eq_some_iff.mp hx).1
          simp at this
          omega
        rw [List.getElem?_append_left hlt] at hx
        have q2 := ih j x hx
        exact (q2.move (Ex.refl B) (fun a ha => (q2.there a ha).1) fun a ha => upd_ne (hFs j a ha).1).ofIff fun a => by simp [hj]
    · try dsimp only at hj hl
      split at hj <;> split at hl
      · rename_i a1 a2; exact hne (a1.trans a2.symm)
      · exact (n a (hFs l a hl).2).2 hj
      · exact (n a (hFs j a hj).2).2 hl
      · exact hd j l a hne hj hl
    · try dsimp only at hj
      split at hj
      · exact nG hj
      · exact hp j hj
    · try dsimp only at hj
      rw [List.length_append, List.length_singleton]
      split at hj
      · omega
      · have := hn j a hj; omega
    · constructor
      · rintro (h | h)
        · rcases (hF a).mp h with h | ⟨j, h⟩
          · exact .inl h
          · refine .inr ⟨j, ?_⟩
            rw [if_neg (Nat.ne_of_lt (hn j a h))]; exact h
        · exact .inr ⟨its.length, by rw [if_pos rfl]; exact h⟩
      · rintro (h | ⟨j, h⟩)
        · exact .inl ((hF a).mpr (.inl h))
        · split at h
          · exact .inr h
          · exact .inl ((hF a).mpr (.inr ⟨j, h⟩))
/-- xs[j] = .. -/
theorem Wd.setL {xs : List O} {j : Nat} (w : Wd K S B H (fun a => Fr a ∨ G a) σ ρ) (e : ρ[i]? = some (some (.l xs))) (q : Ow K S B H v o G) (hG : ∀ a, G a → ¬ Fr a) (hj : j < xs.length) : ∃ p vs, σ[i]? = some (some (.ref p)) ∧ H p = some (.lst vs) ∧ vs.length = xs.length ∧
    Wd K S B (upd H p (.lst (vs.set j v))) Fr σ (ρ.set i (some (.l (xs.set j o)))) ∧ Aft S B H Fr B (upd H p (.lst (vs.set j v))) := by
  obtain ⟨v', F, e1, q', n, k⟩ := w.mod e hG
  cases q' with
  | l p its _ Fs hB hH ih hd hp hn hF =>
  have hFp : F p := (hF p).mpr (.inl rfl)
  refine ⟨p, _, e1, hH, by simp, ?_⟩
  rw [List.length_map] at hj
  have e2 : (its.map (·.2)).set j o = (its.set j (v, o)).map (·.2) := by rw [List.map_set]
  have e3 : (its.map (·.1)).set j v = (its.set j (v, o)).map (·.1) := by rw [List.map_set]
  have hFs : ∀ j a, Fs j a → a ≠ p ∧ F a := fun j a h => ⟨fun z => hp j (z ▸ h), (hF a).mpr (.inr ⟨j, h⟩)⟩
  refine k (upd H p (.lst ((its.map (·.1)).set j v))) (.l ((its.map (·.2)).set j o)) (fun a => a = p ∨ G a ∨ ∃ l, l ≠ j ∧ Fs l a) (fun a ha => upd_ne fun z => ha (z ▸ hFp)) (fun a ha => ?_) ?_ fun a h => ?_
  · by_cases z : a = p
    · subst z; rw [upd_same]; simp
    · rw [upd_ne z]
      rcases (hF a).mp ha with y | ⟨l, y⟩
      · exact absurd y z
      · exact ((ih l _ (List.getElem?_eq_getElem (hn l a y))).there a y).2
  · rw [e2, e3]
    have nG : ¬ G p := (n p hFp).2
    refine .l p (its.set j (v, o)) _ (fun l a => if l = j then G a else Fs l a) hB upd_same (fun l x hx => ?_) (fun l m a hne hl hm => ?_) (fun l hl => ?_) (fun l a hl => ?_) fun a => ?_
    · by_cases hlj : l = j
      · subst hlj
        rw [List.getElem?_set_self hj] at hx
        cases hx
        exact (q.move (Ex.refl B) (fun a ha => (q.there a ha).1) fun a ha => upd_ne fun (z : a = p) => nG (z ▸ ha)).ofIff fun a => by simp
      · rw [List.getElem?_set_ne (Ne.symm hlj)] at hx
        have q2 := ih l x hx
        exact (q2.move (Ex.refl B) (fun a ha => (q2.there a ha).1) fun a ha => upd_ne (hFs l a ha).1).ofIff fun a => by simp [hlj]
    · try dsimp only at hl hm
      split at hl <;> split at hm
      · rename_i a1 a2; exact hne (a1.trans a2.symm)
      · exact (n a (hFs m a hm).2).2 hl
      · exact (n a (hFs l a hl).2).2 hm
      · exact hd l m a hne hl hm
    · try dsimp only at hl
      split at hl
      · exact nG hl
      · exact hp l hl
    · try dsimp only at hl
      rw [List.length_set]
      split at hl
      · omega
      · exact hn l a hl
    · constructor
      · rintro (h | h | ⟨l, h1, h2⟩)
        · exact .inl h
        · exact .inr ⟨j, by rw [if_pos rfl]; exact h⟩
        · exact .inr ⟨l, by rw [if_neg h1]; exact h2⟩
      · rintro (h | ⟨l, h⟩)
        · exact .inl h
        · split at h
          · exact .inr (.inl h)
          · rename_i z; exact .inr (.inr ⟨l, z, h⟩)
  · rcases h with h | h | ⟨l, _, h⟩
    · subst h; exact .inl hFp
    · exact .inr h
    · exact .inl (hFs l a h).2
end
section
variable {K : PySem.W.Frag} {S : Option (Addr × Addr)} {ρ ρ1 ρ2 : Env} {ta tb te ti : TE} {tt : TT} {ts us : TS} {o : O} {x d : D} {i j : Nat} {E : DE}
/-- xs.append(e) -/
theorem sw_appW (hi : ∃ xs, ρ[i]? = some (some (.l xs))) (h : EvW K S te ρ fun o ρ1 => ∃ xs, ρ1[i]? = some (some (.l xs)) ∧ xs.length < sizeLine ∧ E.nx (ρ1.set i (some (.l (xs ++ [o]))))) : StW K S (tDrop (tBM K "list" rAppend (tVar i) (tCons te tNil))) ρ E := fun B H Fr σ D w k => by
  obtain ⟨xs0, e0⟩ := hi
  obtain ⟨v0, F0, ev0, q0, _⟩ := w.at e0
  cases q0 with
  | l p its _ Fs hB hH _ _ _ _ _ =>
  refine ⟨.ref p, ev0, .inl ⟨rfl, _, SqL.of hH⟩, h B H Fr σ _ w fun v o F ρ' B' H' ⟨xs, e1, hz, q⟩ a qo n w' => ?_⟩
  obtain ⟨p', vs, e2, h2, hl, w2, a2⟩ := w'.app e1 qo n
  rw [ev0] at e2
  cases e2
  exact ⟨p, vs, v, rfl, rfl, h2, by omega, k.nx _ σ B' _ q (a.trans a2) w2⟩
theorem sw_app {xs : List O} (hi : ρ[i]? = some (some (.l xs))) (h : EvO K S te ρ o) (hz : xs.length < sizeLine) (k : E.nx (ρ.set i (some (.l (xs ++ [o]))))) : StW K S (tDrop (tBM K "list" rAppend (tVar i) (tCons te tNil))) ρ E :=
  sw_appW ⟨xs, hi⟩ (h.w ⟨xs, hi, hz, k⟩)
theorem sw_appN {xs : List O} {Q : D → Prop} (hi : ρ[i]? = some (some (.l xs))) (h : EvN K S te ρ Q) (hz : xs.length < sizeLine) (k : ∀ d, Q d → E.nx (ρ.set i (some (.l (xs ++ [.d d]))))) : StW K S (tDrop (tBM K "list" rAppend (tVar i) (tCons te tNil))) ρ E :=
  sw_appW ⟨xs, hi⟩ (h.w fun d q => ⟨xs, hi, hz, k d q⟩)
/-- o[i] = v: a list or a dict -/
def rSetX : TSet := fun o i v H Q => rSetL o i v H Q ∨ rSetD o i v H Q
/-- xs[j] = e -/
theorem sw_setLW {n : Int} (h : EvW K S te ρ fun o ρ1 => ∃ xs l, ρ1[i]? = some (some (.l xs)) ∧ EvD K S ti ρ1 (.int n) ∧ ixN xs.length n = some l ∧ E.nx (ρ1.set i (some (.l (xs.set l o))))) : StW K S (tAsg te (gSub (tVar i) ti rSetX)) ρ E := fun B H Fr σ D w k => by
  refine h B H Fr σ _ w fun v o F ρ' B' H' ⟨xs, l, e1, hn, hl, q⟩ a qo n1 w' => ?_
  obtain ⟨v0, F0, ev0, q0, _⟩ := w'.at e1
  cases q0 with
  | l p its _ Fs hB hH _ _ _ _ _ =>
  refine ⟨.ref p, ev0, hn.use w' fun u B2 H2 g2 r2 => ?_⟩
  cases r2
  have hlt : l < (its.map (·.2)).length := (ixN_seq hl).2.1
  have w2 := w'.grow g2
  obtain ⟨p', vs, e2, h2, hl2, w3, a3⟩ := w2.setL (o := o) (v := v) e1 (qo.grow g2) n1 hlt
  rw [ev0] at e2
  cases e2
  refine .inl ⟨p, vs, n, l, rfl, rfl, h2, by rw [hl2]; exact hl, k.nx _ σ B2 _ q ((a.trans (g2.aft (w'.less fun a z => .inl z))).trans a3) w3⟩
theorem sw_setL {xs : List O} {n : Int} {l : Nat} (hi : ρ[i]? = some (some (.l xs))) (h : EvO K S te ρ o) (hn : EvD K S ti ρ (.int n)) (hl : ixN xs.length n = some l) (k : E.nx (ρ.set i (some (.l (xs.set l o))))) : StW K S (tAsg te (gSub (tVar i) ti rSetX)) ρ E :=
  sw_setLW (n := n) (h.w ⟨xs, l, hi, hn, hl, k⟩)
/-! drawn -/
theorem sw_asgN {Q : D → Prop} (h : EvN K S te ρ Q) (k : ∀ d, Q d → E.nx (ρ.set i (some (.d d)))) : StW K S (tAsg te (gName i)) ρ E := sw_asgW (h.w k)
theorem sw_retNd {Q : D → Prop} (h : EvN K S te ρ Q) (k : ∀ d, Q d → E.rt (.d d)) : StW K S (tRet te) ρ E := sw_retW (h.w k)
theorem sw_dropN {Q : D → Prop} (h : EvN K S te ρ Q) (k : E.nx ρ) : StW K S (tDrop te) ρ E := sw_dropW (h.w fun _ _ => k)
theorem sw_ifN {Q : Bool → Prop} (h : EvTN K S tt ρ Q) (h1 : Q true → StW K S ts ρ E) (h2 : Q false → StW K S us ρ E) : StW K S (tIfS tt ts us) ρ E := sw_ifW (h.w fun b q => by
  cases b with
  | true => rw [if_pos rfl]; exact h1 q
  | false => rw [if_neg Bool.false_ne_true]; exact h2 q)
/-- any target of drawn data -/
theorem sw_tgtN {g : TG} {Q : D → Prop} (h : EvN K S te ρ Q) (k : ∀ d, Q d → ∃ ρ2 js, GtD K S g ρ d ρ2 js ∧ E.nx ρ2) : StW K S (tAsg te g) ρ E := fun B H Fr σ D w kk => h B H Fr σ _ w fun v d B1 H1 q gr r => by
  obtain ⟨ρ2, js, hg, hk⟩ := k d q
  exact hg B1 H1 Fr σ v _ (w.growN gr) r fun σ2 w2 _ _ => kk.nx ρ2 σ2 B1 H1 hk (gr.aft w) w2
/-- a, b = x, y; a, b, c = x, y, z, drawn -/
theorem sw_parN {tr : TA} {Q : List D → Prop} (h : EvAN K S tr ρ Q) (k : ∀ ds, Q ds → ∃ x y, ds = [x, y] ∧ E.nx ((ρ.set i (some (.d x))).set j (some (.d y)))) : StW K S (tPar i j tr) ρ E := fun B H Fr σ D w kk => h B H Fr σ _ w fun vs ds B1 H1 q g r => by
  obtain ⟨x, y, rfl, q2⟩ := k ds q
  cases r with
  | cons r1 r => cases r with
    | cons r2 r => cases r; exact ⟨_, _, rfl, kk.nx _ _ B1 H1 q2 (g.aft w) (((w.growN g).putD r1 i).putD r2 j)⟩
theorem sw_par3N {tr : TA} {l : Nat} {Q : List D → Prop} (h : EvAN K S tr ρ Q) (k : ∀ ds, Q ds → ∃ x y z, ds = [x, y, z] ∧ E.nx (((ρ.set i (some (.d x))).set j (some (.d y))).set l (some (.d z)))) : StW K S (tPar3 i j l tr) ρ E := fun B H Fr σ D w kk => h B H Fr σ _ w fun vs ds B1 H1 q g r => by
  obtain ⟨x, y, z, rfl, q2⟩ := k ds q
  cases r with
  | cons r1 r => cases r with
    | cons r2 r => cases r with
      | cons r3 r => cases r; exact ⟨_, _, _, rfl, kk.nx _ _ B1 H1 q2 (g.aft w) ((((w.growN g).putD r1 i).putD r2 j).putD r3 l)⟩
/-- a, b = an owned thing and data, or data and an owned thing: one at a time -/
theorem sw_while {tb : TS} (I : Nat → Env → Prop) (h0 : ∃ m, I m ρ) (hs : ∀ m ρ1, I m ρ1 → EvTW K S tt ρ1 fun b ρ2 => if b = true then StW K S tb ρ2 { E with nx := fun ρ3 => ∃ m' ρ4, m' < m ∧ Le ρ4 ρ3 ∧ I m' ρ4, ct := fun ρ3 => ∃ m' ρ4, m' < m ∧ Le ρ4 ρ3 ∧ I m' ρ4, bk := E.nx } else E.nx ρ2) : StW K S (tWhile tt tb) ρ E := fun B H Fr σ D w k => by
  obtain ⟨m0, h0⟩ := h0
  refine ⟨fun m σ' H' => ∃ ρ' B', I m ρ' ∧ Aft S B H Fr B' H' ∧ Wd K S B' H' Fr σ' ρ', ⟨m0, ρ, B, h0, Aft.refl w, w⟩, ?_⟩
  rintro m σ1 H1 ⟨ρ1, B1, hI, a1, w1⟩
  refine hs m ρ1 hI B1 H1 Fr σ1 _ w1 fun b ρ2 B2 H2 q a2 w2 => ?_
  have a12 := a1.trans a2
  cases b with
  | false => exact k.nx ρ2 σ1 B2 H2 q a12 w2
  | true =>
    refine ⟨fun σ3 H3 => ∃ m', m' < m ∧ ∃ ρ' B', I m' ρ' ∧ Aft S B H Fr B' H3 ∧ Wd K S B' H3 Fr σ3 ρ', fun _ _ z => z, ?_⟩
    refine (show StW K S tb ρ2 _ from q) B2 H2 Fr σ1 _ w2 ⟨?_, ?_, ?_, ?_⟩
    · rintro ρ5 σ5 B5 H5 ⟨m', ρ6, lt, le, hI6⟩ a5 w5
      exact ⟨m', lt, ρ6, B5, hI6, a12.trans a5, w5.le le⟩
    · exact fun ρ5 σ5 B5 H5 q a5 w5 => k.nx ρ5 σ5 B5 H5 q (a12.trans a5) w5
    · rintro ρ5 σ5 B5 H5 ⟨m', ρ6, lt, le, hI6⟩ a5 w5
      exact ⟨m', lt, ρ6, B5, hI6, a12.trans a5, w5.le le⟩
    · exact fun v o F B5 H5 q a5 => k.rt v o F B5 H5 q (a12.trans a5)
theorem sw_whileD {tb : TS} (I : Nat → Env → Prop) (h0 : ∃ m, I m ρ) (hs : ∀ m ρ1, I m ρ1 → ∃ b, EvT K S tt ρ1 b ∧ (b = true → StW K S tb ρ1 { E with nx := fun ρ3 => ∃ m' ρ4, m' < m ∧ Le ρ4 ρ3 ∧ I m' ρ4, ct := fun ρ3 => ∃ m' ρ4, m' < m ∧ Le ρ4 ρ3 ∧ I m' ρ4, bk := E.nx }) ∧ (b = false → E.nx ρ1)) : StW K S (tWhile tt tb) ρ E :=
  sw_while I h0 fun m ρ1 h => by
    obtain ⟨b, ht, h1, h2⟩ := hs m ρ1 h
    refine ht.w ?_
    cases b with
    | true => rw [if_pos rfl]; exact h1 rfl
    | false => rw [if_neg Bool.false_ne_true]; exact h2 rfl
end
/-! ### the source is opened -/
section
variable {K : PySem.W.Frag}
def SpO (K : PySem.W.Frag) : Sp := fun vs H Q E => ∃ (a : Addr) (ns : List Int) (B : Hp) (Fr : Set'), vs = [.ref a] ∧ SqL K B a (ns.map V.int) ∧ ns.length ≤ 63 ∧ (∀ z ∈ ns, Builtin.Int.intBits z ≤ 1048576) ∧ Ex B H ∧ (∀ a, Fr a → B a = none ∧ H a ≠ none) ∧
  ∀ p q B' H', Aft none B H Fr B' H' → SrcAt H' p q → B' p = none → B' q = none → ¬ Fr p → ¬ Fr q → H p = none → H q = none → Q (.ref p) H'
/-- what of a frozen world stays when S changes -/
theorem Ow.toS {S : Option (Addr × Addr)} {B H : Hp} {v : V} {o : O} {F : Set'} (h : Ow K S B H v o F) (n : NoSrc o) : Ow K none B H v o F := by
  induction h with
  | d v x F h n' => exact .d v x F h n'
  | l p its F Fs hB hH ih hd hp hn hF IH => cases n with | l _ m => exact .l p its F Fs hB hH (fun i x e => IH i x e (m _ (List.mem_map.mpr ⟨x, List.mem_of_getElem? e, rfl⟩))) hd hp hn hF
  | kd p its F Fs hB hH ih hd hp hn hF IH => cases n with | kd _ m => exact .kd p its F Fs hB hH (fun i x e => IH i x e (m _ (List.mem_map.mpr ⟨x, List.mem_of_getElem? e, rfl⟩))) hd hp hn hF
  | td p its F Fs hB hH ih hd hp hn hF IH => cases n with | td _ m => exact .td p its F Fs hB hH (fun i x e => IH i x e (m _ (List.mem_map.mpr ⟨x, List.mem_of_getElem? e, rfl⟩))) hd hp hn hF
  | src p q F hS n' => cases n
  | scr a ns F h n' => cases n
/-- source = _law_open_cells(script); the rest -/
theorem sw_open {us : TS} {ρ : Env} {E : DE} {i j : Nat} {ns : List Int} (hs : ρ[j]? = some (some (.scr ns))) (hn : ns.length ≤ 63) (hb : ∀ z ∈ ns, Builtin.Int.intBits z ≤ 1048576) (nS : ∀ o, E.rt o → NoSrc o)
    (h : ∀ p q, StW K (some (p, q)) us (ρ.set i (some .src)) { rt := E.rt, nx := fun _ => False }) : StW K none (tSeq (tAsg (tCall (SpO K) [] E0 (tCons (tVar j) tNil)) (gName i)) us) ρ E := fun B H Fr σ D w k => by
  obtain ⟨v, F, e, q, n, w1⟩ := w.at hs
  cases q with
  | scr a _ _ hl hn' =>
  refine ⟨.ref a, e, a, ns, B, oth B H, by simp, hl, hn, hb, w.ex, fun a h => h, fun p q B' H' af s b1 b2 f1 f2 h1 h2 => ?_⟩
  have g := af.gr w.ex
  have w2 := w.grow g
  have w3 : Wd K (some (p, q)) B' H' Fr σ ρ := by
    obtain ⟨Fs, q1, q2, q3⟩ := w.own
    obtain ⟨Fs', q1', q2', q3'⟩ := w2.own
    refine ⟨w2.ex, w2.len, w2.fr, fun p' q' e' => by cases e'; exact ⟨s, b1, b2, fun z => (w.fr _ z).2 h1, fun z => (w.fr _ z).2 h2⟩, fun l a => Fs l a ∧ H a ≠ none, fun l o e => ?_, fun l a hl => ⟨(q2 l a hl.1).1, fun ⟨p', q', e', m⟩ => ?_⟩, fun l m a ne h1 h2 => q3 l m a ne h1.1 h2.1⟩
    · obtain ⟨v, e1, qo⟩ := q1 l o e
      exact ⟨v, e1, ((qo.grow g).anyS).ofIff fun a => ⟨fun z => ⟨z, (qo.there a z).2⟩, fun z => z.1⟩⟩
    · cases e'
      rcases m with m | m
      · subst m; exact hl.2 h1
      · subst m; exact hl.2 h2
  have w4 : Wd K (some (p, q)) B' H' Fr (σ.set i (some (.ref p))) (ρ.set i (some .src)) := (w3.less (G := fun a => Fr a ∨ False) fun a z => z.elim id fun z => z.elim).put (.src p q _ rfl fun _ z => z) (fun _ z => z.elim) i
  refine h p q B' H' Fr _ D w4 ⟨fun _ _ _ _ z => z.elim, fun _ _ _ _ z => z.elim, fun _ _ _ _ z => z.elim, fun v o F B'' H'' ho a qo no => ?_⟩
  exact k.rt v o F B'' H'' ho ⟨g.b.trans a.b, a.sub, fun y hy => ⟨(a.fr y hy).1.trans (ex_eq g.h (w.fr y hy).2), (a.fr y hy).2⟩, fun _ _ z => by cases z⟩ (qo.toS (nS o ho)) fun y hy => ⟨(no y hy).1, fun ⟨_, _, z, _⟩ => by cases z⟩
/-- the promise of a law -/
def SpL (K : PySem.W.Frag) : Sp := fun vs H Q E => ∃ (a : Addr) (ns : List Int), vs = [.ref a] ∧ SqL K H a (ns.map V.int) ∧ ns.length ≤ 63 ∧ (∀ z ∈ ns, Builtin.Int.intBits z ≤ 1048576) ∧ ∀ H', Q (.bl true) H'
theorem spl_use {t : TS} {N : List Str} {vs : List V} {H : Hp} {Q : VK} {E : XK} (hs : SpL K vs H Q E)
    (h : ∀ ns : List Int, ns.length ≤ 63 → (∀ z ∈ ns, Builtin.Int.intBits z ≤ 1048576) → StW K none t (some (.scr ns) :: List.replicate (N.length - 1) none) { nx := fun _ => False, rt := fun o => o = .d (.bool true) }) : t { nx := fun _ H' => Q .non H', rt := Q } (L2.start N vs) H := by
  obtain ⟨a, ns, rfl, hl, hn, hb, k⟩ := hs
  refine h ns hn hb H H (fun _ => False) _ _ ⟨Ex.refl H, ?_, fun _ z => z.elim, fun _ _ z => (by cases z), fun _ _ => False, fun i o e => ?_, fun _ _ z => z.elim, fun _ _ _ _ z => z.elim⟩ ⟨fun _ _ _ _ z => z.elim, fun _ _ _ _ z => z.elim, fun _ _ _ _ z => z.elim, fun v o F B' H' e a q n => ?_⟩
  · unfold L2.start; simp
  · cases i with
    | zero =>
      simp at e
      subst e
      exact ⟨.ref a, rfl, .scr a ns _ hl fun _ z => z⟩
    | succ i =>
      rw [List.getElem?_cons_succ, List.getElem?_replicate] at e
      split at e <;> cases e
  · subst e
    cases q with
    | d _ _ _ r _ => cases r; exact k H'
end
end DL

set_option Elab.async false
set_option linter.all false
set_option maxRecDepth 100000
set_option maxHeartbeats 2000000
/-! DLK: short words for derivations; the operations on data -/
namespace DL
open PySem PySem.Spec PyProof.Rows L2
open Evl (Ex Ex.refl Ex.trans Ex.new Ex.mut)
/-! ### derivations -/
theorem bo_len : bootBuiltins "len" = some (.builtin "len") := by decide +kernel
theorem bo_sum : bootBuiltins "sum" = some (.builtin "sum") := by decide +kernel
theorem bo_max : bootBuiltins "max" = some (.builtin "max") := by decide +kernel
theorem bo_min : bootBuiltins "min" = some (.builtin "min") := by decide +kernel
theorem bo_all : bootBuiltins "all" = some (.builtin "all") := by decide +kernel
theorem bo_any : bootBuiltins "any" = some (.builtin "any") := by decide +kernel
theorem bo_abs : bootBuiltins "abs" = some (.builtin "abs") := by decide +kernel
theorem bo_repr : bootBuiltins "repr" = some (.builtin "repr") := by decide +kernel
theorem bo_sorted : bootBuiltins "sorted" = some (.builtin "sorted") := by decide +kernel
theorem bo_isinstance : bootBuiltins "isinstance" = some (.builtin "isinstance") := by decide +kernel
theorem bo_tuple : bootBuiltins "tuple" = some (.type "tuple") := by decide +kernel
theorem bo_list : bootBuiltins "list" = some (.type "list") := by decide +kernel
theorem bo_int : bootBuiltins "int" = some (.type "int") := by decide +kernel
theorem bo_bool : bootBuiltins "bool" = some (.type "bool") := by decide +kernel
theorem bo_str : bootBuiltins "str" = some (.type "str") := by decide +kernel
theorem bo_dict : bootBuiltins "dict" = some (.type "dict") := by decide +kernel
section
variable {X : Cx} {k : Nat}
theorem hu64 (hr : Room k X.A) : X.A.units + 64 < cLine := by have := hr.un; omega
theorem hu65 (hr : Room k X.A) : X.A.units + 65 < cLine := by have := hr.un; omega
theorem hu1 (hr : Room k X.A) : X.A.units + 1 < cLine := by have := hr.un; omega
abbrev rEqY (K : PySem.W.Frag) : R2 := fun x y H Q => rEq x y H Q ∨ rEqX K x y H Q
abbrev rNeY (K : PySem.W.Frag) : R2 := fun x y H Q => rNe x y H Q ∨ rNeX K x y H Q
variable {K : PySem.W.Frag}
theorem op_addR (hK : X.K = K) : OpR X (binaryOp .Add) (rAddD K) := hK ▸ op_addD
theorem op_mulR (hK : X.K = K) : OpR X (binaryOp .Mult) (rMulD K) := hK ▸ op_mulD
theorem op_eqR (hK : X.K = K) (hr : Room k X.A) : OpR X (compareOp .Eq) (rEqY K) := hK ▸ op_eq.or (op_eqX (hu64 hr))
theorem op_neR (hK : X.K = K) (hr : Room k X.A) : OpR X (compareOp .NotEq) (rNeY K) := hK ▸ op_ne.or (op_neX (hu64 hr))
theorem op_ltR (hK : X.K = K) (hr : Room k X.A) : OpR X (compareOp .Lt) (rLtX K (fun i j => decide (i < j)) PySem.W.dataLt) := hK ▸ op_lt' (hu64 hr)
theorem op_gtR (hK : X.K = K) (hr : Room k X.A) : OpR X (compareOp .Gt) (rLtX K (fun i j => decide (j < i)) fun d e => PySem.W.dataLt e d) := hK ▸ op_gt' (hu64 hr)
theorem op_leR (hK : X.K = K) (hr : Room k X.A) : OpR X (compareOp .LtE) (rLtX K (fun i j => decide (i ≤ j)) fun d e => !PySem.W.dataLt e d) := hK ▸ op_le' (hu64 hr)
theorem op_geR (hK : X.K = K) (hr : Room k X.A) : OpR X (compareOp .GtE) (rLtX K (fun i j => decide (j ≤ i)) fun d e => !PySem.W.dataLt d e) := hK ▸ op_ge' (hu64 hr)
theorem op_inR (hK : X.K = K) (hr : Room k X.A) : OpR X (compareOp .In) (rInX K false) := hK ▸ op_inX (hu65 hr)
theorem op_notInR (hK : X.K = K) (hr : Room k X.A) : OpR X (compareOp .NotIn) (rInX K true) := hK ▸ op_notInX (hu65 hr)
theorem ix_R (hK : X.K = K) (hr : Room k X.A) : IxR X (rIxX K) := hK ▸ ix_X (hu1 hr)
theorem sl_R (hK : X.K = K) : SlR X (rSlX K) := hK ▸ sl_X
theorem cr_lenR (hK : X.K = K) : CallR X (.builtin "len") (rLenX K) := hK ▸ call_lenX
theorem cr_isR (hK : X.K = K) : CallR X (.builtin "isinstance") (rIsX K) := hK ▸ call_isX
theorem cr_sumR (hK : X.K = K) (hc : X.calm = true) : CallR X (.builtin "sum") (rSumX K) := hK ▸ cr_sumX hc
theorem cr_allR (hK : X.K = K) (hc : X.calm = true) : CallR X (.builtin "all") (rAll K) := hK ▸ cr_all hc
theorem cr_anyR (hK : X.K = K) (hc : X.calm = true) : CallR X (.builtin "any") (rAny K) := hK ▸ cr_any hc
/-- the view d.values() at p -/
def valsO (p d : Addr) : HO := .ext fun h => h.IsValuesView p d
theorem valsO_ok {P : Program} {w : World} {H : Hp} {h : Heap} {p d : Addr} (e : h.get? p = some { cls := .type "dict_values", data := .fields #[.ref d] }) : ObjOk P w H h p (valsO p d) :=
  ⟨⟨_, e, rfl, rfl⟩, ⟨_, e⟩, fun h1 h2 x k => let ⟨o, ho, r⟩ := x; ⟨o, k o ho, r⟩⟩
def tDVal (td : TE) : TE := fun σ H Q => td σ H fun x H1 => ∃ a kvs, x = V.ref a ∧ Rd H1 a (.dK kvs) ∧ ∀ p, H1 p = none → Q (.ref p) (upd H1 p (valsO p a))
theorem pe_dval {o : Expr} {apos mpos : Pos} {td : TE} (hd : PE X o td) (hbase : attributeBase o "values" X.env (eval o X.env) = eval o X.env := by rfl) (hline : (apos.endLine == mpos.line) = true := by rfl) :
    PE X (.Call (.Attribute o "values" apos) [] [] mpos) (tDVal td) := by
  refine ⟨fun pins s σ H Q I h => ?_⟩
  refine wpAny_Call_method0_late hbase hline (thn (hd.run pins s σ H _ I h) fun v s1 ⟨x, H1, I1, r1, a, kvs, ex, ha, q⟩ => ?_)
  subst ex
  obtain rfl : v = Value.ref a := r1
  obtain ⟨_, hsys, vs, rel, dof⟩ := dk_rd I1.hok ha
  obtain ⟨ep, dat⟩ := dof.dictAt
  obtain ⟨ob, es, ho, ex, hdat, hko, hpr, hnd⟩ := dat
  refine ⟨"dict", "dict.values", F.plainAttrs_dict, F.slot_dict_values, F.type_dict_values, ⟨ob, ho, ex.1⟩, fun b e => ?_, Calls.callWith_builtin rfl (PySem.evalArgs_none ?_)⟩
  · cases e
    exact ⟨ob, ho, ex.2.1⟩
  refine call_meetsIn F.slot_dict_values ⟨ob, ho, ex.1⟩ F.entry_dict_values (F.args_dict_values_1 _) (meets_dict_values (mixKind X.prog X.w) a hsys) ⟨⟨vs, dof⟩, ?_⟩
  have hf : H1 s1.heap.objs.size = none := I1.hok.fresh (Nat.le_refl _)
  exact ⟨.ref s1.heap.objs.size, upd H1 s1.heap.objs.size (valsO s1.heap.objs.size a), I1.laid (t' := s1.toks) (fun b u e => Heap.get?_push_of_some _ e) (Nat.le_refl _) (valsO_ok (Heap.get?_push_size _ rfl)), rfl, q _ hf⟩
/-- list(d.values()) -/
theorem call_listV (hcalm : X.calm = true) : CallR X (.type "list") (fun xs H Q => ∃ (p a : Addr) (kvs : List (Key × V)), xs = [.ref p] ∧ H p = some (valsO p a) ∧ Rd H a (.dK kvs) ∧ ∀ l, H l = none → Q (.ref l) (upd H l (.lst (kvs.map fun kv => kv.2)))) := by
  intro pins s σ H xs us Q I r q
  obtain ⟨p, a, kvs, ex, hp, hd, q⟩ := q
  subst ex
  obtain ⟨u, eu, rx⟩ := vals1 r
  subst eu
  cases rx
  obtain ⟨z, lo, vs, rel, dd⟩ := dk_rd I.hok hd
  obtain ⟨ep, hat⟩ := dd.dictAt
  have hv : s.heap.IsValuesView p a := (I.hok p _ hp).1
  refine PySem.W.kdl_call (PySem.W.kdl_values (knd := mixKind X.prog X.w) (kvs := vs) (ep := ep)) (I.ok.hd hcalm) ⟨hv, hat⟩ (by rw [← rel.length]; exact z) fun h' tk acc c' hk hD hacc => ?_
  have ea : acc.toList = vs.map (·.2) := PySem.W.kdl_vals_eq acc.toList (by rw [Array.length_toList]; exact hacc.1) fun j v e => hacc.2 j v (by rw [← Array.getElem?_toList]; exact e)
  have rv : ∀ {kvs : List (Key × V)} {vs : List (Key × Value)}, KV kvs vs → Vals (kvs.map fun kv => kv.2) (vs.map (·.2)) := by
    intro kvs vs r
    unfold KV at r
    induction r with
    | nil => exact .nil
    | cons r t ih => exact .cons r.2 ih
  refine ⟨.ref s.heap.objs.size, upd H s.heap.objs.size (.lst (kvs.map fun kv => kv.2)), I.laid (t' := tk) hk (Nat.le_refl _)
    (show ObjOk X.prog X.w _ _ _ (.lst (kvs.map fun kv => kv.2)) from ⟨by rw [List.length_map]; exact z, acc.toList, c', by rw [ea]; exact rv rel, by rw [Array.toArray_toList]; exact hD⟩), rfl, q _ (I.hok.fresh (Nat.le_refl _))⟩
theorem set_LD (hr : Room k X.A) : PSet X rSetX := by
  intro pins s σ H o i v ov iv u Q I ro ri rv h
  rcases h with h | h
  · exact set_list pins s σ H o i v ov iv u Q I ro ri rv h
  · exact set_dict (hu1 hr) pins s σ H o i v ov iv u Q I ro ri rv h
def rTupO (K : PySem.W.Frag) : List V → Hp → VK → Prop := fun xs H Q => ∃ p ys, xs = [.ref p] ∧ ((SqL K H p ys ∧ ∀ l, H l = none → Q (.ref l) (upd H l (.tup ys))) ∨ (SqT K H p ys ∧ Q (.ref p) H))
def rLstO (K : PySem.W.Frag) : List V → Hp → VK → Prop := fun xs H Q => (∃ p ys, xs = [.ref p] ∧ (SqL K H p ys ∨ SqT K H p ys) ∧ ∀ l, H l = none → Q (.ref l) (upd H l (.lst ys))) ∨
  (∃ (a : Addr) (kvs : List (Key × V)), xs = [.ref a] ∧ Rd H a (.dK kvs) ∧ ∀ p, H p = none → Q (.ref p) (upd H p (.lst (kvs.map fun kv => kV kv.1)))) ∨
  (∃ (p a : Addr) (kvs : List (Key × V)), xs = [.ref p] ∧ H p = some (valsO p a) ∧ Rd H a (.dK kvs) ∧ ∀ l, H l = none → Q (.ref l) (upd H l (.lst (kvs.map fun kv => kv.2))))
theorem cr_tupleR (hK : X.K = K) : CallR X (.type "tuple") (rTupO K) := hK ▸ call_tuple_of
theorem cr_listR (hK : X.K = K) (hc : X.calm = true) : CallR X (.type "list") (rLstO K) := hK ▸ call_list_of.or ((call_listD hc).or (call_listV hc))
theorem cr_maxR (hK : X.K = K) (hc : X.calm = true) (hr : Room k X.A) : CallR X (.builtin "max") (rBest K PySem.W.maxD) := hK ▸ cr_maxX hc (hu64 hr)
theorem cr_minR (hK : X.K = K) (hc : X.calm = true) (hr : Room k X.A) : CallR X (.builtin "min") (rBest K PySem.W.minD) := hK ▸ cr_minX hc (hu64 hr)
def rReprY (K : PySem.W.Frag) : List V → Hp → VK → Prop := fun xs H Q => (∃ i, xs = [.int i] ∧ i.natAbs.log2 < 1920 ∧ Q (.str (toString i)) H) ∨ rRepr K xs H Q
theorem cr_reprR (hK : X.K = K) (hg : X.A.guards = some []) (hr : Room k X.A) : CallR X (.builtin "repr") (rReprY K) := hK ▸ SkE.call_repr_int.or (cr_repr hg (hu64 hr))
theorem cr_sortedR (hK : X.K = K) (hr : Room k X.A) : CallR X (.builtin "sorted") (fun vs H Q => ∃ v, vs = [v] ∧ rSortedX K false v H Q) := hK ▸ cr_sortedX (hu64 hr)
theorem cr_sortedRR (hK : X.K = K) (hr : Room k X.A) : CallRK X (.builtin "sorted") ["reverse"] (fun vs zs H Q => ∃ v b, vs = [v] ∧ zs = [.bl b] ∧ rSortedX K b v H Q) := hK ▸ cr_sortedRev (hu64 hr)
variable {tg e e2 : Expr} {te : TE} {ta : TA} {pos tpos : Pos} {elts es : List Expr} {kk : Nat}
theorem pi_seqR (hK : X.K = K) (he : PE X e te) : PI X tg e (iSeq K te) := hK ▸ pi_seq he
theorem pi_enumR {p : Pos} (hK : X.K = K) (hg : Gl X "enumerate") (hm : X.mg "enumerate" = none) (ha : PA X [e] ta) (hs : starEach [e] X.env = [(false, eval e X.env)] := by rfl) : PI X (.Tuple elts kk tpos) (.Call (.Name "enumerate" p) [e] [] pos) (iEnumK K ta) := hK ▸ pi_enumK hg hm ha hs
theorem pi_zipR {p : Pos} (hK : X.K = K) (hg : Gl X "zip") (hm : X.mg "zip" = none) (ha : PA X [e, e2] ta) (hs : starEach [e, e2] X.env = (false, eval e X.env) :: starEach [e2] X.env := by rfl) (hpl : (backTo pos (starEach [e2] X.env)).any (·.1) = false := by rfl) : PI X (.Tuple elts kk tpos) (.Call (.Name "zip" p) [e, e2] [] pos) (iZipK K ta) := hK ▸ pi_zipK hg hm ha hs hpl
theorem pg_tupR {t : TGs} {n : Nat} (hK : X.K = K) (hc : X.calm = true) (h : PGs X es t) (hn : (assignEach es X.env).length = n := by rfl) (hst : (assignEach es X.env).findIdx? (·.1) = none := by rfl) : PG X (.Tuple es kk pos) (gTup K n t) := hK ▸ pg_tup hc h hn hst
theorem pgv (i : Nat) {x : Str} {pos : Pos} (nd : X.N.Nodup) (hN : X.N[i]? = some x := by rfl) (hl : Loc X.env.scope x := by first | exact Or.inl rfl | exact Or.inr rfl) (hf : X.fn x = true ∨ X.env.scope.names.lookup x = some .local := by first | exact .inl rfl | exact .inr rfl) : PG X (.Name x pos) (gName i) := pg_name nd hN hl hf
/-- the scope of an inner block, as it stands -/
def rls (sc1 sc : Scope) : Scope := relabel sc1 { scope := sc, locals := 0, globals := 0, cells := [] }
def EnvS (env : PySem.Env) (sc : Scope) : Prop := env.scope = sc
theorem es0 {env : PySem.Env} (sc : Scope) (h : env.scope = sc := by rfl) : EnvS env sc := h
theorem es1 {env : PySem.Env} {sc sc1 : Scope} {cl : List (Str × Addr)} {C : Addr} (h : EnvS env sc) : EnvS (compEnvC sc1 cl C env) (rls sc1 sc) := by
  obtain rfl : env.scope = sc := h
  rfl
theorem blk_es {N : List Str} {sc scope : Scope} {env : PySem.Env} {own : List (Str × Nat)} (e : EnvS env sc) (h : blkC N sc scope own = true) : BlkOk N env.scope scope own := by
  obtain rfl : env.scope = sc := e
  exact blkOk_by h
variable {a b : Expr} {rest : List Expr} {pos : Pos} {tA tB' : TT}
theorem pt_andW (h : PW X a tA) : PT X a tA := h.pt
end
/-! ### data -/
/-- a tuple of like things -/
abbrev tM {α : Type} (f : α → D) (xs : List α) : D := .tuple (xs.map f)
abbrev lM {α : Type} (f : α → D) (xs : List α) : D := .list (xs.map f)
def gi {α : Type} [Inhabited α] (xs : List α) (i : Int) : α := xs.getD i.toNat default
@[simp] theorem gi_nat {α : Type} [Inhabited α] (xs : List α) (i : Nat) : gi xs (i : Int) = xs.getD i default := rfl
theorem gi_eq {α : Type} [Inhabited α] {xs : List α} {i : Int} (h : i < xs.length) (h0 : 0 ≤ i) : gi xs i = xs[i.toNat]'(by omega) := by
  unfold gi
  rw [List.getD_eq_getElem?_getD, List.getElem?_eq_getElem (by omega)]
  rfl
section
variable {K : PySem.W.Frag} {S : Option (Addr × Addr)} {ρ : Env} {ta tb te : TE} {d e : D} {α : Type} {f : α → D} {i j : Int} {xs ys ds es : List D}
theorem R2D.or {r r' : R2} {o : O} (h : R2D K S r d e o) : R2D K S (fun x y H Q => r x y H Q ∨ r' x y H Q) d e o := fun B H v u R ex r1 r2 k => .inl (h B H v u R ex r1 r2 k)
theorem r2_addI : R2D K S (rAddD K) (.int i) (.int j) (.d (.int (i + j))) := fun B H v u R ex r1 r2 k => by
  cases r1; cases r2; exact .inl ⟨i, j, rfl, rfl, k.val ex (.int _)⟩
theorem r2_addT (hz : xs.length + ys.length ≤ sizeLine) : R2D K S (rAddD K) (.tuple xs) (.tuple ys) (.d (.tuple (xs ++ ys))) := fun B H v u R ex r1 r2 k => by
  cases r1 with | tup h1 q1 => cases r2 with | tup h2 q2 =>
  refine .inr (.inl ⟨_, _, _, _, rfl, rfl, Evl.ex_t ex (sqt_of h1), Evl.ex_t ex (sqt_of h2), by rw [q1.length, q2.length]; exact hz, fun e => ?_, fun _ e => ?_, fun _ _ => k.tup ex (q1.append q2)⟩)
  · subst e
    cases q1
    exact k.val ex (.tup h2 q2)
  · subst e
    cases q2
    rw [List.append_nil] at k
    exact k.val ex (.tup h1 q1)
theorem r2_addL (hz : xs.length + ys.length ≤ sizeLine) : R2D K S (rAddD K) (.list xs) (.list ys) (.l ((xs ++ ys).map O.d)) := fun B H v u R ex r1 r2 k => by
  cases r1 with | lst h1 q1 => cases r2 with | lst h2 q2 =>
  exact .inr (.inr (.inl ⟨_, _, _, _, rfl, rfl, ex _ _ h1, ex _ _ h2, by rw [q1.length, q2.length]; exact hz, fun p hp => k.lst ex (q1.append q2) p hp⟩))
theorem r2_addM {α : Type} {f : α → D} {xs ys : List α} (hz : xs.length + ys.length ≤ sizeLine) : R2D K S (rAddD K) (tM f xs) (tM f ys) (.d (tM f (xs ++ ys))) := by
  unfold tM; rw [List.map_append]; exact r2_addT (by simpa using hz)
theorem r2_addS {s t : Str} (hz : s.length + t.length ≤ sizeLine) : R2D K S (rAddD K) (.str s) (.str t) (.d (.str (s ++ t))) := fun B H v u R ex r1 r2 k => by
  cases r1; cases r2; exact .inr (.inr (.inr ⟨s, t, rfl, rfl, hz, k.val ex (.str _)⟩))
theorem r2_subI : R2D K S (rI0 fun i j => .int (i - j)) (.int i) (.int j) (.d (.int (i - j))) := r2_I0 (f := fun i j => .int (i - j)) fun _ _ _ => .int _
theorem r2_mulI (h : CMul i j) : R2D K S (rMulD K) (.int i) (.int j) (.d (.int (i * j))) := fun B H v u R ex r1 r2 k => by
  cases r1; cases r2; exact .inl ⟨i, j, rfl, rfl, h, k.val ex (.int _)⟩
theorem r2_mulT (h0 : xs ≠ []) (h1 : 2 ≤ j) (h2 : j ≤ 1000) (h3 : xs.length ≤ 1000) : R2D K S (rMulD K) (.tuple xs) (.int j) (.d (.tuple (List.replicate j.toNat xs).flatten)) := fun B H v u R ex r1 r2 k => by
  cases r1 with | tup h q => cases r2; exact .inr (.inr ⟨_, j, _, rfl, rfl, Evl.ex_t ex (sqt_of h), fun e => h0 (by subst e; cases q; rfl), h1, h2, by rw [q.length]; exact h3, k.tup ex (RpAll.rep q _)⟩)
where RpAll.rep {K : PySem.W.Frag} {B : Hp} {vs : List V} {ds : List D} (r : RpAll K B vs ds) : ∀ n : Nat, RpAll K B (List.replicate n vs).flatten (List.replicate n ds).flatten
  | 0 => .nil
  | n + 1 => by rw [List.replicate_succ, List.replicate_succ, List.flatten_cons, List.flatten_cons]; exact r.append (RpAll.rep r n)
theorem r2_fdiv (h : 0 < j) (h9 : j.natAbs.log2 < 9000) : R2D K S (rI CDivW fun i j => .int (i / j)) (.int i) (.int j) (.d (.int (i / j))) := r2_I (C := CDivW) (f := fun i j => .int (i / j)) (fun _ _ _ => .int _) ⟨h, h9⟩
theorem r2_mod (h : 0 < j) : R2D K S (rI (fun _ j => 0 < j) fun i j => .int (i % j)) (.int i) (.int j) (.d (.int (i % j))) := r2_I (C := fun _ j => 0 < j) (f := fun i j => .int (i % j)) (fun _ _ _ => .int _) h
theorem r2_pow (h0 : 0 ≤ j) (h1 : j ≤ 1000000) (h2 : i.natAbs < 2 ^ 64) : R2D K S (rI CPow fun i j => .int (i ^ j.toNat)) (.int i) (.int j) (.d (.int (i ^ j.toNat))) := r2_I (C := CPow) (f := fun i j => .int (i ^ j.toNat)) (fun _ _ _ => .int _) ⟨h0, h1, h2⟩
theorem r1_neg : R1D K S (rU fun i => .int (-i)) (.int i) (.d (.int (-i))) := fun B H v R ex r1 k => by
  cases r1; exact ⟨i, rfl, k.val ex (.int _)⟩
theorem r2_eq (s1 : SeqAt.shaped d = true) (s2 : SeqAt.shaped e = true) : R2D K S (rEqY K) d e (.d (.bool (PyData.eqv d e))) := fun B H v u R ex r1 r2 k => .inr ⟨d, e, r1.mono ex, r2.mono ex, s1, s2, k.val ex (.bl _)⟩
theorem r2_ne (s1 : SeqAt.shaped d = true) (s2 : SeqAt.shaped e = true) : R2D K S (rNeY K) d e (.d (.bool (!PyData.eqv d e))) := fun B H v u R ex r1 r2 k => .inr ⟨d, e, r1.mono ex, r2.mono ex, s1, s2, k.val ex (.bl _)⟩
theorem shp_int (i : Int) : SeqAt.shaped (.int i) = true := rfl
theorem shp_bool (b : Bool) : SeqAt.shaped (.bool b) = true := rfl
theorem r2_eqI : R2D K S (rEqY K) (.int i) (.int j) (.d (.bool (decide (i = j)))) := fun B H v u R ex r1 r2 k => by
  cases r1; cases r2; exact .inl ⟨rfl, by rw [show decide (V.int i = V.int j) = decide (i = j) by simp]; exact k.val ex (.bl _)⟩
theorem r2_neI : R2D K S (rNeY K) (.int i) (.int j) (.d (.bool (!decide (i = j)))) := fun B H v u R ex r1 r2 k => by
  cases r1; cases r2; exact .inl ⟨rfl, by rw [show decide (V.int i = V.int j) = decide (i = j) by simp]; exact k.val ex (.bl _)⟩
theorem r2_eqS {s t : Str} : R2D K S (rEqY K) (.str s) (.str t) (.d (.bool (decide (s = t)))) := fun B H v u R ex r1 r2 k => by
  cases r1; cases r2; exact .inl ⟨rfl, by rw [show decide (V.str s = V.str t) = decide (s = t) by simp]; exact k.val ex (.bl _)⟩
theorem r2_neS {s t : Str} : R2D K S (rNeY K) (.str s) (.str t) (.d (.bool (!decide (s = t)))) := fun B H v u R ex r1 r2 k => by
  cases r1; cases r2; exact .inl ⟨rfl, by rw [show decide (V.str s = V.str t) = decide (s = t) by simp]; exact k.val ex (.bl _)⟩
theorem r2_ltI : R2D K S (rLtX K (fun i j => decide (i < j)) PySem.W.dataLt) (.int i) (.int j) (.d (.bool (decide (i < j)))) := fun B H v u R ex r1 r2 k => by
  cases r1; cases r2; exact .inl ⟨i, j, rfl, rfl, k.val ex (.bl _)⟩
theorem r2_gtI : R2D K S (rLtX K (fun i j => decide (j < i)) fun d e => PySem.W.dataLt e d) (.int i) (.int j) (.d (.bool (decide (j < i)))) := fun B H v u R ex r1 r2 k => by
  cases r1; cases r2; exact .inl ⟨i, j, rfl, rfl, k.val ex (.bl _)⟩
theorem r2_leI : R2D K S (rLtX K (fun i j => decide (i ≤ j)) fun d e => !PySem.W.dataLt e d) (.int i) (.int j) (.d (.bool (decide (i ≤ j)))) := fun B H v u R ex r1 r2 k => by
  cases r1; cases r2; exact .inl ⟨i, j, rfl, rfl, k.val ex (.bl _)⟩
theorem r2_geI : R2D K S (rLtX K (fun i j => decide (j ≤ i)) fun d e => !PySem.W.dataLt d e) (.int i) (.int j) (.d (.bool (decide (j ≤ i)))) := fun B H v u R ex r1 r2 k => by
  cases r1; cases r2; exact .inl ⟨i, j, rfl, rfl, k.val ex (.bl _)⟩
theorem RpAll.atI {B : Hp} {vs : List V} (r : RpAll K B vs ds) (h : atI ds i = some d) : ∃ v, L2.atI vs i = some v ∧ Rp K B v d := by
  obtain ⟨j, h1, h2, h3⟩ := atI_get h
  unfold L2.atI at h ⊢
  rw [r.length]
  cases e : ixN ds.length i with
  | none => rw [e] at h; cases h
  | some l =>
    rw [e] at h
    obtain ⟨v, hv, rv⟩ := r.getD (show ds[l]? = some d from h)
    exact ⟨v, hv, rv⟩
theorem r2_ixT (h : atI ds i = some d) : R2D K S (rIxX K) (.tuple ds) (.int i) (.d d) := fun B H v u R ex r1 r2 k => by
  cases r1 with | tup h1 q1 => cases r2; obtain ⟨v, hv, rv⟩ := q1.atI h; exact .inl (.inr (.inl ⟨_, _, i, v, rfl, rfl, Evl.ex_t ex (sqt_of h1), hv, k.val ex rv⟩))
theorem r2_ixL (h : atI ds i = some d) : R2D K S (rIxX K) (.list ds) (.int i) (.d d) := fun B H v u R ex r1 r2 k => by
  cases r1 with | lst h1 q1 => cases r2; obtain ⟨v, hv, rv⟩ := q1.atI h; exact .inl (.inl ⟨_, _, i, v, rfl, rfl, SqL.of (ex _ _ h1), hv, k.val ex rv⟩)
theorem atI_gi {α : Type} [Inhabited α] {xs : List α} {f : α → D} (h0 : 0 ≤ i) (h : i < xs.length) : atI (xs.map f) i = some (f (gi xs i)) := by
  unfold atI ixN
  rw [if_pos h0, List.length_map, if_pos h, gi_eq h h0]
  show (xs.map f)[i.toNat]? = _
  rw [List.getElem?_map, List.getElem?_eq_getElem (by omega)]
  rfl
theorem r2_ixM {α : Type} [Inhabited α] {xs : List α} {f : α → D} (h0 : 0 ≤ i) (h : i < xs.length) : R2D K S (rIxX K) (tM f xs) (.int i) (.d (f (gi xs i))) := r2_ixT (atI_gi h0 h)
theorem r2_ixLM {α : Type} [Inhabited α] {xs : List α} {f : α → D} (h0 : 0 ≤ i) (h : i < xs.length) : R2D K S (rIxX K) (lM f xs) (.int i) (.d (f (gi xs i))) := r2_ixL (atI_gi h0 h)
/-! calls -/
theorem rc_lenT : RcD K S (rLenX K) [.tuple ds] (.d (.int ds.length)) := fun B H vs R ex r k => by
  cases r with | cons r t => cases t; cases r with | tup h q => exact .inl ⟨_, _, rfl, .inr ⟨_, Evl.ex_t ex (sqt_of h), rfl⟩, by rw [q.length]; exact k.val ex (.int _)⟩
theorem rc_lenL : RcD K S (rLenX K) [.list ds] (.d (.int ds.length)) := fun B H vs R ex r k => by
  cases r with | cons r t => cases t; cases r with | lst h q => exact .inl ⟨_, _, rfl, .inl ⟨_, SqL.of (ex _ _ h), rfl⟩, by rw [q.length]; exact k.val ex (.int _)⟩
theorem rc_lenM {α : Type} {xs : List α} {f : α → D} : RcD K S (rLenX K) [tM f xs] (.d (.int xs.length)) := by have := rc_lenT (K := K) (S := S) (ds := xs.map f); rwa [List.length_map] at this
theorem rc_lenLM {α : Type} {xs : List α} {f : α → D} : RcD K S (rLenX K) [lM f xs] (.d (.int xs.length)) := by have := rc_lenL (K := K) (S := S) (ds := xs.map f); rwa [List.length_map] at this
theorem rc_sumL {ns : List Int} : RcD K S (rSumX K) [lM .int ns] (.d (.int ns.sum)) := fun B H vs R ex r k => by
  cases r with | cons r t => cases t; cases r with | lst h q => have e := q.ints; subst e; exact ⟨_, ns, rfl, .inl (SqL.of (ex _ _ h)), k.val ex (.int _)⟩
theorem rc_sumT {ns : List Int} : RcD K S (rSumX K) [tM .int ns] (.d (.int ns.sum)) := fun B H vs R ex r k => by
  cases r with | cons r t => cases t; cases r with | tup h q => have e := q.ints; subst e; exact ⟨_, ns, rfl, .inr (Evl.ex_t ex (sqt_of h)), k.val ex (.int _)⟩
theorem rc_allL {bs : List Bool} : RcD K S (rAll K) [lM .bool bs] (.d (.bool (bs.all id))) := fun B H vs R ex r k => by
  cases r with | cons r t => cases t; cases r with | lst h q => have e := q.bools; subst e; exact ⟨_, bs, rfl, SqL.of (ex _ _ h), k.val ex (.bl _)⟩
theorem rc_anyL {bs : List Bool} : RcD K S (rAny K) [lM .bool bs] (.d (.bool (bs.any id))) := fun B H vs R ex r k => by
  cases r with | cons r t => cases t; cases r with | lst h q => have e := q.bools; subst e; exact ⟨_, bs, rfl, SqL.of (ex _ _ h), k.val ex (.bl _)⟩
theorem rc_tupleL : RcD K S (rTupO K) [.list ds] (.d (.tuple ds)) := fun B H vs R ex r k => by
  cases r with | cons r t => cases t; cases r with | lst h q => exact ⟨_, _, rfl, .inl ⟨SqL.of (ex _ _ h), k.tup ex q⟩⟩
theorem rc_tupleT : RcD K S (rTupO K) [.tuple ds] (.d (.tuple ds)) := fun B H vs R ex r k => by
  cases r with | cons r t => cases t; cases r with | tup h q => exact ⟨_, _, rfl, .inr ⟨Evl.ex_t ex (sqt_of h), k.val ex (.tup h q)⟩⟩
theorem rc_listL : RcD K S (rLstO K) [.list ds] (.l (ds.map O.d)) := fun B H vs R ex r k => by
  cases r with | cons r t => cases t; cases r with | lst h q => exact .inl ⟨_, _, rfl, .inl (SqL.of (ex _ _ h)), k.lst ex q⟩
theorem rc_listT : RcD K S (rLstO K) [.tuple ds] (.l (ds.map O.d)) := fun B H vs R ex r k => by
  cases r with | cons r t => cases t; cases r with | tup h q => exact .inl ⟨_, _, rfl, .inr (Evl.ex_t ex (sqt_of h)), k.lst ex q⟩
theorem rc_intI : RcD K S (fun xs H Q => (∃ i, xs = [.int i] ∧ Q (.int i) H) ∨ ∃ k, xs = [.bl k] ∧ Q (.int (if k then 1 else 0)) H) [.int i] (.d (.int i)) := fun B H vs R ex r k => by
  cases r with | cons r t => cases t; cases r; exact .inl ⟨i, rfl, k.val ex (.int _)⟩
theorem rc_intB {b : Bool} : RcD K S (fun xs H Q => (∃ i, xs = [.int i] ∧ Q (.int i) H) ∨ ∃ k, xs = [.bl k] ∧ Q (.int (if k then 1 else 0)) H) [.bool b] (.d (.int (if b then 1 else 0))) := fun B H vs R ex r k => by
  cases r with | cons r t => cases t; cases r; exact .inr ⟨b, rfl, k.val ex (.int _)⟩
theorem rc_abs : RcD K S (fun xs H Q => ∃ i, xs = [.int i] ∧ Q (.int (if i < 0 then -i else i)) H) [.int i] (.d (.int (if i < 0 then -i else i))) := fun B H vs R ex r k => by
  cases r with | cons r t => cases t; cases r; exact ⟨i, rfl, k.val ex (.int _)⟩
theorem rc_max2 : RcD K S (fun xs H Q => ∃ i j, xs = [.int i, .int j] ∧ Q (.int (if j > i then j else i)) H) [.int i, .int j] (.d (.int (max i j))) := fun B H vs R ex r k => by
  cases r with | cons r t => cases t with | cons r' t => cases t; cases r; cases r'; exact ⟨i, j, rfl, by
    rw [show (if j > i then j else i) = max i j by split <;> omega]; exact k.val ex (.int _)⟩
theorem rc_min2 : RcD K S (fun xs H Q => ∃ i j, xs = [.int i, .int j] ∧ Q (.int (if j < i then j else i)) H) [.int i, .int j] (.d (.int (min i j))) := fun B H vs R ex r k => by
  cases r with | cons r t => cases t with | cons r' t => cases t; cases r; cases r'; exact ⟨i, j, rfl, by
    rw [show (if j < i then j else i) = min i j by split <;> omega]; exact k.val ex (.int _)⟩
theorem rc_repr (h1 : d.canLay0 = true) (h2 : d.showable = true) (h3 : d.depth ≤ 50) (h4 : d.shown.length ≤ sizeLine) : RcD K S (rReprY K) [d] (.d (.str d.shown)) := fun B H vs R ex r k => by
  cases r with | cons r t => cases t; exact .inr ⟨_, d, rfl, r.mono ex, h1, h2, h3, h4, k.val ex (.str _)⟩
theorem rc_reprI (h : i.natAbs.log2 < 1920) : RcD K S (rReprY K) [.int i] (.d (.str (PyData.int i).shown)) := fun B H vs R ex r k => by
  cases r with | cons r t => cases t; cases r; exact .inl ⟨i, rfl, h, k.val ex (by simp only [PyData.shown]; exact .str _)⟩
theorem RpAll.sq {B H : Hp} {v : V} (ex : Ex B H) (r : Rp K B v (seqD b ds)) : ∃ vs, SqD K H v vs ds ∧ RpAll K B vs ds := by
  obtain ⟨a, xs, rfl, hs, ra⟩ := r.seq
  refine ⟨xs, ⟨a, rfl, ?_, ra.mono ex⟩, ra⟩
  cases b with
  | true => exact .inl (Evl.ex_l ex (show SqL K B a xs from hs))
  | false => exact .inr (Evl.ex_t ex (show SqT K B a xs from hs))
theorem alike_ints {ns : List Int} : PySem.W.AlikeAll (ns.map .int) :=
  ⟨fun x hx y hy => by
    obtain ⟨i, _, rfl⟩ := List.mem_map.mp hx
    obtain ⟨j, _, rfl⟩ := List.mem_map.mp hy
    first | rfl | simp [PySem.W.alike], fun x hx => by
    obtain ⟨i, _, rfl⟩ := List.mem_map.mp hx
    simp⟩
theorem lay_ints : ∀ ns : List Int, PyData.canLayAll0 (ns.map .int) = true
  | [] => by simp [PyData.canLayAll0]
  | n :: ns => by simp [PyData.canLayAll0, PyData.canLay0, lay_ints ns]
theorem dep_ints : ∀ ns : List Int, PyData.depthAll (ns.map .int) = 0
  | [] => by simp [PyData.depthAll]
  | n :: ns => by simp [PyData.depthAll, PyData.depth, dep_ints ns]
def mxI : List Int → Int
  | [] => 0
  | n :: ns => ns.foldl max n
def mnI : List Int → Int
  | [] => 0
  | n :: ns => ns.foldl min n
theorem rc_best {f : D → List D → D} {g : Int → List Int → Int} (hg : ∀ n ns, f (.int n) (ns.map .int) = .int (g n ns)) {b : Bool} {n : Int} {ns : List Int} : RcD K S (rBest K f) [seqD b ((n :: ns).map .int)] (.d (.int (g n ns))) := fun B H vs R ex r k => by
  cases r with | cons r t =>
  cases t
  obtain ⟨ws, hs, rb⟩ := RpAll.sq ex r
  refine ⟨_, ws, .int n, ns.map .int, rfl, by simpa using hs, by simpa using alike_ints (ns := n :: ns), by simpa using lay_ints (n :: ns), by have := dep_ints (n :: ns); simp only [List.map_cons] at this; omega, fun v rv => ?_⟩
  have rv := rv B (by simpa using rb)
  rw [hg] at rv
  cases rv
  exact k.val ex (.int _)
theorem rc_maxT {ns : List Int} (h : ns ≠ []) : RcD K S (rBest K PySem.W.maxD) [tM .int ns] (.d (.int (mxI ns))) := by
  cases ns with
  | nil => exact absurd rfl h
  | cons n ns => exact rc_best (g := fun n ns => ns.foldl max n) (b := false) PySem.W.maxD_ints
theorem rc_maxL {ns : List Int} (h : ns ≠ []) : RcD K S (rBest K PySem.W.maxD) [lM .int ns] (.d (.int (mxI ns))) := by
  cases ns with
  | nil => exact absurd rfl h
  | cons n ns => exact rc_best (g := fun n ns => ns.foldl max n) (b := true) PySem.W.maxD_ints
theorem rc_minT {ns : List Int} (h : ns ≠ []) : RcD K S (rBest K PySem.W.minD) [tM .int ns] (.d (.int (mnI ns))) := by
  cases ns with
  | nil => exact absurd rfl h
  | cons n ns => exact rc_best (g := fun n ns => ns.foldl min n) (b := false) PySem.W.minD_ints
theorem rc_minL {ns : List Int} (h : ns ≠ []) : RcD K S (rBest K PySem.W.minD) [lM .int ns] (.d (.int (mnI ns))) := by
  cases ns with
  | nil => exact absurd rfl h
  | cons n ns => exact rc_best (g := fun n ns => ns.foldl min n) (b := true) PySem.W.minD_ints
/-! isinstance -/
def isB (T : String) : D → Bool
  | .int _ => T == "int"
  | .bool _ => T == "int" || T == "bool"
  | .str _ => T == "str"
  | .tuple _ => T == "tuple"
  | .list _ => T == "list"
  | .dict _ => T == "dict"
  | .none => false
theorem kit_d (T : String) (hT : T = "int" ∨ T = "bool" ∨ T = "str" ∨ T = "tuple" ∨ T = "list") (d : D) (nd : ∀ kvs, d ≠ .dict kvs) : PySem.W.kitOne K (.type (tyName d)) (.type T) = some (isB T d) := by
  refine kit_ty ?_
  cases d with
  | dict kvs => exact absurd rfl (nd kvs)
  | _ => rcases hT with rfl | rfl | rfl | rfl | rfl <;> (simp only [tyName, isB]; decide +kernel)
theorem ev_isi {T : String} (h : EvD K S ta ρ d) (nd : ∀ kvs, d ≠ .dict kvs) (hT : T = "int" ∨ T = "bool" ∨ T = "str" ∨ T = "tuple" ∨ T = "list" := by simp) : EvD K S (tCB (rIsX K) (tCons ta (tCons (tC (.ty T)) tNil))) ρ (.bool (isB T d)) := .mk fun B H Fr σ R w k =>
  h.use w fun v B1 H1 g r => ⟨v, d, T, isB T d, rfl, r.mono g.sub, nd, kit_d T hT d nd, k _ B1 H1 g (.bl _)⟩
/-! is -/
theorem r2_isB {a b : Bool} : R2D K S rIsB (.bool a) (.bool b) (.d (.bool (decide (a = b)))) := fun B H v u R ex r1 r2 k => by
  cases r1; cases r2; exact ⟨a, b, rfl, rfl, k.val ex (.bl _)⟩
theorem r2_notB {a b : Bool} : R2D K S rNotB (.bool a) (.bool b) (.d (.bool (!decide (a = b)))) := fun B H v u R ex r1 r2 k => by
  cases r1; cases r2; exact ⟨a, b, rfl, rfl, k.val ex (.bl _)⟩
def isNon : D → Bool
  | .none => true
  | _ => false
theorem isNon_v {B : Hp} {v : V} (r : Rp K B v d) : decide (v = V.non) = isNon d := by cases r <;> simp [isNon]
theorem r2_isN : R2D K S (fun x y H Q => y = .non ∧ Q (.bl (decide (x = .non))) H) d .none (.d (.bool (isNon d))) := fun B H v u R ex r1 r2 k => by
  cases r2
  exact ⟨rfl, by rw [isNon_v r1]; exact k.val ex (.bl _)⟩
theorem r2_notN : R2D K S (fun x y H Q => y = .non ∧ Q (.bl (!decide (x = .non))) H) d .none (.d (.bool (!isNon d))) := fun B H v u R ex r1 r2 k => by
  cases r2
  exact ⟨rfl, by rw [isNon_v r1]; exact k.val ex (.bl _)⟩
end
/-! ### shape -/
def Sh (n : Nat) (d : D) : Prop := d.canLay0 = true ∧ d.depth ≤ n
theorem sh_int {n : Nat} {i : Int} : Sh n (.int i) := ⟨rfl, Nat.zero_le _⟩
theorem sh_bool {n : Nat} {i : Bool} : Sh n (.bool i) := ⟨rfl, Nat.zero_le _⟩
theorem sh_none {n : Nat} : Sh n .none := ⟨rfl, Nat.zero_le _⟩
theorem sh_all {n : Nat} : ∀ {xs : List D}, (∀ x ∈ xs, Sh n x) → PyData.canLayAll0 xs = true ∧ PyData.depthAll xs ≤ n
  | [], _ => by simp [PyData.canLayAll0, PyData.depthAll]
  | x :: xs, h => by
    have h1 := h x (by simp)
    have h2 := sh_all (xs := xs) fun y hy => h y (by simp [hy])
    simp only [PyData.canLayAll0, PyData.depthAll, h1.1, h2.1, Bool.and_self, true_and]
    exact Nat.max_le.mpr ⟨h1.2, h2.2⟩
theorem sh_tup {n : Nat} {xs : List D} (h : ∀ x ∈ xs, Sh n x) : Sh (n + 1) (.tuple xs) := by
  have := sh_all h
  exact ⟨by simp only [PyData.canLay0]; exact this.1, by simp only [PyData.depth]; omega⟩
theorem sh_lst {n : Nat} {xs : List D} (h : ∀ x ∈ xs, Sh n x) : Sh (n + 1) (.list xs) := by
  have := sh_all h
  exact ⟨by simp only [PyData.canLay0]; exact this.1, by simp only [PyData.depth]; omega⟩
theorem sh_tM {n : Nat} {α : Type} {f : α → D} {xs : List α} (h : ∀ x, Sh n (f x)) : Sh (n + 1) (tM f xs) := sh_tup fun x hx => by obtain ⟨y, _, rfl⟩ := List.mem_map.mp hx; exact h y
theorem sh_lM {n : Nat} {α : Type} {f : α → D} {xs : List α} (h : ∀ x, Sh n (f x)) : Sh (n + 1) (lM f xs) := sh_lst fun x hx => by obtain ⟨y, _, rfl⟩ := List.mem_map.mp hx; exact h y
theorem sh_1 {n : Nat} {a : D} (h : Sh n a) : Sh (n + 1) (.tuple [a]) := sh_tup (by simpa using h)
theorem sh_2 {n : Nat} {a b : D} (h : Sh n a) (h2 : Sh n b) : Sh (n + 1) (.tuple [a, b]) := sh_tup (by simp [h, h2])
theorem sh_3 {n : Nat} {a b c : D} (h : Sh n a) (h2 : Sh n b) (h3 : Sh n c) : Sh (n + 1) (.tuple [a, b, c]) := sh_tup (by simp [h, h2, h3])
theorem sh_4 {n : Nat} {a b c d : D} (h : Sh n a) (h2 : Sh n b) (h3 : Sh n c) (h4 : Sh n d) : Sh (n + 1) (.tuple [a, b, c, d]) := sh_tup (by simp [h, h2, h3, h4])
theorem sh_0 {n : Nat} : Sh (n + 1) (.tuple []) := sh_tup (by simp)
theorem Sh.shaped {n : Nat} {d : D} (h : Sh n d) (hn : n ≤ 64 := by decide) : SeqAt.shaped d = true := by
  unfold SeqAt.shaped
  rw [h.1, Bool.true_and]
  exact decide_eq_true (Nat.le_trans h.2 hn)
theorem Sh.mono {n m : Nat} {d : D} (h : Sh n d) (hn : n ≤ m := by decide) : Sh m d := ⟨h.1, Nat.le_trans h.2 hn⟩
theorem sh_str {n : Nat} {x : Str} (h : PyData.strOk x = true) : Sh n (.str x) := ⟨by simpa [PyData.canLay0] using h, Nat.zero_le _⟩
end DL

set_option Elab.async false
set_option linter.all false
set_option maxRecDepth 100000
set_option maxHeartbeats 2000000
/-! DLP: the drawing of numbers -/
namespace DL
open PySem PySem.Spec PyProof.Rows L2
open Evl (Ex Ex.refl Ex.trans Ex.new Ex.mut)
theorem kcl : ¬ ("cells" : Str) = "left" := by decide +kernel
theorem kcm : ¬ ("cells" : Str) = "mixed" := by decide +kernel
theorem kct : ¬ ("cells" : Str) = "turn" := by decide +kernel
theorem klm : ¬ ("left" : Str) = "mixed" := by decide +kernel
theorem klt : ¬ ("left" : Str) = "turn" := by decide +kernel
theorem kmt : ¬ ("mixed" : Str) = "turn" := by decide +kernel
theorem klc : ¬ ("left" : Str) = "cells" := by decide +kernel
theorem kmc : ¬ ("mixed" : Str) = "cells" := by decide +kernel
theorem ktc : ¬ ("turn" : Str) = "cells" := by decide +kernel
theorem kml : ¬ ("mixed" : Str) = "left" := by decide +kernel
theorem ktl : ¬ ("turn" : Str) = "left" := by decide +kernel
theorem ktm : ¬ ("turn" : Str) = "mixed" := by decide +kernel
abbrev srcK (c l m t : V) : List (Key × V) := [(.inr "cells", c), (.inr "left", l), (.inr "mixed", m), (.inr "turn", t)]
section
variable {c l m t v : V}
theorem sk_c : valV (srcK c l m t) (.inr "cells") = some c := by simp [valV, srcK]
theorem sk_l : valV (srcK c l m t) (.inr "left") = some l := by simp [valV, srcK, List.find?, kcl]
theorem sk_m : valV (srcK c l m t) (.inr "mixed") = some m := by simp [valV, srcK, List.find?, kcm, klm]
theorem sk_t : valV (srcK c l m t) (.inr "turn") = some t := by simp [valV, srcK, List.find?, kct, klt, kmt]
theorem sp_l : putK (srcK c l m t) (.inr "left") v = srcK c v m t := by simp [putK, srcK, kcl, kml, ktl]
theorem sp_m : putK (srcK c l m t) (.inr "mixed") v = srcK c l v t := by simp [putK, srcK, kcm, klm, ktm]
theorem sp_t : putK (srcK c l m t) (.inr "turn") v = srcK c l m v := by simp [putK, srcK, kct, klt, kmt]
end
/-- the source, and what else stands as it stood -/
structure Src (H0 H : Hp) (p q : Addr) (cells : List Int) (left mixed turn : Int) : Prop where
  hq : H q = some (.lst (cells.map V.int))
  hp : H p = some (.dK (srcK (.ref q) (.int left) (.int mixed) (.int turn)))
  ne : p ≠ q
  ot : ∀ a, a ≠ p → a ≠ q → H a = H0 a
  c0 : ∀ c ∈ cells, 0 ≤ c
  cn : cells.length ≤ 63
  l0 : 0 ≤ left
  m0 : 0 ≤ mixed
  m1 : mixed < 2147483648
  t0 : 0 ≤ turn
section
variable {H0 H : Hp} {p q : Addr} {cells : List Int} {left mixed turn : Int}
theorem Src.gl (s : Src H0 H p q cells left mixed turn) : DGet H p (.str "left") (some (.int left)) := .inl ⟨_, .inr "left", .inl s.hp, rfl, sk_l.symm⟩
theorem Src.gc (s : Src H0 H p q cells left mixed turn) : DGet H p (.str "cells") (some (.ref q)) := .inl ⟨_, .inr "cells", .inl s.hp, rfl, sk_c.symm⟩
theorem Src.gm (s : Src H0 H p q cells left mixed turn) : DGet H p (.str "mixed") (some (.int mixed)) := .inl ⟨_, .inr "mixed", .inl s.hp, rfl, sk_m.symm⟩
theorem Src.gt (s : Src H0 H p q cells left mixed turn) : DGet H p (.str "turn") (some (.int turn)) := .inl ⟨_, .inr "turn", .inl s.hp, rfl, sk_t.symm⟩
theorem four_le : 4 < sizeLine := by rw [sizeLine_eq]; decide
theorem Src.pl (s : Src H0 H p q cells left mixed turn) (n : Int) : DPut H p (.str "left") (.int n) (upd H p (.dK (srcK (.ref q) (.int n) (.int mixed) (.int turn)))) := .inl ⟨_, .inr "left", s.hp, rfl, four_le, by rw [sp_l]⟩
theorem Src.pm (s : Src H0 H p q cells left mixed turn) (n : Int) : DPut H p (.str "mixed") (.int n) (upd H p (.dK (srcK (.ref q) (.int left) (.int n) (.int turn)))) := .inl ⟨_, .inr "mixed", s.hp, rfl, four_le, by rw [sp_m]⟩
theorem Src.pt (s : Src H0 H p q cells left mixed turn) (n : Int) : DPut H p (.str "turn") (.int n) (upd H p (.dK (srcK (.ref q) (.int left) (.int mixed) (.int n)))) := .inl ⟨_, .inr "turn", s.hp, rfl, four_le, by rw [sp_t]⟩
theorem Src.setL (s : Src H0 H p q cells left mixed turn) {n : Int} (h : 0 ≤ n) : Src H0 (upd H p (.dK (srcK (.ref q) (.int n) (.int mixed) (.int turn)))) p q cells n mixed turn :=
  ⟨by rw [upd_ne s.ne.symm]; exact s.hq, upd_same, s.ne, fun a h1 h2 => by rw [upd_ne h1]; exact s.ot a h1 h2, s.c0, s.cn, h, s.m0, s.m1, s.t0⟩
theorem Src.setM (s : Src H0 H p q cells left mixed turn) {n : Int} (h : 0 ≤ n) (h2 : n < 2147483648) : Src H0 (upd H p (.dK (srcK (.ref q) (.int left) (.int n) (.int turn)))) p q cells left n turn :=
  ⟨by rw [upd_ne s.ne.symm]; exact s.hq, upd_same, s.ne, fun a h1 h2 => by rw [upd_ne h1]; exact s.ot a h1 h2, s.c0, s.cn, s.l0, h, h2, s.t0⟩
theorem Src.setT (s : Src H0 H p q cells left mixed turn) {n : Int} (h : 0 ≤ n) : Src H0 (upd H p (.dK (srcK (.ref q) (.int left) (.int mixed) (.int n)))) p q cells left mixed n :=
  ⟨by rw [upd_ne s.ne.symm]; exact s.hq, upd_same, s.ne, fun a h1 h2 => by rw [upd_ne h1]; exact s.ot a h1 h2, s.c0, s.cn, s.l0, s.m0, s.m1, h⟩
theorem Src.pop (s : Src H0 H p q cells left mixed turn) (h : cells ≠ []) : ∃ c, (cells.map V.int)[(cells.map V.int).length - 1]? = some (.int c) ∧ 0 ≤ c ∧ Src H0 (upd H q (.lst ((cells.map V.int).dropLast))) p q cells.dropLast left mixed turn := by
  have hl : 0 < cells.length := List.length_pos_iff.mpr h
  refine ⟨cells[cells.length - 1], by rw [List.length_map, List.getElem?_map, List.getElem?_eq_getElem (by omega)]; rfl, s.c0 _ (List.getElem_mem _), ⟨by rw [upd_same, List.map_dropLast], by rw [upd_ne s.ne]; exact s.hp, s.ne, fun a h1 h2 => by rw [upd_ne h2]; exact s.ot a h1 h2, fun c hc => s.c0 c (List.dropLast_sublist _ |>.subset hc), by rw [List.length_dropLast]; have := s.cn; omega, s.l0, s.m0, s.m1, s.t0⟩⟩
theorem SrcAt.src (s : SrcAt H p q) : ∃ cells left mixed turn, Src H H p q cells left mixed turn := by
  obtain ⟨n, cells, left, mixed, turn, h1, h2, h3, h4, h5, h6, h7, h8⟩ := s
  exact ⟨cells, left, mixed, turn, h1, h2, n, fun _ _ _ => rfl, h3, h4, h5, h6, h7, h8⟩
theorem Src.at (s : Src H0 H p q cells left mixed turn) : SrcAt H p q := ⟨s.ne, cells, left, mixed, turn, s.hq, s.hp, s.c0, s.cn, s.l0, s.m0, s.m1, s.t0⟩
theorem Src.aft {B : Hp} {Fr : Set'} (s : Src H0 H p q cells left mixed turn) (ex : Ex B H0) (fr : ∀ a, Fr a → B a = none ∧ H0 a ≠ none) (b1 : B p = none) (b2 : B q = none) (f1 : ¬ Fr p) (f2 : ¬ Fr q) : Aft (some (p, q)) B H0 Fr B H := by
  refine ⟨Ex.refl B, fun a u e => ?_, fun a ha => ⟨s.ot a (fun z => f1 (z ▸ ha)) fun z => f2 (z ▸ ha), (fr a ha).1⟩, fun p' q' e => by cases e; exact ⟨s.at, b1, b2⟩⟩
  rw [s.ot a (fun z => by rw [z, b1] at e; cases e) fun z => by rw [z, b2] at e; cases e]
  exact ex a u e
end
/-- what is drawn -/
def PickR (most : Int) (d : D) : Prop := ∃ r : Int, d = .int r ∧ 0 ≤ r ∧ (r < most ∨ r = 0)
abbrev spPick (K : PySem.W.Frag) : Sp := SpN K (α := Int) (fun m => m < 2 ^ 64) (fun m => [.int m]) PickR
abbrev rLtI : R2 := rI0 fun i j => .bl (decide (i < j))
abbrev rGtI : R2 := rI0 fun i j => .bl (decide (j < i))
abbrev rAddI : R2 := rI0 fun i j => .int (i + j)
abbrev rMulI : R2 := rI CMul fun i j => .int (i * j)
abbrev rModI : R2 := rI (fun _ j => 0 < j) fun i j => .int (i % j)
abbrev rDivI : R2 := rI CDivW fun i j => .int (i / j)
abbrev rIntC : List V → Hp → VK → Prop := fun xs H Q => (∃ i, xs = [.int i] ∧ Q (.int i) H) ∨ ∃ k, xs = [.bl k] ∧ Q (.int (if k then 1 else 0)) H
abbrev rLenC (K : PySem.W.Frag) : List V → Hp → VK → Prop := fun xs H Q => ∃ p ys, xs = [.ref p] ∧ (SqL K H p ys ∨ SqT K H p ys) ∧ Q (.int ys.length) H
abbrev tKey (x : Str) : TE := tDGet (tVar 0) (tC (.str x))
abbrev gKey (x : Str) : TG := gSub (tVar 0) (tC (.str x)) rSetD
theorem div_ok {i n : Int} (h : 0 < n) (h2 : n < 2 ^ 64) : CDivW i n := wide_div (b := 64) h (by omega) (by decide) (by decide)
theorem mul_r {i n : Int} (h : -(2 ^ 64) < n) (h2 : n < 2 ^ 64) : CMul i n := .inr ⟨h, h2⟩
def pickA2 (K : PySem.W.Frag) : TS :=
  tSeq (tAsg (tKey "left") (gName 3))
  (tSeq (tIfS (tTest (tOp rGtI (tVar 3) (tC (.int 1)))) (tSeq (tAsg (tOp rDivI (tVar 3) (tVar 1)) (gKey "left")) (tRet (tOp rModI (tCB rIntC (tCons (tVar 3) tNil)) (tVar 1)))) tNext)
  (tSeq (tAsg (tOp rAddI (tKey "turn") (tC (.int 1))) (gKey "turn"))
  (tSeq (tAsg (tKey "turn") (gName 4))
  (tSeq (tAsg (tOp rModI (tCB rIntC (tCons (tOp rAddI (tKey "mixed") (tOp rMulI (tVar 4) (tC (.int 104729)))) tNil)) (tC (.int 998244353))) (gName 5))
  (tSeq (tAsg (tOp rModI (tCB rIntC (tCons (tOp rAddI (tOp rMulI (tVar 5) (tVar 5)) (tOp rMulI (tVar 4) (tC (.int 17)))) tNil)) (tC (.int 2147483647))) (gName 5))
  (tRet (tOp rModI (tCB rIntC (tCons (tOp rDivI (tVar 5) (tC (.int 16))) tNil)) (tVar 1))))))))
def pickA (K : PySem.W.Frag) : TS :=
  tSeq (tIfS (tTest (tOp rLtI (tVar 1) (tC (.int 2)))) (tRet (tC (.int 0))) tNext)
  (tSeq (tAsg (tKey "cells") (gName 2))
  (tSeq (tWhile (tAnd (tTest (tOp rLtI (tKey "left") (tC (.int 2)))) (tTest (tOp rGtI (tCB (rLenC K) (tCons (tVar 2) tNil)) (tC (.int 0))))) (tAsg (tBM0 K "list" rPop (tVar 2)) (gKey "left")))
  (pickA2 K)))
theorem pickA2_read {K : PySem.W.Frag} {D : Ends} {H H1 : Hp} {p q : Addr} {cs : List Int} {l mixed turn m : Int} (hm2 : 2 ≤ m) (hm : m < 2 ^ 64) (s1 : Src H H1 p q cs l mixed turn)
    (fin : ∀ {H' : Hp} {cells' : List Int} {l' m' t' : Int} (r : Int), Src H H' p q cells' l' m' t' → 0 ≤ r → (r < m ∨ r = 0) → D.rt (.int r) H') : pickA2 K D [some (.ref p), some (.int m), some (.ref q), none, none, none] H1 := by
  have hm0 : 0 < m := by omega
  refine ⟨_, rfl, p, _, rfl, s1.gl, ?_⟩
  refine ⟨_, rfl, _, _, rfl, rfl, _, rfl, ?_⟩
  refine ite2 (fun h => ?_) (fun h => ?_)
  · refine ⟨_, rfl, _, rfl, _, _, rfl, rfl, div_ok hm0 hm, ?_⟩
    refine ⟨_, rfl, p, _, rfl, s1.pl _, ?_⟩
    refine ⟨_, rfl, .inl ⟨_, rfl, ?_⟩⟩
    refine ⟨_, rfl, _, _, rfl, rfl, hm0, ?_⟩
    exact fin _ (s1.setL (Int.ediv_nonneg s1.l0 (by omega))) (Int.emod_nonneg _ (by omega)) (.inl (Int.emod_lt_of_pos _ hm0))
  · refine ⟨_, rfl, p, _, rfl, s1.gt, _, _, rfl, rfl, ?_⟩
    refine ⟨_, rfl, p, _, rfl, s1.pt _, ?_⟩
    have s2 := s1.setT (n := turn + 1) (by have := s1.t0; omega)
    refine ⟨_, rfl, p, _, rfl, s2.gt, ?_⟩
    refine ⟨_, rfl, p, _, rfl, s2.gm, ?_⟩
    refine ⟨_, rfl, _, _, rfl, rfl, mul_r (by decide) (by decide), ?_⟩
    refine ⟨_, _, rfl, rfl, .inl ⟨_, rfl, _, _, rfl, rfl, (by show (0 : Int) < 998244353; decide), ?_⟩⟩
    have e1 : 0 ≤ (mixed + (turn + 1) * 104729) % 998244353 ∧ (mixed + (turn + 1) * 104729) % 998244353 < 998244353 := by omega
    refine ⟨_, rfl, _, rfl, _, _, rfl, rfl, mul_r (by omega) (by omega), ?_⟩
    refine ⟨_, rfl, _, _, rfl, rfl, mul_r (by decide) (by decide), ?_⟩
    refine ⟨_, _, rfl, rfl, .inl ⟨_, rfl, _, _, rfl, rfl, (by show (0 : Int) < 2147483647; decide), ?_⟩⟩
    refine ⟨_, rfl, _, _, rfl, rfl, div_ok (by decide) (by decide), ?_⟩
    refine .inl ⟨_, rfl, _, rfl, _, _, rfl, rfl, hm0, ?_⟩
    exact fin _ s2 (Int.emod_nonneg _ (by omega)) (.inl (Int.emod_lt_of_pos _ hm0))
theorem pickA_read {K : PySem.W.Frag} {vs : List V} {H : Hp} {Q : VK} {E : XK} {N : List Str} (hN : N.length = 6) (hs : spPick K vs H Q E) : pickA K { nx := fun _ H' => Q .non H', rt := Q } (L2.start N vs) H := by
  obtain ⟨m, p, q, ws, B, Fr, hm, rfl, ex, fr, ⟨sa, b1, b2, f1, f2⟩, r, k⟩ := hs
  cases r with | cons r t =>
  cases t
  cases r
  have est : L2.start N [.ref p, .int m] = [some (.ref p), some (.int m), none, none, none, none] := by
    unfold L2.start
    rw [hN]
    rfl
  rw [est]
  obtain ⟨cells, left, mixed, turn, s0⟩ := sa.src
  have fin : ∀ {H' : Hp} {cells' : List Int} {l' m' t' : Int} (r : Int), Src H H' p q cells' l' m' t' → 0 ≤ r → (r < m ∨ r = 0) → Q (.int r) H' := fun r s h1 h2 => k (.int r) (.int r) B _ ⟨r, rfl, h1, h2⟩ (s.aft ex fr b1 b2 f1 f2) (.int r)
  refine ⟨_, rfl, _, _, rfl, rfl, _, rfl, ?_⟩
  refine ite2 (fun _ => fin 0 s0 (by omega) (.inr rfl)) (fun h2 => ?_)
  have hm2 : 2 ≤ m := by have := of_decide_eq_false (by simpa using h2 : decide (m < 2) = false); omega
  refine ⟨_, rfl, p, _, rfl, s0.gc, ?_⟩
  refine ⟨fun n σ H' => ∃ cells' l', n = cells'.length ∧ σ = [some (.ref p), some (.int m), some (.ref q), none, none, none] ∧ Src H H' p q cells' l' mixed turn, ⟨_, cells, left, rfl, rfl, s0⟩, ?_⟩
  rintro n σ H1 ⟨cs, l, rfl, rfl, s1⟩
  refine ⟨_, rfl, p, _, rfl, s1.gl, _, _, rfl, rfl, _, rfl, ?_⟩
  refine ite2 (fun h => ?_) (fun h => iteF (pickA2_read (K := K) hm2 hm s1 fin))
  refine ⟨_, rfl, q, _, rfl, .inl (SqL.of s1.hq), _, _, rfl, rfl, _, rfl, ?_⟩
  refine ite2 (fun h3 => ?_) (fun h3 => pickA2_read (K := K) hm2 hm s1 fin)
  have hne : cs ≠ [] := fun z => by subst z; simp at h3
  obtain ⟨c, hc, c0, s2⟩ := s1.pop hne
  refine ⟨fun σ' H' => ∃ m', m' < cs.length ∧ ∃ cells' l', m' = cells'.length ∧ σ' = [some (.ref p), some (.int m), some (.ref q), none, none, none] ∧ Src H H' p q cells' l' mixed turn, fun _ _ z => z, ?_⟩
  refine ⟨_, rfl, .inl ⟨rfl, _, SqL.of s1.hq⟩, q, _, _, rfl, rfl, s1.hq, hc, ?_⟩
  refine ⟨_, rfl, p, _, rfl, s2.pl c, ?_⟩
  exact ⟨_, by rw [List.length_dropLast]; have := List.length_pos_iff.mpr hne; omega, _, _, rfl, rfl, s2.setL c0⟩
end DL

set_option Elab.async false
set_option linter.all false
set_option maxRecDepth 100000
set_option maxHeartbeats 2000000
/-! DLQ: the source is made -/
namespace DL
open PySem PySem.Spec PyProof.Rows L2
open Evl (Ex Ex.refl Ex.trans Ex.new Ex.mut)
section
variable {K : PySem.W.Frag} {S : Option (Addr × Addr)} {ρ : Env}
theorem ei_range {tr : TA} {n : Nat} (h : EvA K S tr ρ [.int (n : Int)]) (hn : (n : Int) ≤ 16000000) : EvI K S (iRng1 tr) ρ ((List.range n).map fun i : Nat => .int (i : Int)) := by
  have := ei_rng1 h (by omega) hn
  unfold rangeD at this
  simpa using this
/-- stirring: mixed = int(mixed * 69069 + cell * 31 + 5) % 2147483629 -/
def tStir (i j : Nat) : TS := tAsg (tOp rModI (tCB rIntC (tCons (tOp (rAddD K) (tOp (rAddD K) (tOp (rMulD K) (tVar i) (tC (.int 69069))) (tOp (rMulD K) (tVar j) (tC (.int 31)))) (tC (.int 5))) tNil)) (tC (.int 2147483629))) (gName i)
theorem sw_stir {i j : Nat} {m c : Int} {E : DE} (h1 : ρ[i]? = some (some (.d (.int m)))) (h2 : ρ[j]? = some (some (.d (.int c)))) (k : E.nx (ρ.set i (some (.d (.int ((m * 69069 + c * 31 + 5) % 2147483629)))))) : StW K S (tStir (K := K) i j) ρ E :=
  sw_asg (ev_op (ev_cb (ea_cons (ev_op (ev_op (ev_op (ev_var h1) ev_int (r2_mulI (mul_r (by decide) (by decide)))) (ev_op (ev_var h2) ev_int (r2_mulI (mul_r (by decide) (by decide)))) r2_addI) ev_int r2_addI) ea_nil) rc_intI) ev_int (r2_mod (by decide))) k
end
abbrev absI (z : Int) : Int := if z < 0 then -z else z
/-- the dict is shown -/
theorem disp_src {K : PySem.W.Frag} {B H : Hp} {σ : L2.St} {Q : VK} {ti tm : TE} {ns : List Int} {m : Int}
    (hi : ∀ p, H p = none → ∀ R : VK, (∀ H2 q, Ex (upd H p (.dK [])) H2 → upd H p (.dK []) q = none → H2 q = some (.lst (ns.map V.int)) → R (.ref q) H2) → ti σ (upd H p (.dK [])) R) (hm : ∀ H2 (R : VK), R (.int m) H2 → tm σ H2 R)
    (k : ∀ p q H', p ≠ q → H p = none → H q = none → Ex H H' → H' q = some (.lst (ns.map V.int)) → H' p = some (.dK (srcK (.ref q) (.int 1) (.int m) (.int 0))) → Q (.ref p) H') :
    tDisp [(tC (.str "cells"), ti), (tC (.str "left"), tC (.int 1)), (tC (.str "mixed"), tm), (tC (.str "turn"), tC (.int 0))] σ H Q := by
  intro p hp
  refine hi p hp _ fun H2 q h2 hq hq2 => ?_
  refine hm H2 _ ?_
  have npq : p ≠ q := fun z => by rw [z, upd_same] at hq; cases hq
  have hq' : H q = none := by rw [upd_ne npq.symm] at hq; exact hq
  refine ⟨h2 p _ upd_same, srcK (.ref q) (.int 1) (.int m) (.int 0), rfl, by show 4 ≤ 15; decide, ?_⟩
  have em : mergeK [] (srcK (.ref q) (.int 1) (.int m) (.int 0)) = srcK (.ref q) (.int 1) (.int m) (.int 0) := by
    simp [mergeK, srcK, putK, kcl, kcm, kct, klm, klt, kmt]
  rw [em]
  exact k p q _ npq hp hq' (fun a u e => by rw [upd_ne (ne_of_none e hp)]; exact h2 a u (by rw [upd_ne (ne_of_none e hp)]; exact e)) (by rw [upd_ne npq.symm]; exact hq2) upd_same
def openA (K : PySem.W.Frag) : TS :=
  tSeq (tAsg (tC (.int 11)) (gName 1))
  (tSeq (tFor (iSeq K (tVar 0)) (gName 2) (tStir (K := K) 1 2))
  (tSeq (tAsg (tLc (iSeq K (tVar 0)) (gName 2) tYes (tCB (fun xs H Q => ∃ i, xs = [.int i] ∧ Q (.int (if i < 0 then -i else i)) H) (tCons (tVar 2) tNil)) [2]) (gName 3))
  (tRet (tDisp [(tC (.str "cells"), tRevL K (tVar 3)), (tC (.str "left"), tC (.int 1)), (tC (.str "mixed"), tVar 1), (tC (.str "turn"), tC (.int 0))]))))
theorem wd_scr {K : PySem.W.Frag} {B H : Hp} {Fr : Set'} {a : Addr} {ns : List Int} {n : Nat} (hl : SqL K B a (ns.map V.int)) (ex : Ex B H) (fr : ∀ a, Fr a → B a = none ∧ H a ≠ none) :
    Wd K none B H Fr (some (.ref a) :: List.replicate n none) (some (.scr ns) :: List.replicate n none) := by
  refine ⟨ex, by simp, fr, fun p q e => (by cases e), fun _ _ => False, fun i o e => ?_, fun i a z => z.elim, fun _ _ _ _ z => z.elim⟩
  cases i with
  | zero => simp at e; subst e; exact ⟨.ref a, rfl, .scr a ns _ hl fun _ z => z⟩
  | succ i =>
    rw [List.getElem?_cons_succ, List.getElem?_replicate] at e
    split at e <;> cases e
theorem open_end {K : PySem.W.Frag} {B H B' H' : Hp} {Fr : Set'} {σ : L2.St} {Q : VK} {te : TE} {i : Nat} {ρ : Env} {ns : List Int} {m : Int} (hn : ns.length ≤ 63) (hm : 0 ≤ m ∧ m < 2147483648)
    (a : Aft none B H Fr B' H') (w : Wd K none B' H' Fr σ ρ) (hw : Ex H H') (e1 : ρ[i]? = some (some (.d (.int m))))
    (hi : ∀ p, H' p = none → ∀ R : VK, (∀ H2 q, Ex (upd H' p (.dK [])) H2 → upd H' p (.dK []) q = none → H2 q = some (.lst ((ns.map absI).reverse.map V.int)) → R (.ref q) H2) → te σ (upd H' p (.dK [])) R)
    (k : ∀ p q B' H', Aft none B H Fr B' H' → SrcAt H' p q → B' p = none → B' q = none → ¬ Fr p → ¬ Fr q → H p = none → H q = none → Q (.ref p) H') :
    tDisp [(tC (.str "cells"), te), (tC (.str "left"), tC (.int 1)), (tC (.str "mixed"), tVar i), (tC (.str "turn"), tC (.int 0))] σ H' Q := by
  obtain ⟨v, ev, rv⟩ := w.rp e1
  cases rv
  refine disp_src (K := K) (B := B') hi (fun H2 R r => ⟨_, ev, r⟩) fun p q H2 npq hp hq ot h2q h2p => ?_
  have hsub : Ex B' H2 := w.ex.trans ot
  have nF : ∀ x, Fr x → x ≠ p ∧ x ≠ q := fun x hx => ⟨fun z => (w.fr x hx).2 (z ▸ hp), fun z => (w.fr x hx).2 (z ▸ hq)⟩
  refine k p q B' H2 ⟨a.b, hsub, fun x hx => ⟨(ex_eq ot (w.fr x hx).2).trans (a.fr x hx).1, (a.fr x hx).2⟩, fun _ _ e => by cases e⟩ ⟨npq, (ns.map absI).reverse, 1, m, 0, h2q, h2p, fun c hc => ?_, by simpa using hn, by decide, hm.1, hm.2, by decide⟩ (fresh_of w.ex hp) (fresh_of w.ex hq) (fun z => (nF p z).1 rfl) (fun z => (nF q z).2 rfl) (fresh_of hw hp) (fresh_of hw hq)
  rw [List.mem_reverse] at hc
  obtain ⟨z, _, rfl⟩ := List.mem_map.mp hc
  show 0 ≤ if z < 0 then -z else z
  split <;> omega
theorem sw_run {K : PySem.W.Frag} {S : Option (Addr × Addr)} {ts : TS} {ρ : Env} {P : Env → Prop} {B H : Hp} {Fr : Set'} {σ : L2.St} {D : Ends} (h : StW K S ts ρ { nx := P, rt := fun _ => False }) (w : Wd K S B H Fr σ ρ)
    (k : ∀ ρ' σ' B' H', P ρ' → Aft S B H Fr B' H' → Wd K S B' H' Fr σ' ρ' → D.nx σ' H') : ts D σ H := h B H Fr σ D w ⟨k, fun _ _ _ _ z => z.elim, fun _ _ _ _ z => z.elim, fun _ _ _ _ _ z => z.elim⟩
theorem sw_runS {K : PySem.W.Frag} {S : Option (Addr × Addr)} {ts us : TS} {ρ : Env} {P : Env → Prop} {B H : Hp} {Fr : Set'} {σ : L2.St} {D : Ends} (h : StW K S ts ρ { nx := P, rt := fun _ => False }) (w : Wd K S B H Fr σ ρ)
    (k : ∀ ρ' σ' B' H', P ρ' → Aft S B H Fr B' H' → Wd K S B' H' Fr σ' ρ' → us D σ' H') : tSeq ts us D σ H := sw_run (D := { D with nx := us D }) h w k
theorem sw_script {K : PySem.W.Frag} {ρ : Env} {ns : List Int} {g : TG} {tb : TS} {E : DE} {j : Nat} (hj : ρ[j]? = some (some (.scr ns))) (I : Int → Env → Prop) (m0 : Int) (hm : 0 ≤ m0 ∧ m0 < 2147483648) (h0 : I m0 ρ)
    (hs : ∀ c m ρ1, I m ρ1 → 0 ≤ m ∧ m < 2147483648 → ∃ ρ2 js, GtD K none g ρ1 (.int c) ρ2 js ∧ StW K none tb ρ2 { E with nx := fun ρ3 => ∃ ρ4, Le ρ4 ρ3 ∧ I ((m * 69069 + c * 31 + 5) % 2147483629) ρ4, ct := fun _ => False, bk := fun _ => False })
    (hd : ∀ m ρ1, 0 ≤ m ∧ m < 2147483648 → I m ρ1 → E.nx ρ1) : StW K none (tFor (iSeq K (tVar j)) g tb) ρ E :=
  sw_for ns PyData.int (fun _ ρ1 => ∃ m, (0 ≤ m ∧ m < 2147483648) ∧ I m ρ1) (ei_scr hj) ⟨m0, hm, h0⟩ (fun i c ρ1 _ ⟨m, hm, hI⟩ => by
    obtain ⟨ρ2, js, hg, hb⟩ := hs c m ρ1 hI hm
    exact ⟨ρ2, js, hg, sw_mono hb (fun ρ3 ⟨ρ4, l, q⟩ => ⟨ρ4, l, _, by omega, q⟩) (fun _ z => z.elim) (fun _ z => z.elim) fun _ z => z⟩) fun ρ1 ⟨m, hm, hI⟩ => hd m ρ1 hm hI
theorem oth_aft {B H B' H' : Hp} {Fr : Set'} (a : Aft none B H (oth B H) B' H') (fr : ∀ a, Fr a → B a = none ∧ H a ≠ none) : Aft none B H Fr B' H' := ⟨a.b, a.sub, fun x hx => a.fr x (fr x hx), a.src⟩
theorem openA_read {K : PySem.W.Frag} {vs : List V} {H : Hp} {Q : VK} {E : XK} {N : List Str} (hN : N.length = 4) (hs : SpO K vs H Q E) : openA K { nx := fun _ H' => Q .non H', rt := Q } (L2.start N vs) H := by
  obtain ⟨a, ns, B, Fr, rfl, hl, hn, hb, ex, fr, k⟩ := hs
  have est : L2.start N [.ref a] = some (.ref a) :: List.replicate 3 none := by
    unfold L2.start
    rw [hN]
    rfl
  rw [est]
  have w0 : Wd K none B H (oth B H) (some (.ref a) :: List.replicate 3 none) (some (.scr ns) :: List.replicate 3 none) := wd_scr hl ex fun a h => h
  unfold openA
  refine sw_runS (P := fun ρ => ρ = [some (.scr ns), some (.d (.int 11)), none, none]) (sw_asg ev_int rfl) w0 fun ρ1 σ1 B1 H1 e1 a1 w1 => ?_
  subst e1
  refine sw_runS (P := fun ρ => ∃ m : Int, (0 ≤ m ∧ m < 2147483648) ∧ ρ = [some (.scr ns), some (.d (.int m)), none, none]) (sw_script rfl (fun m ρ => ρ = [some (.scr ns), some (.d (.int m)), none, none]) 11 (by decide) rfl (fun c m ρ1 e hm => ?_) fun m ρ1 hm e => ⟨m, hm, e⟩) w1 fun ρ2 σ2 B2 H2 e2 a2 w2 => ?_
  · subst e
    exact ⟨_, [2], gt_name, sw_stir rfl rfl ⟨_, Le.keep (Le.keep (Le.drop (Le.keep Le.nil))), rfl⟩⟩
  obtain ⟨m, hm, rfl⟩ := e2
  refine sw_runS (P := fun ρ => ρ = [some (.scr ns), some (.d (.int m)), none, some (.l ((((ns.filter fun _ => true).map fun n => PyData.int (absI n))).map O.d))]) (sw_asg (ev_lc ns PyData.int (fun _ => true) (fun n => .int (absI n)) (ei_scr rfl) fun c hc =>
    ⟨_, [2], gt_name, by simp, et_yes, fun _ => ev_cb (ea_cons (ev_var rfl) ea_nil) rc_abs⟩) rfl) w2 fun ρ3 σ3 B3 H3 e3 a3 w3 => ?_
  subst e3
  obtain ⟨v, F, ev, qo, nF, w4⟩ := w3.frzAt (i := 3) rfl (.l _ fun o ho => by obtain ⟨d, _, rfl⟩ := List.mem_map.mp ho; exact .d d)
  have a4 := w4.frz_aft fun a ha => (qo.there a ha).1
  rw [O.data_ld] at w4
  have af : Aft none B H (oth B H) _ H3 := ((a1.trans a2).trans a3).trans a4
  obtain ⟨v', ev', rv⟩ := w4.rp (i := 3) rfl
  rw [ev] at ev'
  cases ev'
  cases rv with
  | @lst l xs _ hl2 ra =>
  have e5 : xs = (ns.map absI).map V.int := by
    have : ((ns.filter fun _ => true).map fun n => PyData.int (absI n)) = (ns.map absI).map PyData.int := by rw [List.filter_eq_self.mpr (by simp), List.map_map]; rfl
    rw [this] at ra
    exact ra.ints
  subst e5
  have gr := af.gr ex
  refine open_end (B' := _) hn hm (oth_aft af fr) (w4.less (G := Fr) fun a ha => fr a ha) gr.h (i := 1) rfl (fun p hp R hR => ⟨_, ev, l, (ns.map absI).map V.int, rfl, SqL.of ?_, fun q hq => ?_⟩) k
  · rw [upd_ne (ne_of_none (w4.ex _ _ hl2) hp)]
    exact w4.ex _ _ hl2
  · exact hR _ q (Ex.new hq) hq (by rw [upd_same, List.map_reverse])
end DL

set_option Elab.async false
set_option linter.all false
set_option maxRecDepth 100000
set_option maxHeartbeats 2000000
/-! DLS: data of a type, told by toD -/
namespace DL
open PySem PySem.Spec PyProof.Rows L2
open Evl (Ex Ex.refl Ex.trans Ex.new Ex.mut)
/-- a list that is owned, its items data -/
abbrev oL {α : Type} (f : α → D) (xs : List α) : O := .l (xs.map fun x => .d (f x))
abbrev p2 {α β : Type} (f : α → D) (g : β → D) (x : α × β) : D := .tuple [f x.1, g x.2]
abbrev p3 {α β γ : Type} (f : α → D) (g : β → D) (h : γ → D) (x : α × β × γ) : D := .tuple [f x.1, g x.2.1, h x.2.2]
abbrev p4 {α β γ δ : Type} (f : α → D) (g : β → D) (h : γ → D) (k : δ → D) (x : α × β × γ × δ) : D := .tuple [f x.1, g x.2.1, h x.2.2.1, k x.2.2.2]
theorem gi_mem {α : Type} [Inhabited α] {xs : List α} {i : Nat} (h : i < xs.length) : gi xs (i : Int) ∈ xs := by
  rw [gi_eq (by omega) (by omega)]
  exact List.getElem_mem _
theorem gi_memI {α : Type} [Inhabited α] {xs : List α} {i : Int} (h : i < xs.length) (h0 : 0 ≤ i) : gi xs i ∈ xs := by
  rw [gi_eq h h0]
  exact List.getElem_mem _
theorem atI_0 {α : Type} {x : α} {xs : List α} : atI (x :: xs) 0 = some x := by
  unfold atI ixN
  rw [if_pos (by decide), if_pos (by rw [List.length_cons]; omega)]
  rfl
/-- == of two of a type -/
def EqD {α : Type} [DecidableEq α] (f : α → D) : Prop := ∀ x y, PyData.eqv (f x) (f y) = decide (x = y)
def ShD {α : Type} (n : Nat) (f : α → D) : Prop := ∀ x, Sh n (f x)
theorem eqd_int : EqD PyData.int := fun x y => by simp [PyData.eqv]; rfl
theorem eqd_bool : EqD PyData.bool := fun x y => by simp [PyData.eqv]; cases x <;> cases y <;> rfl
theorem eqd_str : EqD PyData.str := fun x y => by simp [PyData.eqv]; rfl
theorem eqvAll_map {α : Type} [DecidableEq α] {f : α → D} (h : EqD f) : ∀ xs ys : List α, PyData.eqvAll (xs.map f) (ys.map f) = decide (xs = ys)
  | [], [] => by simp [PyData.eqvAll]
  | [], _ :: _ => by simp [PyData.eqvAll]
  | _ :: _, [] => by simp [PyData.eqvAll]
  | x :: xs, y :: ys => by simp [PyData.eqvAll, h x y, eqvAll_map h xs ys, Bool.decide_and]
theorem eqd_tM {α : Type} [DecidableEq α] {f : α → D} (h : EqD f) : EqD (tM f) := fun x y => by simp only [tM, PyData.eqv]; exact eqvAll_map h x y
theorem eqd_lM {α : Type} [DecidableEq α] {f : α → D} (h : EqD f) : EqD (lM f) := fun x y => by simp only [lM, PyData.eqv]; exact eqvAll_map h x y
theorem eqd_p2 {α β : Type} [DecidableEq α] [DecidableEq β] {f : α → D} {g : β → D} (h1 : EqD f) (h2 : EqD g) : EqD (p2 f g) := fun x y => by
  simp only [p2, PyData.eqv, PyData.eqvAll, h1 x.1 y.1, h2 x.2 y.2, Bool.and_true, Prod.ext_iff, Bool.decide_and]
theorem eqd_p3 {α β γ : Type} [DecidableEq α] [DecidableEq β] [DecidableEq γ] {f : α → D} {g : β → D} {h : γ → D} (h1 : EqD f) (h2 : EqD g) (h3 : EqD h) : EqD (p3 f g h) := fun x y => by
  simp only [p3, PyData.eqv, PyData.eqvAll, h1 x.1 y.1, h2 x.2.1 y.2.1, h3 x.2.2 y.2.2, Bool.and_true, Prod.ext_iff, Bool.decide_and]
theorem shd_int {n : Nat} : ShD n PyData.int := fun _ => sh_int
theorem shd_bool {n : Nat} : ShD n PyData.bool := fun _ => sh_bool
theorem shd_tM {n : Nat} {α : Type} {f : α → D} (h : ShD n f) : ShD (n + 1) (tM f) := fun x => sh_tM h
theorem shd_lM {n : Nat} {α : Type} {f : α → D} (h : ShD n f) : ShD (n + 1) (lM f) := fun x => sh_lM h
theorem shd_p2 {n : Nat} {α β : Type} {f : α → D} {g : β → D} (h1 : ShD n f) (h2 : ShD n g) : ShD (n + 1) (p2 f g) := fun x => sh_2 (h1 _) (h2 _)
theorem shd_p3 {n : Nat} {α β γ : Type} {f : α → D} {g : β → D} {h : γ → D} (h1 : ShD n f) (h2 : ShD n g) (h3 : ShD n h) : ShD (n + 1) (p3 f g h) := fun x => sh_3 (h1 _) (h2 _) (h3 _)
section
variable {K : PySem.W.Frag} {S : Option (Addr × Addr)} {ρ : Env} {ta tb te : TE} {tt : TT} {d e : D} {α β γ : Type} {f : α → D} {i j : Nat} {ts us : TS} {E : DE}
theorem r2_eqM [DecidableEq α] {x y : α} {n : Nat} (h : EqD f) (s : ShD n f) (hn : n ≤ 64 := by decide) : R2D K S (rEqY K) (f x) (f y) (.d (.bool (decide (x = y)))) := by
  have := r2_eq (K := K) (S := S) ((s x).shaped hn) ((s y).shaped hn); rwa [h x y] at this
theorem r2_neM [DecidableEq α] {x y : α} {n : Nat} (h : EqD f) (s : ShD n f) (hn : n ≤ 64 := by decide) : R2D K S (rNeY K) (f x) (f y) (.d (.bool (!decide (x = y)))) := by
  have := r2_ne (K := K) (S := S) ((s x).shaped hn) ((s y).shaped hn); rwa [h x y] at this
/-- [te for g in wi], the items of a type -/
theorem ev_lcM {wi : TI} {g : TG} {vs : List Nat} (toD : β → D) (xs : List α) (e : α → D) (h : α → β) (hi : EvI K S wi ρ (xs.map e)) (hb : ∀ x, x ∈ xs → ∃ ρ2 js, GtD K S g (wipeE ρ vs) (e x) ρ2 js ∧ (∀ j ∈ js, j ∈ vs) ∧ EvD K S te ρ2 (toD (h x))) :
    EvO K S (tLc wi g tYes te vs) ρ (oL toD (xs.map h)) := by
  have := ev_lc xs e (fun _ => true) (fun x => toD (h x)) hi fun x hx => by
    obtain ⟨ρ2, js, h1, h2, h3⟩ := hb x hx
    exact ⟨ρ2, js, h1, h2, et_yes, fun _ => h3⟩
  rw [List.filter_eq_self.mpr (by simp)] at this
  refine ev_is this ?_
  simp [oL, List.map_map, Function.comp_def]
theorem ev_lcF {wi : TI} {g : TG} {vs : List Nat} (toD : β → D) (xs : List α) (e : α → D) (p : α → Bool) (h : α → β) (hi : EvI K S wi ρ (xs.map e)) (hb : ∀ x, x ∈ xs → ∃ ρ2 js, GtD K S g (wipeE ρ vs) (e x) ρ2 js ∧ (∀ j ∈ js, j ∈ vs) ∧ EvT K S tt ρ2 (p x) ∧ (p x = true → EvD K S te ρ2 (toD (h x)))) :
    EvO K S (tLc wi g tt te vs) ρ (oL toD ((xs.filter p).map h)) := by
  have := ev_lc xs e p (fun x => toD (h x)) hi hb
  refine ev_is this ?_
  simp [oL, List.map_map, Function.comp_def]
theorem ev_frzM {f : α → D} {xs : List α} (h : EvO K S te ρ (oL f xs)) : EvD K S te ρ (lM f xs) := ev_frzL (ev_is h (by simp [oL, List.map_map, Function.comp_def]))
theorem ev_lst0 (f : α → D) : EvO K S (tLst tNil) ρ (oL f []) := ev_is (ev_lst ea_nil) rfl
theorem nsL {f : α → D} {xs : List α} : NoSrc (oL f xs) := .l _ fun o ho => by obtain ⟨d, _, rfl⟩ := List.mem_map.mp ho; exact .d _
theorem oL_data {f : α → D} {xs : List α} : (oL f xs).data = lM f xs := by simp [oL, O.data, O.dataAll_map, List.map_map, Function.comp_def]
theorem oiL {f : α → D} {xs : List α} (h : ∀ x, Im (f x)) : OIm (oL f xs) := .l _ fun o ho => by obtain ⟨d, _, rfl⟩ := List.mem_map.mp ho; exact .d _ (h _)
theorem sw_appM {f : α → D} {xs : List α} {x : α} (hi : ρ[i]? = some (some (oL f xs))) (h : EvD K S te ρ (f x)) (hz : xs.length < sizeLine) (k : E.nx (ρ.set i (some (oL f (xs ++ [x]))))) : StW K S (tDrop (tBM K "list" rAppend (tVar i) (tCons te tNil))) ρ E :=
  sw_app hi h (by simpa using hz) (by simpa [oL] using k)
theorem sw_appMN {f : α → D} {xs : List α} {Q : D → Prop} (hi : ρ[i]? = some (some (oL f xs))) (h : EvN K S te ρ Q) (hz : xs.length < sizeLine) (k : ∀ d, Q d → ∃ x, d = f x ∧ E.nx (ρ.set i (some (oL f (xs ++ [x]))))) : StW K S (tDrop (tBM K "list" rAppend (tVar i) (tCons te tNil))) ρ E :=
  sw_appN hi h (by simpa using hz) fun d q => by
    obtain ⟨x, rfl, q2⟩ := k d q
    simpa [oL] using q2
theorem sw_frzM (i : Nat) {f : α → D} {xs : List α} (h : ρ[i]? = some (some (oL f xs))) (k : StW K S ts (ρ.set i (some (.d (lM f xs)))) E) : StW K S ts ρ E := sw_frz i h nsL (by rw [oL_data]; exact k)
theorem ev_borM (i : Nat) {f : α → D} {xs : List α} {o : O} (h : ρ[i]? = some (some (oL f xs))) (im : OIm o) (e : EvO K S te (ρ.set i (some (.d (lM f xs)))) o) : EvO K S te ρ o := ev_bor i h nsL im (by rw [oL_data]; exact e)
theorem gr_bor {B H B' H' : Hp} {Fi : Set'} (hF : ∀ a, Fi a → B a = none ∧ H a ≠ none) (g : Gr (frz B H Fi) H B' H') : Gr B H (open Classical in fun a => if B a = none ∧ H a ≠ none then none else B' a) H' := by
  refine ⟨fun a u ha => ?_, g.h, fun a u ha => ?_, fun a ha => ?_⟩
  · rw [if_neg (by rw [ha]; simp)]
    exact g.b a u (frz_ex (fun a ha => (hF a ha).1) a u ha)
  · split at ha
    · cases ha
    · exact g.sub a u ha
  · split at ha
    · exact absurd rfl ha
    · rename_i z
      by_cases hb : B a = none
      · refine .inr ?_
        cases e : H a with
        | none => rfl
        | some u => exact absurd ⟨hb, by rw [e]; simp⟩ z
      · exact .inl hb
theorem et_bor (i : Nat) {o : O} {b : Bool} (h : ρ[i]? = some (some o)) (ns : NoSrc o) (e : EvT K S tt (ρ.set i (some (.d o.data))) b) : EvT K S tt ρ b := fun B H Fr σ R w k => by
  obtain ⟨vi, Fi, _, qi, _, w2⟩ := w.frzAt h ns
  exact e _ H Fr σ R w2 fun B' H' g => k _ H' (gr_bor qi.there g)
theorem et_borM (i : Nat) {f : α → D} {xs : List α} {b : Bool} (h : ρ[i]? = some (some (oL f xs))) (e : EvT K S tt (ρ.set i (some (.d (lM f xs)))) b) : EvT K S tt ρ b := et_bor i h nsL (by rw [oL_data]; exact e)
theorem ev_ifM {b : Bool} (f : α → D) {x y : α} (h : EvT K S tt ρ b) (h1 : b = true → EvD K S ta ρ (f x)) (h2 : b = false → EvD K S tb ρ (f y)) : EvD K S (tIf tt ta tb) ρ (f (if b = true then x else y)) := by
  cases b with
  | true => exact ev_if h (fun _ => by simpa using h1 rfl) (fun z => by cases z)
  | false => exact ev_if h (fun z => by cases z) (fun _ => by simpa using h2 rfl)
theorem ei_enumM {tr : TA} {k : Bool} {xs : List α} (h : EvA K S tr ρ [seqD k (xs.map f)]) : EvI K S (iEnumK K tr) ρ (xs.zipIdx.map fun p : α × Nat => .tuple [.int (p.2 : Int), f p.1]) := by
  have := ei_enum h
  have e : enumD (xs.map f) = xs.zipIdx.map fun p : α × Nat => .tuple [.int (p.2 : Int), f p.1] := by
    unfold enumD
    rw [List.zipIdx_map, List.map_map]
    rfl
  rwa [e] at this
theorem ei_zipM {tr : TA} {k1 k2 : Bool} {xs : List α} {ys : List β} {g : β → D} (h : EvA K S tr ρ [seqD k1 (xs.map f), seqD k2 (ys.map g)]) : EvI K S (iZipK K tr) ρ ((xs.zip ys).map fun p => .tuple [f p.1, g p.2]) := by
  have := ei_zip h
  have e : zipD (xs.map f) (ys.map g) = (xs.zip ys).map fun p => .tuple [f p.1, g p.2] := by
    unfold zipD
    rw [List.zip_map, List.map_map]
    rfl
  rwa [e] at this
theorem r2_addLM {xs ys : List α} (hz : xs.length + ys.length ≤ sizeLine) : R2D K S (rAddD K) (lM f xs) (lM f ys) (oL f (xs ++ ys)) := by
  have := r2_addL (K := K) (S := S) (xs := xs.map f) (ys := ys.map f) (by simpa using hz)
  simpa [oL, List.map_map, Function.comp_def] using this
theorem r2_mulM {x : α} {j : Int} (h1 : 2 ≤ j) (h2 : j ≤ 1000) : R2D K S (rMulD K) (.tuple [f x]) (.int j) (.d (tM f (List.replicate j.toNat x))) := by
  have := r2_mulT (K := K) (S := S) (xs := [f x]) (by simp) h1 h2 (by simp)
  have e : (List.replicate j.toNat [f x]).flatten = (List.replicate j.toNat x).map f := by simp
  rwa [e] at this
/-- a loop that puts one item a turn behind a list -/
theorem sw_build {wi : TI} {g : TG} {tb : TS} (xs : List α) (e : α → D) (h : α → β) (ys0 : List β) (env : List β → Env) (hi : EvI K S wi ρ (xs.map e)) (h0 : Le (env ys0) ρ)
    (hs : ∀ i x ys, xs[i]? = some x → ys = ys0 ++ (xs.take i).map h → ∃ ρ2 js, GtD K S g (env ys) (e x) ρ2 js ∧ StW K S tb ρ2 { E with nx := fun ρ3 => Le (env (ys ++ [h x])) ρ3, ct := fun ρ3 => Le (env (ys ++ [h x])) ρ3, bk := fun _ => False })
    (hd : ∀ ρ1, Le (env (ys0 ++ xs.map h)) ρ1 → E.nx ρ1) : StW K S (tFor wi g tb) ρ E := by
  have fe : ∀ (xs : List α) (ys : List β), xs.foldl (fun ys x => ys ++ [h x]) ys = ys ++ xs.map h := fun xs => by
    induction xs with
    | nil => intro ys; simp
    | cons x xs ih => intro ys; rw [List.foldl_cons, ih]; simp
  refine sw_fold xs e env (fun ys x => ys ++ [h x]) ys0 (fun _ _ => True) hi h0 trivial (fun i x ys hx _ ey => ⟨trivial, hs i x ys hx (by rw [ey, fe])⟩) fun ρ1 _ l => ?_
  rw [fe] at l
  exact hd ρ1 l
theorem ei_rangeE {tr : TA} {k : Int} (n : Nat) (h : EvA K S tr ρ [.int k]) (e : k = (n : Int)) (hn : n ≤ 16000000) : EvI K S (iRng1 tr) ρ ((List.range n).map fun i : Nat => .int (i : Int)) := by
  subst e
  exact ei_range h (by omega)
/-- a, b = data, an owned thing -/
theorem sw_parO {o : O} (h1 : EvD K S ta ρ d) (h2 : EvO K S tb ρ o) (k : E.nx ((ρ.set i (some (.d d))).set j (some o))) : StW K S (tPar i j (tCons ta (tCons tb tNil))) ρ E := fun B H Fr σ D w kk => h1.use w fun v B1 H1 g1 r1 => h2 B1 H1 Fr σ _ (w.grow g1) fun u F B2 H2 g2 q2 n2 => by
  refine ⟨v, u, rfl, kk.nx _ _ B2 H2 k ((g1.trans g2).aft w) ?_⟩
  have w2 := (w.grow g1).growAdd g2 (G := F) (fun a ha => q2.there a ha) n2
  have w3 := w2.putD (r1.mono g2.b) i
  exact w3.put q2 (fun a ha hf => ((w.grow g1).fr a hf).2 (n2 a ha)) j
theorem ei_tupD {xs : List D} (h : EvD K S te ρ (.tuple xs)) : EvI K S (iSeq K te) ρ (xs.map fun d => d) := by rw [List.map_id']; exact ei_tup h
theorem ei_listD {xs : List D} (h : EvD K S te ρ (.list xs)) : EvI K S (iSeq K te) ρ (xs.map fun d => d) := by rw [List.map_id']; exact ei_list h
theorem ev_lcM2 {wi : TI} {g : TG} {vs : List Nat} (f1 : β → D) (f2 : γ → D) (xs : List α) (e : α → D) (h1 : α → β) (h2 : α → γ) (hi : EvI K S wi ρ (xs.map e)) (hb : ∀ x, x ∈ xs → ∃ ρ2 js, GtD K S g (wipeE ρ vs) (e x) ρ2 js ∧ (∀ j ∈ js, j ∈ vs) ∧ EvD K S te ρ2 (.tuple [f1 (h1 x), f2 (h2 x)])) :
    EvO K S (tLc wi g tYes te vs) ρ (oL (p2 f1 f2) (xs.map fun x => (h1 x, h2 x))) := ev_lcM (p2 f1 f2) xs e (fun x => (h1 x, h2 x)) hi hb
theorem ev_lcF2 {wi : TI} {g : TG} {vs : List Nat} (f1 : β → D) (f2 : γ → D) (xs : List α) (e : α → D) (p : α → Bool) (h1 : α → β) (h2 : α → γ) (hi : EvI K S wi ρ (xs.map e)) (hb : ∀ x, x ∈ xs → ∃ ρ2 js, GtD K S g (wipeE ρ vs) (e x) ρ2 js ∧ (∀ j ∈ js, j ∈ vs) ∧ EvT K S tt ρ2 (p x) ∧ (p x = true → EvD K S te ρ2 (.tuple [f1 (h1 x), f2 (h2 x)]))) :
    EvO K S (tLc wi g tt te vs) ρ (oL (p2 f1 f2) ((xs.filter p).map fun x => (h1 x, h2 x))) := ev_lcF (p2 f1 f2) xs e p (fun x => (h1 x, h2 x)) hi hb
theorem ev_lcM3 {δ : Type} {wi : TI} {g : TG} {vs : List Nat} (f1 : β → D) (f2 : γ → D) (f3 : δ → D) (xs : List α) (e : α → D) (h1 : α → β) (h2 : α → γ) (h3 : α → δ) (hi : EvI K S wi ρ (xs.map e)) (hb : ∀ x, x ∈ xs → ∃ ρ2 js, GtD K S g (wipeE ρ vs) (e x) ρ2 js ∧ (∀ j ∈ js, j ∈ vs) ∧ EvD K S te ρ2 (.tuple [f1 (h1 x), f2 (h2 x), f3 (h3 x)])) :
    EvO K S (tLc wi g tYes te vs) ρ (oL (p3 f1 f2 f3) (xs.map fun x => (h1 x, h2 x, h3 x))) := ev_lcM (p3 f1 f2 f3) xs e (fun x => (h1 x, h2 x, h3 x)) hi hb
theorem ev_lcF3 {δ : Type} {wi : TI} {g : TG} {vs : List Nat} (f1 : β → D) (f2 : γ → D) (f3 : δ → D) (xs : List α) (e : α → D) (p : α → Bool) (h1 : α → β) (h2 : α → γ) (h3 : α → δ) (hi : EvI K S wi ρ (xs.map e)) (hb : ∀ x, x ∈ xs → ∃ ρ2 js, GtD K S g (wipeE ρ vs) (e x) ρ2 js ∧ (∀ j ∈ js, j ∈ vs) ∧ EvT K S tt ρ2 (p x) ∧ (p x = true → EvD K S te ρ2 (.tuple [f1 (h1 x), f2 (h2 x), f3 (h3 x)]))) :
    EvO K S (tLc wi g tt te vs) ρ (oL (p3 f1 f2 f3) ((xs.filter p).map fun x => (h1 x, h2 x, h3 x))) := ev_lcF (p3 f1 f2 f3) xs e p (fun x => (h1 x, h2 x, h3 x)) hi hb
/-- a, b = two owned things -/
theorem sw_parOO {o1 o2 : O} (h1 : EvO K S ta ρ o1) (h2 : EvO K S tb ρ o2) (k : E.nx ((ρ.set i (some o1)).set j (some o2))) : StW K S (tPar i j (tCons ta (tCons tb tNil))) ρ E := fun B H Fr σ D w kk => h1 B H Fr σ _ w fun v F1 B1 H1 g1 q1 n1 => h2 B1 H1 Fr σ _ (w.grow g1) fun u F B2 H2 g2 q2 n2 => by
  refine ⟨v, u, rfl, kk.nx _ _ B2 H2 k ((g1.trans g2).aft w) ?_⟩
  have wa := w.growAdd g1 (G := F1) (fun a ha => q1.there a ha) n1
  have w2 := wa.growAdd g2 (G := F) (fun a ha => q2.there a ha) n2
  have nF : ∀ a, F a → ¬ (Fr a ∨ F1 a) := fun a ha z => (wa.fr a z).2 (n2 a ha)
  have w3 : Wd K S B2 H2 (fun a => (Fr a ∨ F a) ∨ F1 a) σ ρ := w2.less fun a z => by
    rcases z with (z | z) | z
    · exact .inl (.inl z)
    · exact .inr z
    · exact .inl (.inr z)
  have w4 := w3.put (q1.grow g2) (fun a ha z => by
    rcases z with z | z
    · exact (w.fr a z).2 (n1 a ha)
    · exact nF a z (.inr ha)) i
  exact w4.put q2 (fun a ha z => nF a ha (.inl z)) j
theorem ev_lstM {tr : TA} (f : α → D) (xs : List α) {ds : List D} (h : EvA K S tr ρ ds) (e : ds = xs.map f) (hz : xs.length ≤ 1000 := by simp) : EvO K S (tLst tr) ρ (oL f xs) := by
  subst e
  exact ev_is (ev_lst h (by rw [List.length_map, sizeLine_eq]; omega)) (by simp [oL, Function.comp_def])
theorem ev_tupM {tr : TA} (f : α → D) (xs : List α) {ds : List D} (h : EvA K S tr ρ ds) (e : ds = xs.map f) (hz : xs.length ≤ 1000 := by simp) : EvD K S (tTup tr) ρ (tM f xs) := by
  subst e
  exact ev_tup h (by rw [List.length_map, sizeLine_eq]; omega)
end
end DL

set_option Elab.async false
set_option linter.all false
set_option maxRecDepth 100000
set_option maxHeartbeats 2000000
/-! DLT: how long a text is; drawn values of a type -/
namespace DL
open PySem PySem.Spec PyProof.Rows L2
open Evl (Ex Ex.refl Ex.trans Ex.new Ex.mut)
section
variable {X : Cx} {K : PySem.W.Frag}
theorem cr_lenC (hK : X.K = K) : CallR X (.builtin "len") (rLenC K) := hK ▸ call_len_seq
theorem pe_revLR {e : Expr} {te : TE} {k : Nat} {p1 p2 p3 pos : Pos} (hK : X.K = K) (he : PE X e te) : PE X (.Subscript e (.Slice none none (some (.UnaryOp .USub (.Constant (.int 1) k p1) p2)) p3) pos) (tRevL K te) := hK ▸ pe_revL he
end
def Sz (n : Nat) (d : D) : Prop := d.showable = true ∧ d.shown.length ≤ n
theorem Sz.mono {n m : Nat} {d : D} (h : Sz n d) (hn : n ≤ m) : Sz m d := ⟨h.1, Nat.le_trans h.2 hn⟩
theorem sz_int (k : Nat) {i : Int} (h : i.natAbs < 10 ^ k) (h0 : 0 < k := by decide) (h9 : k ≤ 500 := by decide) : Sz (k + 1) (.int i) := by
  refine ⟨?_, ?_⟩
  · simp only [PyData.showable, decide_eq_true_eq]
    exact PySem.Flt.log2_lt_of (by decide) (Nat.lt_of_lt_of_le h (Nat.le_trans (Nat.pow_le_pow_right (by decide) h9) (by decide +kernel)))
  · simp only [PyData.shown]
    show (Str.ofString (toString i)).length ≤ _
    rw [PySem.ofString_length]
    exact int_text_length_le10 h0 h
theorem sz_bool {b : Bool} : Sz 5 (.bool b) := ⟨rfl, by cases b <;> decide⟩
theorem sz_none : Sz 4 .none := ⟨rfl, by decide⟩
theorem sz_alls {n : Nat} : ∀ {xs : List D}, (∀ x ∈ xs, Sz n x) → PyData.showableAll xs = true ∧ (∀ t ∈ PyData.shownAll xs, t.length ≤ n) ∧ (PyData.shownAll xs).length = xs.length
  | [], _ => by simp [PyData.showableAll, PyData.shownAll]
  | x :: xs, h => by
    have h1 := h x (by simp)
    obtain ⟨h2, h3, h4⟩ := sz_alls (xs := xs) fun y hy => h y (by simp [hy])
    refine ⟨by simp [PyData.showableAll, h1.1, h2], ?_, by simp [PyData.shownAll, h4]⟩
    intro t ht
    simp only [PyData.shownAll, List.mem_cons] at ht
    rcases ht with rfl | ht
    · exact h1.2
    · exact h3 t ht
theorem join_le {n : Nat} : ∀ {ts : List Str}, (∀ t ∈ ts, t.length ≤ n) → (Str.join ", " ts).length ≤ ts.length * (n + 2)
  | [], _ => Nat.zero_le _
  | [x], h => by
    have := h x (by simp)
    show x.length ≤ _
    simp; omega
  | x :: y :: r, h => by
    have ih := join_le (ts := y :: r) fun t ht => h t (by simp at ht; simp [ht])
    have h1 := h x (by simp)
    show (x ++ ", " ++ Str.join ", " (y :: r)).length ≤ _
    have e2 : ((", " : String) : Str).length = 2 := rfl
    rw [strLen_append, strLen_append, e2]
    rw [List.length_cons (as := y :: r), Nat.add_mul]
    omega
theorem textFrom_le {n : Nat} : ∀ {ts : List Str} (k : Nat) (acc : Str), (∀ t ∈ ts, t.length ≤ n) → (textFrom k acc ts).length ≤ acc.length + ts.length * (n + 2)
  | [], _, acc, _ => by show acc.length ≤ _; omega
  | x :: r, k, acc, h => by
    have ih := textFrom_le (ts := r) (k + 1) (acc ++ (if k > 0 then ", " else "" : String) ++ x) fun t ht => h t (by simp [ht])
    have h1 := h x (by simp)
    have e : (acc ++ (if k > 0 then ", " else "" : String) ++ x).length ≤ acc.length + 2 + x.length := by
      rw [strLen_append, strLen_append]
      split
      · exact Nat.le_refl _
      · show acc.length + 0 + _ ≤ _
        omega
    show (textFrom (k + 1) (acc ++ (if k > 0 then ", " else "" : String) ++ x) r).length ≤ _
    rw [List.length_cons, Nat.add_mul]
    omega
theorem sz_tup {n : Nat} {xs : List D} (h : ∀ x ∈ xs, Sz n x) : Sz (xs.length * (n + 2) + 3) (.tuple xs) := by
  obtain ⟨h1, h2, h3⟩ := sz_alls h
  refine ⟨by simpa [PyData.showable] using h1, ?_⟩
  have hj := join_le h2
  simp only [PyData.shown]
  unfold tupleText
  rw [strLen_append, strLen_append]
  rw [h3] at hj
  have e1 : ("(" : Str).length = 1 := rfl
  have e2 : ((if (PyData.shownAll xs).length == 1 then ",)" else ")" : String) : Str).length ≤ 2 := by split <;> decide
  omega
theorem sz_lst {n : Nat} {xs : List D} (h : ∀ x ∈ xs, Sz n x) : Sz (xs.length * (n + 2) + 3) (.list xs) := by
  obtain ⟨h1, h2, h3⟩ := sz_alls h
  refine ⟨by simpa [PyData.showable] using h1, ?_⟩
  have hj := textFrom_le 0 "[" h2
  simp only [PyData.shown]
  unfold listText
  rw [strLen_append]
  rw [h3] at hj
  have e1 : ("[" : Str).length = 1 := rfl
  have e2 : ("]" : Str).length = 1 := rfl
  omega
theorem sz_tM {n : Nat} {α : Type} {f : α → D} {xs : List α} (h : ∀ x ∈ xs, Sz n (f x)) : Sz (xs.length * (n + 2) + 3) (tM f xs) := by
  have := sz_tup (xs := xs.map f) fun x hx => by obtain ⟨y, hy, rfl⟩ := List.mem_map.mp hx; exact h y hy
  rwa [List.length_map] at this
theorem sz_lM {n : Nat} {α : Type} {f : α → D} {xs : List α} (h : ∀ x ∈ xs, Sz n (f x)) : Sz (xs.length * (n + 2) + 3) (lM f xs) := by
  have := sz_lst (xs := xs.map f) fun x hx => by obtain ⟨y, hy, rfl⟩ := List.mem_map.mp hx; exact h y hy
  rwa [List.length_map] at this
theorem sz_2 {n : Nat} {a b : D} (h1 : Sz n a) (h2 : Sz n b) : Sz (2 * (n + 2) + 3) (.tuple [a, b]) := sz_tup (by simp [h1, h2])
theorem sz_3 {n : Nat} {a b c : D} (h1 : Sz n a) (h2 : Sz n b) (h3 : Sz n c) : Sz (3 * (n + 2) + 3) (.tuple [a, b, c]) := sz_tup (by simp [h1, h2, h3])
section
variable {K : PySem.W.Frag} {S : Option (Addr × Addr)} {ρ : Env} {ta tb te : TE} {tt : TT} {α β γ : Type}
theorem ev_repr {d : D} {n m : Nat} (h : EvD K S te ρ d) (sh : Sh m d) (hm : m ≤ 50) (sz : Sz n d) (hn : n ≤ 16000000) : EvD K S (tCB (rReprY K) (tCons te tNil)) ρ (.str d.shown) :=
  ev_cb (ea_cons h ea_nil) (rc_repr sh.1 sz.1 (Nat.le_trans sh.2 hm) (Nat.le_trans sz.2 (by rw [sizeLine_eq]; omega)))
theorem ev_reprI {i : Int} {k : Nat} (h : EvD K S te ρ (.int i)) (sz : Sz k (.int i)) : EvD K S (tCB (rReprY K) (tCons te tNil)) ρ (.str (PyData.int i).shown) :=
  ev_cb (ea_cons h ea_nil) (rc_reprI (by have := sz.1; simpa [PyData.showable] using this))
/-! ### drawn -/
def NT (f : β → D) (P : β → Prop) : D → Prop := fun d => ∃ y, d = f y ∧ P y
theorem EvN.of {f : β → D} {y : β} (h : EvD K S te ρ (f y)) : EvN K S te ρ (NT f fun z => z = y) := h.n ⟨y, rfl, rfl⟩
theorem EvN.imp {f : β → D} {P P' : β → Prop} (h : EvN K S te ρ (NT f P)) (m : ∀ y, P y → P' y) : EvN K S te ρ (NT f P') := h.mono fun _ ⟨y, e, q⟩ => ⟨y, e, m y q⟩
theorem en_op2 {r : R2} {f : α → D} {g : β → D} {h : γ → D} {P : α → Prop} {Q : β → Prop} {R : γ → Prop} (ha : EvN K S ta ρ (NT f P)) (hb : EvN K S tb ρ (NT g Q)) (hr : ∀ a b, P a → Q b → ∃ c, R2D K S r (f a) (g b) (.d (h c)) ∧ R c) : EvN K S (tOp r ta tb) ρ (NT h R) :=
  en_op ha hb fun x y ⟨a, e1, p⟩ ⟨b, e2, q⟩ => by subst e1; subst e2; obtain ⟨c, h1, h2⟩ := hr a b p q; exact ⟨_, h1, c, rfl, h2⟩
theorem en_addI {P Q R : Int → Prop} (ha : EvN K S ta ρ (NT PyData.int P)) (hb : EvN K S tb ρ (NT PyData.int Q)) (hr : ∀ a b, P a → Q b → R (a + b)) : EvN K S (tOp (rAddD K) ta tb) ρ (NT PyData.int R) := en_op2 ha hb fun a b p q => ⟨_, r2_addI, hr a b p q⟩
theorem en_subI {P Q R : Int → Prop} (ha : EvN K S ta ρ (NT PyData.int P)) (hb : EvN K S tb ρ (NT PyData.int Q)) (hr : ∀ a b, P a → Q b → R (a - b)) : EvN K S (tOp (rI0 fun i j => .int (i - j)) ta tb) ρ (NT PyData.int R) := en_op2 ha hb fun a b p q => ⟨_, r2_subI, hr a b p q⟩
/-- a draw -/
theorem en_pick {j : Nat} {m : Int} (hs : ρ[j]? = some (some .src)) (h : EvD K S te ρ (.int m)) (hm : m < 2 ^ 64) : EvN K S (tCall (spPick K) [] E0 (tCons (tVar j) (tCons te tNil))) ρ (NT PyData.int fun r => 0 ≤ r ∧ (r < m ∨ r = 0)) :=
  en_call m hs (ea_cons h ea_nil) hm fun d q => q
inductive All2 (P : α → β → Prop) : List α → List β → Prop
  | nil : All2 P [] []
  | cons {x y xs ys} : P x y → All2 P xs ys → All2 P (x :: xs) (y :: ys)
theorem All2.len {P : α → β → Prop} {xs : List α} {ys : List β} (h : All2 P xs ys) : ys.length = xs.length := by
  induction h with
  | nil => rfl
  | cons h t ih => simp [ih]
theorem All2.snoc {P : α → β → Prop} {xs : List α} {ys : List β} {x : α} {y : β} (h : All2 P xs ys) (q : P x y) : All2 P (xs ++ [x]) (ys ++ [y]) := by
  induction h with
  | nil => exact .cons q .nil
  | cons h t ih => exact .cons h ih
theorem All2.mem {P : α → β → Prop} {xs : List α} {ys : List β} (h : All2 P xs ys) : ∀ y ∈ ys, ∃ x ∈ xs, P x y := by
  induction h with
  | nil => simp
  | cons h t ih =>
    intro y hy
    rcases List.mem_cons.mp hy with rfl | hy
    · exact ⟨_, by simp, h⟩
    · obtain ⟨x, hx, q⟩ := ih y hy
      exact ⟨x, by simp [hx], q⟩
theorem LcR.typed {Qt : α → Bool → Prop} {f : β → D} {P : α → β → Prop} {xs : List α} {ds : List D} (h : LcR Qt (fun x => NT f (P x)) xs ds) (ht : ∀ x b, Qt x b → b = true) : ∃ ys, ds = ys.map f ∧ All2 P xs ys := by
  induction h with
  | nil => exact ⟨[], rfl, .nil⟩
  | out h q ih => cases ht _ _ q
  | add h q e ih =>
    obtain ⟨ys, rfl, a⟩ := ih
    obtain ⟨y, rfl, p⟩ := e
    exact ⟨ys ++ [y], by simp, a.snoc p⟩
theorem en_lcM {wi : TI} {g : TG} {vs : List Nat} (f : β → D) (P : α → β → Prop) (xs : List α) (e : α → D) (hi : EvI K S wi ρ (xs.map e)) (hb : ∀ x, x ∈ xs → ∃ ρ2 js, GtD K S g (wipeE ρ vs) (e x) ρ2 js ∧ (∀ j ∈ js, j ∈ vs) ∧ EvN K S te ρ2 (NT f (P x))) :
    EvN K S (tLc wi g tYes te vs) ρ (NT (lM f) fun ys => All2 P xs ys) :=
  en_lc xs e (fun _ b => b = true) (fun x => NT f (P x)) hi (fun x hx => by
    obtain ⟨ρ2, js, h1, h2, h3⟩ := hb x hx
    exact ⟨ρ2, js, h1, h2, et_yes.n rfl, fun _ => h3⟩) fun ds h => by
    obtain ⟨ys, rfl, a⟩ := h.typed fun _ _ z => z
    exact ⟨ys, rfl, a⟩
theorem en_tuple {f : β → D} {P : List β → Prop} (h : EvN K S te ρ (NT (lM f) P)) : EvN K S (tCB (rTupO K) (tCons te tNil)) ρ (NT (tM f) P) :=
  en_cb (ean_cons h (ean_nil (Q := fun ds => ds = []) rfl)) fun ds ⟨d, r, e1, ⟨ys, e2, p⟩, e3⟩ => by
    subst e1; subst e2; subst e3
    exact ⟨_, .d _, rc_tupleL, ys, rfl, p⟩
theorem en_tup2 {f : α → D} {g : β → D} {P : α → Prop} {Q : β → Prop} (ha : EvN K S ta ρ (NT f P)) (hb : EvN K S tb ρ (NT g Q)) : EvN K S (tTup (tCons ta (tCons tb tNil))) ρ (NT (p2 f g) fun z => P z.1 ∧ Q z.2) :=
  en_tup (ean_cons ha (ean_cons hb (ean_nil (Q := fun ds => ds = []) rfl))) fun ds ⟨d, r, e1, ⟨a, e2, p⟩, d2, r2, e3, ⟨b, e4, q⟩, e5⟩ => by
    subst e1; subst e2; subst e3; subst e4; subst e5
    exact ⟨by rw [sizeLine_eq]; simp, (a, b), rfl, p, q⟩
theorem en_tup3 {tc : TE} {f : α → D} {g : β → D} {h : γ → D} {P : α → Prop} {Q : β → Prop} {R : γ → Prop} (ha : EvN K S ta ρ (NT f P)) (hb : EvN K S tb ρ (NT g Q)) (hc : EvN K S tc ρ (NT h R)) : EvN K S (tTup (tCons ta (tCons tb (tCons tc tNil)))) ρ (NT (p3 f g h) fun z => P z.1 ∧ Q z.2.1 ∧ R z.2.2) :=
  en_tup (ean_cons ha (ean_cons hb (ean_cons hc (ean_nil (Q := fun ds => ds = []) rfl)))) fun ds ⟨d, r, e1, ⟨a, e2, p⟩, d2, r2, e3, ⟨b, e4, q⟩, d3, r3, e5, ⟨c, e6, s⟩, e7⟩ => by
    subst e1; subst e2; subst e3; subst e4; subst e5; subst e6; subst e7
    exact ⟨by rw [sizeLine_eq]; simp, (a, b, c), rfl, p, q, s⟩
/-- a comparison whose outcome does not matter -/
theorem etn_gtI {P Q : Int → Prop} (ha : EvN K S ta ρ (NT PyData.int P)) (hb : EvN K S tb ρ (NT PyData.int Q)) : EvTN K S (tTest (tOp (rLtX K (fun i j => decide (j < i)) fun d e => PySem.W.dataLt e d) ta tb)) ρ (fun c => ∃ a b, P a ∧ Q b ∧ c = decide (b < a)) :=
  etn_test (en_op ha hb fun x y ⟨a, e1, p⟩ ⟨b, e2, q⟩ => by subst e1; subst e2; exact ⟨_, r2_gtI, _, rfl, a, b, p, q, rfl⟩)
theorem etn_ltI {P Q : Int → Prop} (ha : EvN K S ta ρ (NT PyData.int P)) (hb : EvN K S tb ρ (NT PyData.int Q)) : EvTN K S (tTest (tOp (rLtX K (fun i j => decide (i < j)) PySem.W.dataLt) ta tb)) ρ (fun c => ∃ a b, P a ∧ Q b ∧ c = decide (a < b)) :=
  etn_test (en_op ha hb fun x y ⟨a, e1, p⟩ ⟨b, e2, q⟩ => by subst e1; subst e2; exact ⟨_, r2_ltI, _, rfl, a, b, p, q, rfl⟩)
theorem etn_eqI {P Q : Int → Prop} (ha : EvN K S ta ρ (NT PyData.int P)) (hb : EvN K S tb ρ (NT PyData.int Q)) : EvTN K S (tTest (tOp (rEqY K) ta tb)) ρ (fun c => ∃ a b, P a ∧ Q b ∧ c = decide (a = b)) :=
  etn_test (en_op ha hb fun x y ⟨a, e1, p⟩ ⟨b, e2, q⟩ => by subst e1; subst e2; exact ⟨_, r2_eqI, _, rfl, a, b, p, q, rfl⟩)
/-- a loop told by a state that is not told exactly -/
theorem sw_loop {T : Type} {wi : TI} {g : TG} {tb : TS} {E : DE} (xs : List α) (e : α → D) (env : T → Env) (s0 : T) (P : Nat → T → Prop) (hi : EvI K S wi ρ (xs.map e)) (h0 : Le (env s0) ρ) (hP : P 0 s0)
    (hs : ∀ i x s, xs[i]? = some x → P i s → ∃ ρ2 js, GtD K S g (env s) (e x) ρ2 js ∧ StW K S tb ρ2 { E with nx := fun ρ3 => ∃ s', P (i + 1) s' ∧ Le (env s') ρ3, ct := fun ρ3 => ∃ s', P (i + 1) s' ∧ Le (env s') ρ3, bk := E.nx })
    (hd : ∀ s ρ1, P xs.length s → Le (env s) ρ1 → E.nx ρ1) : StW K S (tFor wi g tb) ρ E := by
  refine sw_for xs e (fun i ρ1 => ∃ s, P i s ∧ Le (env s) ρ1) hi ⟨s0, hP, h0⟩ ?_ fun ρ1 ⟨s, hp, le⟩ => hd s ρ1 hp le
  rintro i x ρ1 hx ⟨s, hp, le⟩
  obtain ⟨ρ2, js, hg, hb⟩ := hs i x s hx hp
  exact ⟨ρ2, js, fun B H Fr σ v Q w r k => hg B H Fr σ v Q (w.le le) r k, sw_mono hb (fun ρ3 ⟨s', hp', l⟩ => ⟨_, l, s', hp', Le.refl _⟩) (fun _ z => z) (fun ρ3 ⟨s', hp', l⟩ => ⟨_, l, s', hp', Le.refl _⟩) fun _ z => z⟩
end
end DL

set_option Elab.async false
set_option linter.all false
set_option maxRecDepth 100000
set_option maxHeartbeats 2000000
/-! DLR: xs[::-1] of a list or a tuple -/
namespace DL
open PySem PySem.Spec PyProof.Rows L2
section
variable {prog : Program} {w : World} {A : Around} {E : Value → Shared → Prop} {s : Shared}
theorem adj_rev (n : Nat) : Builtin.Slice.sliceAdjust none none (-1) (n : Int) = ((n : Int) - 1, -1) := rfl
theorem places_rev (n : Nat) : Builtin.Slice.slicePlaces ((n : Int) - 1) (-1) (-1) = n := by
  unfold Builtin.Slice.slicePlaces
  rw [if_neg (by decide)]
  split
  · rw [show -(-1 : Int) = 1 from rfl, Int.ediv_one]; omega
  · omega
theorem applied_rev {sl : Addr} {vl vu vs : Value} {n : Nat} {Q : Int × Int × Nat → Shared → Prop} (hs : s.heap.IsSliceOf sl vl vu vs) (pl : IsPart vl none) (pu : IsPart vu none) (ps : IsPart vs (some (-1)))
    (h : Q ((n : Int) - 1, -1, n) s) : wpAny (model prog w) A (Builtin.Slice.sliceApplied (.ref sl) (pure (n : Int))) Q E s := by
  obtain ⟨os, hos, hcs, hds⟩ := id hs
  unfold Builtin.Slice.sliceApplied Builtin.Slice.sliceFields
  refine wpAny_bind (wpAny_bind (wpAny_field hos hds (x := vl) rfl (wpAny_bind (wpAny_field hos hds (x := vu) rfl (wpAny_bind (wpAny_field hos hds (x := vs) rfl (wpAny_pure ?_)))))))
  refine wpAny_bind (HT.slicePart_ ps ?_)
  show wpAny _ _ (if ((-1 : Int) == 0) = true then _ else _) _ _ s
  rw [if_neg (by decide)]
  refine wpAny_bind (HT.slicePart_ pl (wpAny_bind (HT.slicePart_ pu (wpAny_bind (wpAny_pure ?_)))))
  show wpAny _ _ (match Builtin.Slice.sliceAdjust none none (-1) (n : Int) with | (lo, hi) => pure (lo, (-1 : Int), Builtin.Slice.slicePlaces lo hi (-1))) _ _ s
  rw [adj_rev n]
  show wpAny _ _ (pure ((n : Int) - 1, (-1 : Int), Builtin.Slice.slicePlaces ((n : Int) - 1) (-1) (-1))) _ _ s
  rw [places_rev]
  exact wpAny_pure h
theorem fm_some {α β : Type} {f : α → Option β} {g : α → β} : ∀ xs : List α, (∀ x ∈ xs, f x = some (g x)) → xs.filterMap f = xs.map g
  | [], _ => rfl
  | x :: xs, h => by rw [List.filterMap_cons_some (h x (by simp)), List.map_cons, fm_some xs fun y hy => h y (by simp [hy])]
theorem pick_rev (xs : Array Value) : ((List.range xs.size).filterMap fun (m : Nat) => xs[((xs.size : Int) - 1 + (m : Int) * (-1)).toNat]?).toArray = xs.toList.reverse.toArray := by
  congr 1
  have e : (List.range xs.size).filterMap (fun (m : Nat) => xs[((xs.size : Int) - 1 + (m : Int) * (-1)).toNat]?) = (List.range xs.size).map fun m => xs.toList.reverse.getD m default := by
    refine fm_some _ fun m hm => ?_
    have hm := List.mem_range.mp hm
    have : ((xs.size : Int) - 1 + (m : Int) * (-1)).toNat = xs.size - 1 - m := by omega
    rw [this, List.getD_eq_getElem?_getD, List.getElem?_reverse (by rw [Array.length_toList]; exact hm), Array.length_toList, Array.getElem?_toList, Array.getElem?_eq_getElem (by omega)]
    rfl
  rw [e]
  apply List.ext_getElem
  · simp
  · intro i h1 h2
    rw [List.getElem_map, List.getElem_range, List.getD_eq_getElem?_getD, List.getElem?_eq_getElem h2]
    rfl
theorem getItem_rev {t sl : Addr} {items : Array Value} {vl vu vs : Value} {Q : Value → Shared → Prop} (ht : IsTup s.heap t items) (hs : s.heap.IsSliceOf sl vl vu vs) (pl : IsPart vl none) (pu : IsPart vu none) (ps : IsPart vs (some (-1)))
    (h : Q (.ref s.heap.objs.size) { s with heap := s.heap.push { cls := .type "tuple", data := .seq items.toList.reverse.toArray } })
    (hsz : items.size ≤ sizeLine) : wpAny (model prog w) A (getItem (.ref t) (.ref sl)) Q E s := by
  have hok : sizeOk (.seq items.toList.reverse.toArray) := by
    show items.toList.reverse.toArray.size ≤ sizeLine
    rw [List.size_toArray, List.length_reverse, Array.length_toList]
    exact hsz
  obtain ⟨os, hos, hcs, hds⟩ := id hs
  have hTs : s.TypeIs (.ref sl) "slice" := ⟨os, hos, hcs⟩
  unfold getItem
  try with_reducible refine wpAny_holding ?_
  first | refine wpAny_bind (wpAny_pure ?_) | skip
  refine wpAny_bind (wpAny_sequenceKey ht.typeIs (by decide) ?_)
  refine wpAny_bind (wpAny_callSpecial?_slot (name := Str.ofString "__getitem__") ht.typeIs PyProof.Rows.slot_tuple_getitem
    (wpAny_call_entry PyProof.Rows.slot_tuple_getitem ht.typeIs entry_tuple_getitem ?_ (args_tuple_getitem _ _)))
  show wpAny _ _ (Builtin.Tuple.tupleItemsOf (.ref t) >>= _) _ _ s
  refine wpAny_bind (tupleItemsOf_ ht ?_)
  refine wpAny_bind (wpAny_typeOf hTs ?_)
  rw [if_pos (by decide)]
  refine wpAny_bind (applied_rev hs pl pu ps ?_)
  have hno : ¬ ((((items.size : Int) - 1) == 0 && (-1 : Int) == 1 && items.size == items.size) = true) := by simp
  show wpAny _ _ (if (((items.size : Int) - 1) == 0 && (-1 : Int) == 1 && items.size == items.size) = true then _ else _) _ _ s
  rw [if_neg hno, pick_rev]
  first
    | exact wpAny_bind (m := Builtin.Tuple.tupleExact _) (wpAny_newObj_type (wpAny_pure ⟨_, rfl, wpAny_pure h⟩) hok)
    | exact wpAny_bind (m := Builtin.Tuple.tupleExact _) (wpAny_newObj_type (wpAny_bind (wpAny_pure (wpAny_pure ⟨_, rfl, wpAny_pure h⟩))) hok)
    | exact wpAny_bind (wpAny_bind (m := Builtin.Tuple.tupleExact _) (wpAny_newObj_type (wpAny_pure (wpAny_pure ⟨_, rfl, wpAny_pure h⟩)) hok))
    | exact wpAny_bind (wpAny_bind (m := Builtin.Tuple.tupleExact _) (wpAny_newObj_type (wpAny_pure ⟨_, rfl, wpAny_pure h⟩) hok))
end
section
variable {X : Cx} {K : PySem.W.Frag}
def tRev (K : PySem.W.Frag) (te : TE) : TE := fun σ H Q => te σ H fun x H1 => ∃ a xs, x = .ref a ∧ ((SqL K H1 a xs ∧ ∀ p, H1 p = none → Q (.ref p) (upd H1 p (.lst xs.reverse))) ∨ (SqT K H1 a xs ∧ ∀ p, H1 p = none → Q (.ref p) (upd H1 p (.tup xs.reverse))))
theorem pe_rev {e : Expr} {te : TE} {k : Nat} {p1 p2 p3 pos : Pos} (he : PE X e te) : PE X (.Subscript e (.Slice none none (some (.UnaryOp .USub (.Constant (.int 1) k p1) p2)) p3) pos) (tRev X.K te) := by
  refine ⟨fun pins s σ H Q I h => ?_⟩
  refine Subscript_ (thn (he.run pins s σ H _ I h) fun v s1 ⟨x, H1, I1, r1, q1⟩ => ?_)
  obtain ⟨a, xs, ex, q1⟩ := q1
  subst ex
  cases r1
  have hst : PO X (some (.UnaryOp .USub (.Constant (.int 1) k p1) p2)) (tPart (tUn (rU fun i => .int (-i)) (tC (.int 1)))) := po_some (pe_un un_neg pe_int)
  refine wpAny_Slice (thn (po_none.run pins s1 σ H1 (fun o H2 => o = none ∧ H2 = H1) I1 ⟨rfl, rfl⟩) fun vl s2 ⟨l, H2, I2, pl, el, e2⟩ => ?_)
  subst el e2
  refine thn (po_none.run pins s2 σ H2 (fun o H3 => o = none ∧ H3 = H2) I2 ⟨rfl, rfl⟩) fun vu s3 ⟨u, H3, I3, pu, eu, e3⟩ => ?_
  subst eu e3
  refine thn (hst.run pins s3 σ H3 (fun o H4 => o = some (-1) ∧ H4 = H3) I3 ⟨1, rfl, -1, rfl, rfl, rfl⟩) fun vs s4 ⟨o, H4, I4, ps, eo, e4⟩ => ?_
  subst eo e4
  have I5 : Inv X pins σ H4 { s4 with heap := s4.heap.push { cls := .type "slice", data := .fields #[vl, vu, vs] } } := I4.kept (t' := s4.toks) fun b ob q => Heap.get?_push_of_some _ q
  show wpAny (model X.prog X.w) X.A (subscriptTail e (.Slice none none (some (.UnaryOp .USub (.Constant (.int 1) k p1) p2)) p3) (.ref a) (.ref s4.heap.objs.size)) (EP X pins σ Q) X.xe { s4 with heap := s4.heap.push { cls := .type "slice", data := .fields #[vl, vu, vs] } }
  rcases q1 with ⟨hx, q⟩ | ⟨hx, q⟩
  · obtain ⟨its, r, ht, hz⟩ := I5.list hx
    have hlen := r.length
    refine tail_any (ops := [.ref a, .ref s4.heap.objs.size]) ht.isList.typeIs (PySem.slot_list_getitem.lookup) ?_ (by with_unfolding_all rfl)
    refine wpAny_getItem_list_slice ht.isList (Heap.IsSliceOf.new _ vl vu vs) pl pu ps (by decide) ?_ (by rw [List.size_toArray]; omega)
    rw [PySem.W.krv_pick]
    refine ⟨.ref _, _, I5.laid (t' := s4.toks) (o := .lst xs.reverse) (fun b ob q => Heap.get?_push_of_some _ q) (Nat.le_refl _) ?_, rfl, q _ (I5.hok.fresh (Nat.le_refl _))⟩
    exact ⟨by rw [List.length_reverse]; exact hz, _, 0, r.reverse, Heap.get?_push_size _ rfl⟩
  · obtain ⟨its, r, ht, hz⟩ := I5.tuple hx
    have hlen := r.length
    refine tail_any (ops := [.ref a, .ref s4.heap.objs.size]) ht.typeIs (PyProof.Rows.slot_tuple_getitem.lookup) ?_ (by with_unfolding_all rfl)
    refine getItem_rev ht (Heap.IsSliceOf.new _ vl vu vs) pl pu ps ?_ (by rw [List.size_toArray]; omega)
    refine ⟨.ref _, _, I5.laid (t' := s4.toks) (o := .tup xs.reverse) (fun b ob q => Heap.get?_push_of_some _ q) (Nat.le_refl _) ?_, rfl, q _ (I5.hok.fresh (Nat.le_refl _))⟩
    exact ⟨by rw [List.length_reverse]; exact hz, _, r.reverse, IsTup.new _ _⟩
theorem pe_revR {e : Expr} {te : TE} {k : Nat} {p1 p2 p3 pos : Pos} (hK : X.K = K) (he : PE X e te) : PE X (.Subscript e (.Slice none none (some (.UnaryOp .USub (.Constant (.int 1) k p1) p2)) p3) pos) (tRev K te) := hK ▸ pe_rev he
end
section
variable {K : PySem.W.Frag} {S : Option (Addr × Addr)} {ρ : Env} {te : TE} {α : Type} {f : α → D}
theorem ev_revT {ds : List D} (h : EvD K S te ρ (.tuple ds)) : EvD K S (tRev K te) ρ (.tuple ds.reverse) := .mk fun B H Fr σ R w k => h.use w fun v B1 H1 g1 r => by
  cases r with | tup hl ra =>
  exact ⟨_, _, rfl, .inr ⟨Evl.ex_t g1.sub (sqt_of hl), fun p hp => k _ (upd B1 p (.tup _)) _ (g1.trans (Gr.laid g1.sub _ hp)) (.tup upd_same (ra.reverse.mono (Evl.Ex.new (fresh_of g1.sub hp))))⟩⟩
theorem ev_revTM {xs : List α} (h : EvD K S te ρ (tM f xs)) : EvD K S (tRev K te) ρ (tM f xs.reverse) := by
  have := ev_revT h
  rwa [← List.map_reverse] at this
theorem ev_revL {ds : List D} (h : EvD K S te ρ (.list ds)) : EvO K S (tRev K te) ρ (.l (ds.reverse.map O.d)) := fun B H Fr σ R w k => h.use w fun v B1 H1 g1 r => by
  cases r with | lst hl ra =>
  exact ⟨_, _, rfl, .inl ⟨SqL.of (g1.sub _ _ hl), fun p hp => k _ (fun a => a = p) B1 _ (g1.trans (Gr.made g1.sub _ hp)) (Ow.newList (fresh_of g1.sub hp) upd_same ra.reverse) fun a e => e ▸ fresh_of g1.h hp⟩⟩
theorem ev_revLM {xs : List α} (h : EvD K S te ρ (lM f xs)) : EvO K S (tRev K te) ρ (oL f xs.reverse) := ev_is (ev_revL h) (by simp [oL, List.map_reverse, Function.comp_def])
/-! list(range(..)) -/
theorem ev_lstRg {n : Nat} (h : EvD K S te ρ (.int (n : Int))) (hn : n ≤ 16000000) : EvO K S (tLstRg (tRg1 te)) ρ (oL (fun i : Nat => .int (i : Int)) (List.range n)) := fun B H Fr σ R w k => h.use w fun v B1 H1 g1 r => by
  cases r
  refine ⟨_, rfl, .of_le (by omega) (by omega) (by omega) (by omega), fun p hp => ?_⟩
  have e : rgV 0 (n : Int) = (List.range n).map fun i : Nat => V.int (i : Int) := by unfold rgV; simp
  have ra : RpAll K B1 (rgV 0 (n : Int)) ((List.range n).map fun i : Nat => .int (i : Int)) := by rw [e]; exact RpAll.pair fun i _ => .int _
  have q := Ow.newList (S := S) (H := upd H1 p (.lst (rgV 0 (n : Int)))) (fresh_of g1.sub hp) upd_same ra
  rw [List.map_map] at q
  exact k _ (fun a => a = p) B1 _ (g1.trans (Gr.made g1.sub _ hp)) q fun a e => e ▸ fresh_of g1.h hp
theorem ev_lstRgI {n : Nat} (h : EvD K S te ρ (.int (n : Int))) (hn : n ≤ 16000000) : EvO K S (tLstRg (tRg1 te)) ρ (oL PyData.int ((List.range n).map fun i : Nat => (i : Int))) := ev_is (ev_lstRg h hn) (by simp [oL, Function.comp_def])
end
end DL

set_option Elab.async false
set_option linter.all false
set_option maxRecDepth 100000
set_option maxHeartbeats 2000000
/-! DLU: slices, in, sorted, three of them, lists changed by methods -/
namespace DL
open PySem PySem.Spec PyProof.Rows L2
open Evl (Ex Ex.refl Ex.trans Ex.new Ex.mut)
section
variable {K : PySem.W.Frag} {S : Option (Addr × Addr)} {ρ : Env} {ta tb tc te : TE} {tt : TT} {α β : Type} {f : α → D} {d : D}
/-! ### slices -/
def EvP (K : PySem.W.Frag) (S : Option (Addr × Addr)) (to : TO) (ρ : Env) (o : Option Int) : Prop := ∀ (B H : Hp) (Fr : Set') (σ : L2.St) (R : Option Int → Hp → Prop), Wd K S B H Fr σ ρ → (∀ B' H', Gr B H B' H' → R o H') → to σ H R
theorem es_none : EvP K S tNoPart ρ none := fun B H Fr σ R w k => k B H (Gr.refl w.ex)
theorem es_some {i : Int} (h : EvD K S te ρ (.int i)) : EvP K S (tPart te) ρ (some i) := fun B H Fr σ R w k => h.use w fun v B1 H1 g r => by cases r; exact ⟨i, rfl, k B1 H1 g⟩
def cutD (xs : List α) (lo hi : Option Int) : List α := (xs.drop (HT.sIx xs.length 0 lo)).take (HT.sIx xs.length xs.length hi - HT.sIx xs.length 0 lo)
theorem RpAll.cut {B : Hp} {vs : List V} {ds : List D} (r : RpAll K B vs ds) (lo hi : Option Int) : RpAll K B (cutV vs lo hi) (cutD ds lo hi) := by
  unfold cutV cutD
  rw [r.length]
  exact (r.drop _).take _
theorem cut_map {xs : List α} {lo hi : Option Int} : cutD (xs.map f) lo hi = (cutD xs lo hi).map f := by
  unfold cutD
  rw [List.length_map, List.map_take, List.map_drop]
theorem ev_slTD {ds : List D} {tl th : TO} {lo hi : Option Int} (h : EvD K S te ρ (.tuple ds)) (hl : EvP K S tl ρ lo) (hh : EvP K S th ρ hi) : EvD K S (tSl (rSlX K) te tl th) ρ (.tuple (cutD ds lo hi)) := .mk fun B H Fr σ R w k =>
  h.use w fun v B1 H1 g1 r => hl B1 H1 Fr σ _ (w.grow g1) fun B2 H2 g2 => hh B2 H2 Fr σ _ (w.grow (g1.trans g2)) fun B3 H3 g3 => by
    have g := (g1.trans g2).trans g3
    cases r with | tup hx ra =>
    have rb := ra.mono (g2.trans g3).b
    have hx3 := (g2.trans g3).b _ _ hx
    refine .inl ⟨_, _, rfl, Evl.ex_t g3.sub (sqt_of hx3), fun e => ?_, fun _ p hp => k _ (upd B3 p (.tup _)) _ (g.trans (Gr.laid g3.sub _ hp)) (.tup upd_same ((rb.cut lo hi).mono (Ex.new (fresh_of g3.sub hp))))⟩
    rw [ra.length] at e
    have : cutD ds lo hi = ds := by
      unfold cutD
      rw [e.1, e.2]
      simp
    rw [this] at k
    exact k _ B3 H3 g (.tup hx3 rb)
theorem ev_slLD {ds : List D} {tl th : TO} {lo hi : Option Int} (h : EvD K S te ρ (.list ds)) (hl : EvP K S tl ρ lo) (hh : EvP K S th ρ hi) : EvO K S (tSl (rSlX K) te tl th) ρ (.l ((cutD ds lo hi).map O.d)) := fun B H Fr σ R w k =>
  h.use w fun v B1 H1 g1 r => hl B1 H1 Fr σ _ (w.grow g1) fun B2 H2 g2 => hh B2 H2 Fr σ _ (w.grow (g1.trans g2)) fun B3 H3 g3 => by
    have g := (g1.trans g2).trans g3
    cases r with | lst hx ra =>
    have rb := ra.mono (g2.trans g3).b
    refine .inr (.inl ⟨_, _, rfl, SqL.of (g3.sub _ _ ((g2.trans g3).b _ _ hx)), fun p hp => k _ (fun a => a = p) B3 _ (g.trans (Gr.made g3.sub _ hp)) (Ow.newList (fresh_of g3.sub hp) upd_same (rb.cut lo hi)) fun a e => e ▸ fresh_of g.h hp⟩)
theorem ev_slT {xs : List α} {tl th : TO} {lo hi : Option Int} (h : EvD K S te ρ (tM f xs)) (hl : EvP K S tl ρ lo) (hh : EvP K S th ρ hi) : EvD K S (tSl (rSlX K) te tl th) ρ (tM f (cutD xs lo hi)) := by
  have := ev_slTD h hl hh
  rwa [cut_map] at this
theorem ev_slL {xs : List α} {tl th : TO} {lo hi : Option Int} (h : EvD K S te ρ (lM f xs)) (hl : EvP K S tl ρ lo) (hh : EvP K S th ρ hi) : EvO K S (tSl (rSlX K) te tl th) ρ (oL f (cutD xs lo hi)) := by
  have := ev_slLD h hl hh
  rw [cut_map] at this
  exact ev_is this (by simp [oL, Function.comp_def])
theorem mem_cut {xs : List α} {lo hi : Option Int} {x : α} (h : x ∈ cutD xs lo hi) : x ∈ xs := List.drop_subset _ _ (List.take_subset _ _ h)
theorem cut_take {xs : List α} {k : Int} (h : 0 ≤ k) : cutD xs none (some k) = xs.take k.toNat := by
  unfold cutD
  show (xs.drop 0).take ((if k < 0 then (k + (xs.length : Int)).toNat else min k.toNat xs.length) - 0) = _
  rw [if_neg (by omega), List.drop_zero, Nat.sub_zero]
  by_cases e : k.toNat ≤ xs.length
  · rw [Nat.min_eq_left e]
  · rw [Nat.min_eq_right (by omega), List.take_length, List.take_of_length_le (by omega)]
theorem cut_drop {xs : List α} {k : Int} (h : 0 ≤ k) : cutD xs (some k) none = xs.drop k.toNat := by
  unfold cutD
  show (xs.drop (if k < 0 then (k + (xs.length : Int)).toNat else min k.toNat xs.length)).take (xs.length - (if k < 0 then (k + (xs.length : Int)).toNat else min k.toNat xs.length)) = _
  rw [if_neg (by omega)]
  rw [List.take_of_length_le (by rw [List.length_drop]; omega)]
  by_cases e : k.toNat ≤ xs.length
  · rw [Nat.min_eq_left e]
  · rw [Nat.min_eq_right (by omega), List.drop_length, List.drop_of_length_le (by omega)]
theorem cut_mid {xs : List α} {i j : Int} (h : 0 ≤ i) (hj : 0 ≤ j) : cutD xs (some i) (some j) = (xs.take j.toNat).drop i.toNat := by
  unfold cutD
  show (xs.drop (if i < 0 then (i + (xs.length : Int)).toNat else min i.toNat xs.length)).take ((if j < 0 then (j + (xs.length : Int)).toNat else min j.toNat xs.length) - (if i < 0 then (i + (xs.length : Int)).toNat else min i.toNat xs.length)) = _
  rw [if_neg (by omega), if_neg (by omega)]
  apply List.ext_getElem?
  intro n
  rw [List.getElem?_take, List.getElem?_drop, List.getElem?_drop, List.getElem?_take]
  by_cases e : i.toNat ≤ xs.length
  · rw [Nat.min_eq_left e]
    by_cases e2 : n < min j.toNat xs.length - i.toNat
    · rw [if_pos e2, if_pos (by omega)]
    · rw [if_neg e2]
      split
      · rw [List.getElem?_eq_none (by omega)]
      · rfl
  · have e3 : xs[i.toNat + n]? = none := List.getElem?_eq_none (by omega)
    have e4 : xs[min i.toNat xs.length + n]? = none := List.getElem?_eq_none (by omega)
    rw [e3, e4]
    split <;> split <;> rfl
/-! ### in -/
theorem any_eqv [DecidableEq α] (h : EqD f) (x : α) (xs : List α) : ((xs.map f).any fun z => PyData.eqv z (f x)) = decide (x ∈ xs) := by
  rw [Bool.eq_iff_iff]
  simp only [List.any_map, List.any_eq_true, Function.comp_apply, decide_eq_true_eq]
  constructor
  · rintro ⟨y, hy, e⟩
    rw [h] at e
    simp at e
    exact e ▸ hy
  · intro hx
    exact ⟨x, hx, by rw [h]; simp⟩
theorem sh_list_lay {n : Nat} (s : ShD n f) (xs : List α) : PyData.canLayAll0 (xs.map f) = true := (sh_all fun d hd => by obtain ⟨x, _, rfl⟩ := List.mem_map.mp hd; exact s x).1
theorem r2_inM [DecidableEq α] {x : α} {xs : List α} {n : Nat} (h : EqD f) (s : ShD n f) (b : Bool) (hn : n ≤ 64 := by decide) : R2D K S (rInX K false) (f x) (seqD b (xs.map f)) (.d (.bool (decide (x ∈ xs)))) := fun B H v u R ex r1 r2 k =>
  .inl ⟨f x, xs.map f, r1.mono ex, by cases b; exact .inr (r2.mono ex); exact .inl (r2.mono ex), (s x).shaped hn, sh_list_lay s xs, by
    rw [if_neg Bool.false_ne_true, any_eqv h]; exact k.val ex (.bl _)⟩
theorem r2_notInM [DecidableEq α] {x : α} {xs : List α} {n : Nat} (h : EqD f) (s : ShD n f) (b : Bool) (hn : n ≤ 64 := by decide) : R2D K S (rInX K true) (f x) (seqD b (xs.map f)) (.d (.bool (!decide (x ∈ xs)))) := fun B H v u R ex r1 r2 k =>
  .inl ⟨f x, xs.map f, r1.mono ex, by cases b; exact .inr (r2.mono ex); exact .inl (r2.mono ex), (s x).shaped hn, sh_list_lay s xs, by
    rw [if_pos rfl, any_eqv h]; exact k.val ex (.bl _)⟩
/-! ### max, min of three -/
theorem rc_max3 {i j l : Int} : RcD K S (rNuC3 nuMax3) [.int i, .int j, .int l] (.d (.int (max (max i j) l))) := fun B H vs R ex r k => by
  cases r with | cons r1 t => cases t with | cons r2 t => cases t with | cons r3 t =>
  cases t; cases r1; cases r2; cases r3
  refine ⟨_, _, _, _, rfl, ?_, k.val ex (.int _)⟩
  have e2 : ∀ a b : Int, nuMax2 (.int a) (.int b) = some (.int (max a b)) := fun a b => by
    show some (if decide (a < b) = true then V.int b else V.int a) = _
    rcases Int.lt_or_le a b with h | h
    · rw [if_pos (decide_eq_true h), Int.max_eq_right (Int.le_of_lt h)]
    · rw [if_neg (by simp; omega), Int.max_eq_left h]
  unfold nuMax3
  rw [e2]
  exact e2 _ _
theorem rc_min3 {i j l : Int} : RcD K S (rNuC3 nuMin3) [.int i, .int j, .int l] (.d (.int (min (min i j) l))) := fun B H vs R ex r k => by
  cases r with | cons r1 t => cases t with | cons r2 t => cases t with | cons r3 t =>
  cases t; cases r1; cases r2; cases r3
  refine ⟨_, _, _, _, rfl, ?_, k.val ex (.int _)⟩
  have e2 : ∀ a b : Int, nuMin2 (.int a) (.int b) = some (.int (min a b)) := fun a b => by
    show some (if decide (b < a) = true then V.int b else V.int a) = _
    rcases Int.lt_or_le b a with h | h
    · rw [if_pos (decide_eq_true h), Int.min_eq_right (Int.le_of_lt h)]
    · rw [if_neg (by simp; omega), Int.min_eq_left h]
  unfold nuMin3
  rw [e2]
  exact e2 _ _
/-! ### order -/
structure OrdD (f : α → D) (lt : α → α → Bool) : Prop where
  al : ∀ a b, PySem.W.alike (f a) (f b) = true
  nn : ∀ a, f a ≠ .none
  lt : ∀ a b, PySem.W.dataLt (f a) (f b) = lt a b
def ltI (a b : Int) : Bool := decide (a < b)
def lt2 {α β : Type} [DecidableEq α] (l1 : α → α → Bool) (l2 : β → β → Bool) (x y : α × β) : Bool := if x.1 = y.1 then l2 x.2 y.2 else l1 x.1 y.1
theorem ord_int : OrdD PyData.int ltI := ⟨fun a b => by simp only [PySem.W.alike], fun a e => (by cases e), fun a b => PySem.W.dataLt_int a b⟩
theorem ord_p2 {g : β → D} [DecidableEq α] [DecidableEq β] {l1 : α → α → Bool} {l2 : β → β → Bool} (e1 : EqD f) (e2 : EqD g) (o1 : OrdD f l1) (o2 : OrdD g l2) : OrdD (p2 f g) (lt2 l1 l2) := by
  refine ⟨fun a b => by simp only [p2, PySem.W.alike, PySem.W.alikeAll, o1.al, o2.al, Bool.and_self], fun a e => (by cases e), fun p q => ?_⟩
  refine (PySem.W.dataLt_tuple _ _).trans ?_
  unfold lt2
  by_cases h : p.1 = q.1
  · rw [if_pos h, PySem.W.dataLt_all_yes (o1.al p.1 q.1) (by rw [e1, decide_eq_true_eq]; exact h)]
    by_cases h2 : p.2 = q.2
    · rw [PySem.W.dataLt_all_yes (o2.al p.2 q.2) (by rw [e2, decide_eq_true_eq]; exact h2), PyProof.Rows.lex_irrefl, h2]
      exact ((PySem.W.dataLt_self _).symm.trans (o2.lt q.2 q.2))
    · rw [PySem.W.dataLt_all_no (o2.al p.2 q.2) (by rw [e2, decide_eq_false_iff_not]; exact h2)]
      exact o2.lt p.2 q.2
  · rw [if_neg h, PySem.W.dataLt_all_no (o1.al p.1 q.1) (by rw [e1, decide_eq_false_iff_not]; exact h)]
    exact o1.lt p.1 q.1
/-- sorted -/
def srt (lt : α → α → Bool) (xs : List α) : List α := xs.mergeSort fun a b => !lt b a
theorem sortD_map {lt : α → α → Bool} (o : OrdD f lt) (xs : List α) : sortD false (xs.map f) = (srt lt xs).map f := by
  unfold sortD srt
  exact (PySem.W.sort_maps (r := fun a b => !lt b a) (s := PySem.W.dataLe false id) f fun a _ b _ => by
    show _ = (!PySem.W.dataLt (f b) (f a))
    rw [o.lt]).symm
end
end DL

set_option Elab.async false
set_option linter.all false
set_option maxRecDepth 100000
set_option maxHeartbeats 2000000
/-! DLV: sorted lists, lists changed by methods, comprehensions that change a slot -/
namespace DL
open PySem PySem.Spec PyProof.Rows L2
open Evl (Ex Ex.refl Ex.trans Ex.new Ex.mut)
section
variable {K : PySem.W.Frag} {S : Option (Addr × Addr)} {ρ : Env} {ta tb tc te : TE} {tt : TT} {α β : Type} {f : α → D} {d : D} {i : Nat} {E : DE}
/-- what may be sorted -/
structure SrtD (f : α → D) : Prop where
  so : ∀ xs : List α, PySem.W.Sortable (xs.map f)
  sh : ShD 20 f
theorem srt_int : SrtD PyData.int := ⟨fun xs => .inr fun d hd => by obtain ⟨x, _, rfl⟩ := List.mem_map.mp hd; exact ⟨by simp, by simp⟩, shd_int⟩
theorem srt_p2 {g : β → D} (h1 : ShD 19 f) (h2 : ShD 19 g) : SrtD (p2 f g) := ⟨fun xs => .inl fun d hd => by obtain ⟨x, _, rfl⟩ := List.mem_map.mp hd; exact ⟨_, _, rfl⟩, shd_p2 h1 h2⟩
theorem ord_all {lt : α → α → Bool} (o : OrdD f lt) (xs : List α) : PySem.W.AllAlike (xs.map f) := fun d hd e he => by
  obtain ⟨x, _, rfl⟩ := List.mem_map.mp hd
  obtain ⟨y, _, rfl⟩ := List.mem_map.mp he
  exact o.al x y
abbrev rSrt (K : PySem.W.Frag) : List V → Hp → VK → Prop := fun vs H Q => ∃ v, vs = [v] ∧ rSortedX K false v H Q
theorem rc_sorted {lt : α → α → Bool} {xs : List α} (b : Bool) (o : OrdD f lt) (s : SrtD f) : RcD K S (rSrt K) [seqD b (xs.map f)] (oL f (srt lt xs)) := fun B H vs R ex r k => by
  cases r with | cons r t =>
  cases t
  obtain ⟨ws, hs, rb⟩ := RpAll.sq ex r
  have hx := sh_all (n := 20) (xs := xs.map f) fun d hd => by obtain ⟨x, _, rfl⟩ := List.mem_map.mp hd; exact s.sh x
  refine ⟨_, rfl, ws, xs.map f, hs, ord_all o xs, s.so xs, hx.1, by omega, fun p us hp hl q => ?_⟩
  have q := q B rb
  rw [sortD_map o] at q
  have q2 := Ow.newList (S := S) (H := upd H p (.lst us)) (fresh_of ex hp) upd_same q
  rw [List.map_map] at q2
  exact k _ (fun a => a = p) B _ (Gr.made ex _ hp) q2 fun a z => z ▸ hp
/-! ### lists of data, changed in place -/
theorem Ow.dinv {B H : Hp} {v : V} {F : Set'} {e : D} (h : Ow K S B H v (.d e) F) : Rp K B v e ∧ ∀ a, ¬ F a := by
  cases h with | d _ _ _ r n => exact ⟨r, n⟩
theorem map_erase (xs : List α) (g : α → β) : ∀ k : Nat, (xs.map g).eraseIdx k = (xs.eraseIdx k).map g := by
  induction xs with
  | nil => intro k; rfl
  | cons x xs ih => intro k; cases k with
    | zero => rfl
    | succ k => simp [ih k]
theorem Ow.datas {B H : Hp} {v : V} {F : Set'} {o : O} (h : Ow K S B H v o F) : ∀ {ds : List D}, o = .l (ds.map O.d) → ∃ p vs, v = .ref p ∧ B p = none ∧ H p = some (.lst vs) ∧ RpAll K B vs ds ∧ ∀ a, F a ↔ a = p := by
  intro ds e
  cases h with
  | l p its _ Fs hB hH ih hd hp hn hF =>
    injection e with e
    have key : ∀ i x, its[i]? = some x → ∃ d, ds[i]? = some d ∧ Rp K B x.1 d ∧ ∀ a, ¬ Fs i a := fun i x hx => by
      have h1 : (its.map (·.2))[i]? = some x.2 := by rw [List.getElem?_map, hx]; rfl
      rw [e, List.getElem?_map] at h1
      obtain ⟨d, hd', ed⟩ := Option.map_eq_some_iff.mp h1
      have q : Ow K S B H x.1 (.d d) (Fs i) := ed ▸ ih i x hx
      exact ⟨d, hd', q.dinv.1, q.dinv.2⟩
    refine ⟨p, _, rfl, hB, hH, ?_, fun a => ⟨fun ha => ?_, fun z => (hF a).mpr (.inl z)⟩⟩
    · have hl : its.length = ds.length := by have := congrArg List.length e; simpa using this
      clear hd hp hn hF ih e hH
      have : ∀ (its : List (V × O)) (ds : List D), its.length = ds.length → (∀ (i : Nat) (x : V × O), its[i]? = some x → ∃ d, ds[i]? = some d ∧ Rp K B x.1 d) → RpAll K B (its.map fun y : V × O => y.1) ds := by
        intro its
        induction its with
        | nil => intro ds hl _; cases ds with | nil => exact .nil | cons _ _ => simp at hl
        | cons x its ihh =>
          intro ds hl h
          cases ds with
          | nil => simp at hl
          | cons d ds =>
            obtain ⟨d', e1, r⟩ := h 0 x rfl
            simp at e1
            subst e1
            exact .cons r (ihh ds (by simpa using hl) fun i y hy => by simpa using h (i + 1) y (by simpa using hy))
      exact this its ds hl fun i x hx => let ⟨dd, a, b, _⟩ := key i x hx; ⟨dd, a, b⟩
    · rcases (hF a).mp ha with z | ⟨i, z⟩
      · exact z
      · obtain ⟨_, _, _, n⟩ := key i _ (List.getElem?_eq_getElem (hn i a z))
        exact absurd z (n a)
  | _ => cases e
theorem oL_ds {xs : List α} : oL f xs = .l ((xs.map f).map O.d) := by simp [oL, List.map_map, Function.comp_def]
/-- a slot's list of data: another one put in its place -/
theorem Wd.upL {B H : Hp} {Fr : Set'} {σ : L2.St} {ds : List D} (w : Wd K S B H Fr σ ρ) (e : ρ[i]? = some (some (.l (ds.map O.d)))) : ∃ p vs, σ[i]? = some (some (.ref p)) ∧ H p = some (.lst vs) ∧ RpAll K B vs ds ∧
    ∀ vs' ds', RpAll K B vs' ds' → Wd K S B (upd H p (.lst vs')) Fr σ (ρ.set i (some (.l (ds'.map O.d)))) ∧ Aft S B H Fr B (upd H p (.lst vs')) := by
  have w' : Wd K S B H (fun a => Fr a ∨ False) σ ρ := w.less fun a z => z.elim id fun z => z.elim
  obtain ⟨v, F, e1, q, n, k⟩ := w'.mod e fun _ z => z.elim
  obtain ⟨p, vs, rfl, hB, hH, ra, hF⟩ := q.datas rfl
  refine ⟨p, vs, e1, hH, ra, fun vs' ds' r' => ?_⟩
  refine k (upd H p (.lst vs')) (.l (ds'.map O.d)) (fun a => a = p) (fun a ha => upd_ne fun z => ha ((hF a).mpr z)) (fun a ha => ?_) (Ow.newList hB upd_same r') fun a z => .inl ((hF a).mpr z)
  rw [(hF a).mp ha, upd_same]
  simp
/-- xs.pop(k), k drawn -/
theorem ew_popAt {xs : List α} {Q : O → Env → Prop} {P : Int → Prop} (hi : ρ[i]? = some (some (oL f xs))) (h : EvN K S te ρ (NT PyData.int P)) (hP : ∀ k, P k → 0 ≤ k ∧ k < xs.length ∧ k < 2 ^ 62) (q : ∀ (k : Nat) x, xs[k]? = some x → Q (.d (f x)) (ρ.set i (some (oL f (xs.eraseIdx k))))) :
    EvW K S (tBM K "list" rPopAt (tVar i) (tCons te tNil)) ρ Q := fun B H Fr σ R w k => by
  rw [oL_ds] at hi
  obtain ⟨p, vs, ev, hH, ra, _⟩ := w.upL hi
  refine ⟨.ref p, ev, .inl ⟨rfl, _, SqL.of hH⟩, h B H Fr σ _ w fun v d B1 H1 ⟨n, e, hn⟩ g r => ?_⟩
  subst e
  cases r
  obtain ⟨h0, h1, h2⟩ := hP n hn
  have w1 := w.growN g
  obtain ⟨p', vs1, ev1, hH1, ra1, up⟩ := w1.upL hi
  rw [ev] at ev1
  cases ev1
  have hl := ra1.length
  rw [List.length_map] at hl
  have hx : xs[n.toNat]? = some xs[n.toNat] := List.getElem?_eq_getElem (by omega)
  obtain ⟨y, hy, ry⟩ := ra1.getD (i := n.toNat) (d := f xs[n.toNat]) (by rw [List.getElem?_map, hx]; rfl)
  refine ⟨p, vs1, n, n.toNat, y, rfl, rfl, hH1, by omega, by omega, ?_, hy, ?_⟩
  · have : ixN vs1.length n = some n.toNat := by unfold ixN; rw [if_pos h0, if_pos (by omega)]
    exact (ixN_seq this).1
  · obtain ⟨w2, a2⟩ := up _ _ (ra1.eraseIdx n.toNat)
    have e3 : ((xs.map f).eraseIdx n.toNat).map O.d = (xs.eraseIdx n.toNat).map fun x => O.d (f x) := by rw [map_erase, List.map_map]; rfl
    rw [e3] at w2
    exact k y (.d (f xs[n.toNat])) (fun _ => False) _ B1 _ (q n.toNat _ hx) ((g.aft w).trans a2) (.d _ _ _ ry fun _ z => z) (fun _ z => z.elim) (w2.less fun a z => z.elim id fun z => z.elim)
/-- the world of the def's slots behind a turn of a comprehension -/
theorem Wd.unwipe {B H : Hp} {Fr : Set'} {σ σ2 : L2.St} {ρ3 : Env} {vs js : List Nat} (w : Wd K S B H Fr σ2 ρ3) (eq : ∀ j, j ∉ js → σ2[j]? = (L2.wipe σ vs)[j]?) (hl : σ2.length = σ.length) (hs : ∀ j ∈ js, j ∈ vs) : Wd K S B H Fr σ (wipeE ρ3 vs) := by
  obtain ⟨Fs, h1, h2, h3⟩ := w.own
  refine ⟨w.ex, by rw [wipeE_len, ← hl]; exact w.len, w.fr, w.src, Fs, fun i o e => ?_, h2, h3⟩
  rw [wipeE_at] at e
  split at e
  · cases q : ρ3[i]? <;> rw [q] at e <;> cases e
  · rename_i hi
    obtain ⟨v, e1, q⟩ := h1 i o e
    rw [eq i fun z => hi (hs i z), wipeS_at, if_neg hi] at e1
    exact ⟨v, e1, q⟩
/-- [te for g in wi], te changes slots -/
theorem ew_lc {wi : TI} {g : TG} {vs : List Nat} {Q : O → Env → Prop} (xs : List α) (e : α → D) (I : Nat → List D → Env → Prop) (hi : EvI K S wi ρ (xs.map e)) (h0 : I 0 [] ρ)
    (hb : ∀ i x acc ρ1, xs[i]? = some x → I i acc ρ1 → acc.length = i → ∃ ρ2 js, GtD K S g (wipeE ρ1 vs) (e x) ρ2 js ∧ (∀ j ∈ js, j ∈ vs) ∧ EvW K S te ρ2 fun o ρ3 => ∃ d, o = .d d ∧ I (i + 1) (acc ++ [d]) (wipeE ρ3 vs))
    (hd : ∀ acc ρ1, acc.length = xs.length → I xs.length acc ρ1 → Q (.l (acc.map O.d)) ρ1) : EvW K S (tLc wi g tYes te vs) ρ Q := fun B H Fr σ R w k => hi B H Fr σ _ w fun J B1 H1 g1 it hz => by
  intro Dl hD
  have w1 := w.grow g1
  have nS : ¬ SrcM S Dl := fun m => (w1.srcThere m).2.1 hD
  have nF : ¬ Fr Dl := fun z => (w1.fr Dl z).2 hD
  have gm := Gr.made w1.ex (.lst []) hD
  have wm : Wd K S B1 (upd H1 Dl (.lst [])) (fun a => Fr a ∨ a = Dl) σ ρ := w1.growAdd gm (fun a z => by subst z; exact ⟨fresh_of w1.ex hD, by rw [upd_same]; simp⟩) fun a z => by subst z; exact hD
  have am : Aft S B H Fr B1 (upd H1 Dl (.lst [])) := (g1.aft w).trans (gm.aft w1)
  refine ⟨fun i m H' => m = xs.length - i ∧ i ≤ xs.length ∧ ∃ B' ac ds ρ1, Ex B1 B' ∧ Aft S B H Fr B' H' ∧ Wd K S B' H' (fun a => Fr a ∨ a = Dl) σ ρ1 ∧ H' Dl = some (.lst ac) ∧ RpAll K B' ac ds ∧ ds.length = i ∧ I i ds ρ1,
    ⟨xs.length, by simp, Nat.zero_le _, B1, [], [], ρ, Ex.refl _, am, wm, upd_same, .nil, rfl, h0⟩, ?_⟩
  rintro i m H' ⟨rfl, hle, B', ac, ds, ρ1, eb, a2, w2, hHD, ra, hdl, hI⟩
  have hBD : B' Dl = none := (w2.fr Dl (.inr rfl)).1
  obtain ⟨go, stop⟩ := it B' H' eb w2.ex i
  by_cases hlt : i < xs.length
  · have hx := List.getElem?_eq_getElem hlt
    obtain ⟨go1, yl⟩ := go (e xs[i]) (by rw [List.getElem?_map, hx]; rfl)
    refine .inr ⟨go1, fun H3 => i + 1 ≤ xs.length ∧ ∃ B' ac ds ρ1, Ex B1 B' ∧ Aft S B H Fr B' H3 ∧ Wd K S B' H3 (fun a => Fr a ∨ a = Dl) σ ρ1 ∧ H3 Dl = some (.lst ac) ∧ RpAll K B' ac ds ∧ ds.length = i + 1 ∧ I (i + 1) ds ρ1, fun H3 q => ⟨xs.length - (i + 1), by omega, rfl, q.1, q.2⟩, fun v H3 hy => ?_⟩
    obtain ⟨B3, g3, rv⟩ := yl v H3 hy
    obtain ⟨ρ2, js, hg, hjs, he⟩ := hb i xs[i] ds ρ1 hx hI hdl
    have w3 := (w2.grow g3).wipe vs
    refine hg B3 H3 _ _ v _ w3 rv fun σ2 w4 l4 eq => ⟨wipe_same eq (l4.trans (wipe_length σ vs)) hjs, ?_⟩
    unfold tYes
    refine iteT ?_
    refine he B3 H3 _ σ2 _ w4 fun u o F ρ3 B4 H4 ⟨d, eo, hI2⟩ a4 qo nF4 w5 => ?_
    subst eo
    have a3 : Aft S B H Fr B4 H4 := a2.trans ((g3.aft (w2.less fun a z => .inl z)).trans ⟨a4.b, a4.sub, fun a ha => a4.fr a (.inl ha), a4.src⟩)
    obtain ⟨k1, k2⟩ := a4.fr Dl (.inr rfl)
    have hH4 : H4 Dl = some (.lst ac) := by rw [k1]; exact g3.h _ _ hHD
    have w6 : Wd K S B4 H4 (fun a => Fr a ∨ a = Dl) σ (wipeE ρ3 vs) := (w5.less fun a z => .inl z).unwipe eq (l4.trans (wipe_length σ vs)) hjs
    cases qo with | d _ _ _ ru _ =>
    have w7 := w6.chg (F := fun a => a = Dl) (H' := upd H4 Dl (.lst (ac ++ [u]))) (fun a ha => upd_ne ha) fun a ha => by rw [ha, upd_same]; simp
    refine ⟨ac, hH4, ?_, hlt, B4, ac ++ [u], ds ++ [d], wipeE ρ3 vs, eb.trans (g3.b.trans a4.b), ⟨a3.b, w7.ex, fun a ha => ⟨(upd_ne fun (z : a = Dl) => nF (z ▸ ha)).trans (a3.fr a ha).1, (a3.fr a ha).2⟩, fun p q e' => ⟨(w7.src p q e').1, (w7.src p q e').2.1, (w7.src p q e').2.2.1⟩⟩, w7, upd_same, (ra.mono (g3.b.trans a4.b)).append (.cons ru .nil), by simp [hdl], hI2⟩
    have h1 := ra.length
    rw [List.length_map] at hz
    omega
  · have hi' : i = xs.length := by omega
    subst hi'
    refine .inl ⟨stop (by simp), ?_⟩
    exact k _ (.l (ds.map O.d)) (fun a => a = Dl) ρ1 B' H' (hd ds ρ1 hdl hI) a2 (Ow.newList hBD hHD ra) (fun a z => by subst z; exact nF) w2
end
end DL

set_option Elab.async false
set_option linter.all false
set_option maxRecDepth 100000
set_option maxHeartbeats 2000000
/-! DLW: the other way to draw; one of some; things mixed -/
namespace DL
open PySem PySem.Spec PyProof.Rows L2
open Evl (Ex Ex.refl Ex.trans Ex.new Ex.mut)
abbrev rOrI : R2 := rI0 fun i j => .bl (decide (i < j))
abbrev rMax2 : List V → Hp → VK → Prop := fun xs H Q => ∃ i j, xs = [.int i, .int j] ∧ Q (.int (if j > i then j else i)) H
def pickB2 (K : PySem.W.Frag) : TS :=
  tSeq (tAsg (tKey "left") (gName 2))
  (tSeq (tIfS (tOr (tTest (tOp rLtI (tVar 1) (tC (.int 2)))) (tTest (tOp rGtI (tVar 2) (tC (.int 1))))) (tSeq (tAsg (tOp rDivI (tVar 2) (tCB rMax2 (tCons (tC (.int 1)) (tCons (tVar 1) tNil)))) (gKey "left")) (tRet (tOp rModI (tCB rIntC (tCons (tVar 2) tNil)) (tCB rMax2 (tCons (tC (.int 1)) (tCons (tVar 1) tNil)))))) tNext)
  (tSeq (tAsg (tOp rAddI (tKey "turn") (tC (.int 1))) (gKey "turn"))
  (tSeq (tAsg (tOp rModI (tCB rIntC (tCons (tOp rAddI (tKey "mixed") (tOp rMulI (tKey "turn") (tC (.int 104729)))) tNil)) (tC (.int 998244353))) (gName 3))
  (tSeq (tAsg (tOp rModI (tCB rIntC (tCons (tOp rAddI (tOp rMulI (tVar 3) (tVar 3)) (tOp rMulI (tKey "turn") (tC (.int 17)))) tNil)) (tC (.int 2147483647))) (gName 3))
  (tSeq (tAsg (tVar 3) (gKey "mixed"))
  (tRet (tOp rModI (tCB rIntC (tCons (tOp rDivI (tVar 3) (tC (.int 16))) tNil)) (tVar 1))))))))
def pickB (K : PySem.W.Frag) : TS :=
  tSeq (tWhile (tAnd (tTest (tOp rGtI (tVar 1) (tC (.int 1)))) (tAnd (tTest (tOp rLtI (tKey "left") (tC (.int 2)))) (tTest (tOp rGtI (tCB (rLenC K) (tCons (tKey "cells") tNil)) (tC (.int 0)))))) (tAsg (tBM0 K "list" rPop (tKey "cells")) (gKey "left")))
  (pickB2 K)
theorem pickB2_read {K : PySem.W.Frag} {D : Ends} {H H1 : Hp} {p q : Addr} {cs : List Int} {l mixed turn m : Int} (hm : m < 2 ^ 64) (s1 : Src H H1 p q cs l mixed turn)
    (fin : ∀ {H' : Hp} {cells' : List Int} {l' m' t' : Int} (r : Int), Src H H' p q cells' l' m' t' → 0 ≤ r → (r < m ∨ r = 0) → D.rt (.int r) H') : pickB2 K D [some (.ref p), some (.int m), none, none] H1 := by
  have mx : (if m > 1 then m else 1) = max 1 m := by split <;> omega
  refine ⟨_, rfl, p, _, rfl, s1.gl, ?_⟩
  refine ⟨_, rfl, _, _, rfl, rfl, _, rfl, ?_⟩
  have low : ∀ D' : Ends, D'.rt = D.rt → (m < 2 ∨ 1 < l) → (tSeq (tAsg (tOp rDivI (tVar 2) (tCB rMax2 (tCons (tC (.int 1)) (tCons (tVar 1) tNil)))) (gKey "left")) (tRet (tOp rModI (tCB rIntC (tCons (tVar 2) tNil)) (tCB rMax2 (tCons (tC (.int 1)) (tCons (tVar 1) tNil)))))) D' [some (.ref p), some (.int m), some (.int l), none] H1 := fun D' hD hb => by
    refine ⟨_, rfl, _, rfl, _, _, rfl, _, _, rfl, rfl, ?_, ?_⟩
    · rw [mx]; exact div_ok (by omega) (by omega)
    refine ⟨_, rfl, p, _, rfl, s1.pl _, ?_⟩
    refine ⟨_, rfl, .inl ⟨_, rfl, _, rfl, _, _, rfl, _, _, rfl, rfl, ?_, ?_⟩⟩
    · show (0 : Int) < if m > 1 then m else 1
      rw [mx]; omega
    · rw [mx]
      show D'.rt _ _
      rw [hD]
      refine fin _ (s1.setL (Int.ediv_nonneg s1.l0 (by omega))) (Int.emod_nonneg _ (by omega)) ?_
      have := Int.emod_lt_of_pos l (show 0 < max 1 m by omega)
      have := Int.emod_nonneg l (show max 1 m ≠ 0 by omega)
      rcases Int.le_total m 1 with z | z
      · rw [Int.max_eq_left z] at *; right; omega
      · rw [Int.max_eq_right z] at *; left; omega
  have rest : ¬ m < 2 → (tSeq (tAsg (tOp rAddI (tKey "turn") (tC (.int 1))) (gKey "turn"))
  (tSeq (tAsg (tOp rModI (tCB rIntC (tCons (tOp rAddI (tKey "mixed") (tOp rMulI (tKey "turn") (tC (.int 104729)))) tNil)) (tC (.int 998244353))) (gName 3))
  (tSeq (tAsg (tOp rModI (tCB rIntC (tCons (tOp rAddI (tOp rMulI (tVar 3) (tVar 3)) (tOp rMulI (tKey "turn") (tC (.int 17)))) tNil)) (tC (.int 2147483647))) (gName 3))
  (tSeq (tAsg (tVar 3) (gKey "mixed"))
  (tRet (tOp rModI (tCB rIntC (tCons (tOp rDivI (tVar 3) (tC (.int 16))) tNil)) (tVar 1))))))) D [some (.ref p), some (.int m), some (.int l), none] H1 := fun h2 => by
    refine ⟨_, rfl, p, _, rfl, s1.gt, _, _, rfl, rfl, ?_⟩
    refine ⟨_, rfl, p, _, rfl, s1.pt _, ?_⟩
    have s2 := s1.setT (n := turn + 1) (by have := s1.t0; omega)
    refine ⟨_, rfl, p, _, rfl, s2.gm, ?_⟩
    refine ⟨_, rfl, p, _, rfl, s2.gt, ?_⟩
    refine ⟨_, _, rfl, rfl, mul_r (by decide) (by decide), ?_⟩
    refine ⟨_, _, rfl, rfl, .inl ⟨_, rfl, _, _, rfl, rfl, (by show (0 : Int) < 998244353; decide), ?_⟩⟩
    have e1 : 0 ≤ (mixed + (turn + 1) * 104729) % 998244353 ∧ (mixed + (turn + 1) * 104729) % 998244353 < 998244353 := by omega
    refine ⟨_, rfl, _, rfl, _, _, rfl, rfl, mul_r (by omega) (by omega), ?_⟩
    refine ⟨_, rfl, p, _, rfl, s2.gt, ?_⟩
    refine ⟨_, _, rfl, rfl, mul_r (by decide) (by decide), ?_⟩
    refine ⟨_, _, rfl, rfl, .inl ⟨_, rfl, _, _, rfl, rfl, (by show (0 : Int) < 2147483647; decide), ?_⟩⟩
    refine ⟨_, rfl, _, rfl, p, _, rfl, s2.pm _, ?_⟩
    have s3 := s2.setM (n := ((mixed + (turn + 1) * 104729) % 998244353 * ((mixed + (turn + 1) * 104729) % 998244353) + (turn + 1) * 17) % 2147483647) (by omega) (by omega)
    refine ⟨_, rfl, _, _, rfl, rfl, div_ok (by decide) (by decide), ?_⟩
    refine .inl ⟨_, rfl, _, rfl, _, _, rfl, rfl, (by show 0 < m; omega), ?_⟩
    exact fin _ s3 (Int.emod_nonneg _ (by omega)) (.inl (Int.emod_lt_of_pos _ (by omega)))
  refine ite2 (fun h => low _ rfl (.inl (by simpa using h))) (fun h => ?_)
  refine ⟨_, rfl, _, _, rfl, rfl, _, rfl, ?_⟩
  refine ite2 (fun h2 => low _ rfl (.inr (by simpa using h2))) (fun h2 => rest (by simpa using h))
theorem pickB_read {K : PySem.W.Frag} {vs : List V} {H : Hp} {Q : VK} {E : XK} {N : List Str} (hN : N.length = 4) (hs : spPick K vs H Q E) : pickB K { nx := fun _ H' => Q .non H', rt := Q } (L2.start N vs) H := by
  obtain ⟨m, p, q, ws, B, Fr, hm, rfl, ex, fr, ⟨sa, b1, b2, f1, f2⟩, r, k⟩ := hs
  cases r with | cons r t =>
  cases t
  cases r
  have est : L2.start N [.ref p, .int m] = [some (.ref p), some (.int m), none, none] := by
    unfold L2.start
    rw [hN]
    rfl
  rw [est]
  obtain ⟨cells, left, mixed, turn, s0⟩ := sa.src
  have fin : ∀ {H' : Hp} {cells' : List Int} {l' m' t' : Int} (r : Int), Src H H' p q cells' l' m' t' → 0 ≤ r → (r < m ∨ r = 0) → Q (.int r) H' := fun r s h1 h2 => k (.int r) (.int r) B _ ⟨r, rfl, h1, h2⟩ (s.aft ex fr b1 b2 f1 f2) (.int r)
  refine ⟨fun n σ H' => ∃ cells' l', n = cells'.length ∧ σ = [some (.ref p), some (.int m), none, none] ∧ Src H H' p q cells' l' mixed turn, ⟨_, cells, left, rfl, rfl, s0⟩, ?_⟩
  rintro n σ H1 ⟨cs, l, rfl, rfl, s1⟩
  have out := pickB2_read (K := K) (D := { nx := fun _ H' => Q .non H', rt := Q }) hm s1 fin
  refine ⟨_, rfl, _, _, rfl, rfl, _, rfl, ?_⟩
  refine ite2 (fun h1 => ?_) (fun _ => iteF out)
  refine ⟨_, rfl, p, _, rfl, s1.gl, _, _, rfl, rfl, _, rfl, ?_⟩
  refine ite2 (fun h => ?_) (fun h => iteF out)
  refine ⟨_, rfl, p, _, rfl, s1.gc, q, _, rfl, .inl (SqL.of s1.hq), _, _, rfl, rfl, _, rfl, ?_⟩
  refine ite2 (fun h3 => ?_) (fun h3 => out)
  have hne : cs ≠ [] := fun z => by subst z; simp at h3
  obtain ⟨c, hc, c0, s2⟩ := s1.pop hne
  refine ⟨fun σ' H' => ∃ m', m' < cs.length ∧ ∃ cells' l', m' = cells'.length ∧ σ' = [some (.ref p), some (.int m), none, none] ∧ Src H H' p q cells' l' mixed turn, fun _ _ z => z, ?_⟩
  refine ⟨_, rfl, p, _, rfl, s1.gc, .inl ⟨rfl, _, SqL.of s1.hq⟩, q, _, _, rfl, rfl, s1.hq, hc, ?_⟩
  refine ⟨_, rfl, p, _, rfl, s2.pl c, ?_⟩
  exact ⟨_, by rw [List.length_dropLast]; have := List.length_pos_iff.mpr hne; omega, _, _, rfl, rfl, s2.setL c0⟩
/-! the source: the list made within the dict's display -/
def openB (K : PySem.W.Frag) : TS :=
  tSeq (tAsg (tC (.int 11)) (gName 1))
  (tSeq (tFor (iSeq K (tVar 0)) (gName 2) (tStir (K := K) 1 2))
  (tRet (tDisp [(tC (.str "cells"), tRevL K (tLc (iSeq K (tVar 0)) (gName 2) tYes (tCB (fun xs H Q => ∃ i, xs = [.int i] ∧ Q (.int (if i < 0 then -i else i)) H) (tCons (tVar 2) tNil)) [2])), (tC (.str "left"), tC (.int 1)), (tC (.str "mixed"), tVar 1), (tC (.str "turn"), tC (.int 0))])))
theorem openB_read {K : PySem.W.Frag} {vs : List V} {H : Hp} {Q : VK} {E : XK} {N : List Str} (hN : N.length = 3) (hs : SpO K vs H Q E) : openB K { nx := fun _ H' => Q .non H', rt := Q } (L2.start N vs) H := by
  obtain ⟨a, ns, B, Fr, rfl, hl, hn, hb, ex, fr, k⟩ := hs
  have est : L2.start N [.ref a] = some (.ref a) :: List.replicate 2 none := by
    unfold L2.start
    rw [hN]
    rfl
  rw [est]
  have w0 : Wd K none B H (oth B H) (some (.ref a) :: List.replicate 2 none) (some (.scr ns) :: List.replicate 2 none) := wd_scr hl ex fun a h => h
  unfold openB
  refine sw_runS (P := fun ρ => ρ = [some (.scr ns), some (.d (.int 11)), none]) (sw_asg ev_int rfl) w0 fun ρ1 σ1 B1 H1 e1 a1 w1 => ?_
  subst e1
  refine sw_runS (P := fun ρ => ∃ m : Int, (0 ≤ m ∧ m < 2147483648) ∧ ρ = [some (.scr ns), some (.d (.int m)), none]) (sw_script rfl (fun m ρ => ρ = [some (.scr ns), some (.d (.int m)), none]) 11 (by decide) rfl (fun c m ρ1 e hm => ?_) fun m ρ1 hm e => ⟨m, hm, e⟩) w1 fun ρ2 σ2 B2 H2 e2 a2 w2 => ?_
  · subst e
    exact ⟨_, [2], gt_name, sw_stir rfl rfl ⟨_, Le.keep (Le.keep (Le.drop Le.nil)), rfl⟩⟩
  obtain ⟨m, hm, rfl⟩ := e2
  have af : Aft none B H (oth B H) B2 H2 := a1.trans a2
  have gr := af.gr ex
  refine open_end (B' := _) hn hm (oth_aft af fr) (w2.less (G := Fr) fun a ha => fr a ha) gr.h (i := 1) rfl (fun p hp R hR => ?_) k
  have gm := Gr.made w2.ex (.dK []) hp
  have w3 := w2.grow gm
  have hlc : EvO K none (tLc (iSeq K (tVar 0)) (gName 2) tYes (tCB (fun xs H Q => ∃ i, xs = [.int i] ∧ Q (.int (if i < 0 then -i else i)) H) (tCons (tVar 2) tNil)) [2]) [some (.scr ns), some (.d (.int m)), none] (oL PyData.int (ns.map absI)) := ev_lcM PyData.int ns PyData.int absI (ei_scr rfl) fun c hc => ⟨_, [2], gt_name, by simp, ev_cb (ea_cons (ev_var rfl) ea_nil) rc_abs⟩
  refine hlc B2 _ (oth B H) σ2 _ w3 fun v F B' H' g qo nF => ?_
  obtain ⟨l, vs, rfl, hBl, hHl, ra, hF⟩ := qo.datas oL_ds
  have ev := ra.ints
  subst ev
  refine ⟨l, (ns.map absI).map V.int, rfl, SqL.of hHl, fun q hq => ?_⟩
  exact hR _ q (g.h.trans (Ex.new hq)) (fresh_of g.h hq) (by rw [upd_same, List.map_reverse])
/-! ### one of some; things mixed -/
theorem perm_erase {α : Type} : ∀ (xs : List α) (k : Nat) (h : k < xs.length), (xs[k] :: xs.eraseIdx k).Perm xs
  | [], k, h => by simp at h
  | x :: xs, 0, _ => List.Perm.refl _
  | x :: xs, k + 1, h => (List.Perm.swap _ _ _).trans (List.Perm.cons x (perm_erase xs k (by simpa using h)))
theorem entS_of {N : List Str} {ds : List D} {k : Nat} (h : N.length = k) : entS N ds = some O.src :: (ds.map (fun d => some (O.d d)) ++ List.replicate (k - (ds.length + 1)) none) := by unfold entS; rw [h]
abbrev spOf (K : PySem.W.Frag) : Sp := SpN K (α := Bool × List D) (fun x => x.2 ≠ [] ∧ x.2.length < 2 ^ 62) (fun x => [seqD x.1 x.2]) fun x d => d ∈ x.2
def ofTS (K : PySem.W.Frag) : TS := tRet (tOp (rIxX K) (tVar 1) (tCall (spPick K) [] E0 (tCons (tVar 0) (tCons (tCB (rLenX K) (tCons (tVar 1) tNil)) tNil))))
theorem ev_lenS {K : PySem.W.Frag} {S : Option (Addr × Addr)} {ρ : Env} {te : TE} {b : Bool} {ds : List D} (h : EvD K S te ρ (seqD b ds)) : EvD K S (tCB (rLenX K) (tCons te tNil)) ρ (.int ds.length) := by
  cases b with
  | true => exact ev_cb (ea_cons h ea_nil) rc_lenL
  | false => exact ev_cb (ea_cons h ea_nil) rc_lenT
theorem of_read {K : PySem.W.Frag} {vs : List V} {H : Hp} {Q : VK} {E : XK} {N : List Str} (hN : N.length = 2) (hs : spOf K vs H Q E) : ofTS K { nx := fun _ H' => Q .non H', rt := Q } (L2.start N vs) H := by
  refine spn_use hs fun x p q hx => ?_
  obtain ⟨b, ds⟩ := x
  rw [entS_of hN]
  refine sw_retNd (Q := fun d => d ∈ ds) (en_op (Q1 := fun d => d = seqD b ds) ((ev_var rfl).n rfl) (en_pick rfl (ev_lenS (ev_var rfl)) (by have := hx.2; dsimp only at this; omega)) fun x y ex ⟨r, ey, h0, h1⟩ => ?_) fun d hd => ⟨.d _, hd⟩
  subst ex; subst ey
  have hpos : 0 < ds.length := List.length_pos_iff.mpr hx.1
  have h1 : r < (ds.length : Int) ∨ r = 0 := h1
  have hlt : r.toNat < ds.length := by omega
  have hat : atI ds r = some ds[r.toNat] := by
    unfold atI ixN
    rw [if_pos h0, if_pos (by omega)]
    show ds[r.toNat]? = _
    rw [List.getElem?_eq_getElem hlt]
  refine ⟨ds[r.toNat], ?_, List.getElem_mem _⟩
  cases b with
  | true => exact r2_ixL hat
  | false => exact r2_ixT hat
abbrev spMix (K : PySem.W.Frag) : Sp := SpN K (α := Bool × List D) (fun x => x.2.length ≤ 100000) (fun x => [seqD x.1 x.2]) fun x d => ∃ ys, d = .list ys ∧ ys.Perm x.2
def mixTS (K : PySem.W.Frag) : TS := tSeq (tAsg (tCB (rLstO K) (tCons (tVar 1) tNil)) (gName 2)) (tRet (tLc (iRng1 (tCons (tCB (rLenX K) (tCons (tVar 2) tNil)) tNil)) (gName 3) tYes (tBM K "list" rPopAt (tVar 2) (tCons (tCall (spPick K) [] E0 (tCons (tVar 0) (tCons (tCB (rLenX K) (tCons (tVar 2) tNil)) tNil))) tNil)) [3]))
theorem mix_read {K : PySem.W.Frag} {vs : List V} {H : Hp} {Q : VK} {E : XK} {N : List Str} (hN : N.length = 4) (hs : spMix K vs H Q E) : mixTS K { nx := fun _ H' => Q .non H', rt := Q } (L2.start N vs) H := by
  refine spn_use hs fun x p q hx => ?_
  obtain ⟨b, ds⟩ := x
  dsimp only at hx
  rw [entS_of hN]
  have hl : EvO K (some (p, q)) (tCB (rLstO K) (tCons (tVar 1) tNil)) (some O.src :: ([seqD b ds].map (fun d => some (O.d d)) ++ List.replicate (4 - ([seqD b ds].length + 1)) none)) (.l (ds.map O.d)) := by
    cases b with
    | true => exact ev_cb (ea_cons (ev_var rfl) ea_nil) rc_listL
    | false => exact ev_cb (ea_cons (ev_var rfl) ea_nil) rc_listT
  refine sw_seq (sw_asg hl ?_)
  have len : ∀ (rest : List D) (z : Option O), EvD K (some (p, q)) (tCB (rLenX K) (tCons (tVar 2) tNil)) [some .src, some (.d (seqD b ds)), some (.l (rest.map O.d)), z] (.int rest.length) := fun rest z =>
    ev_borM (f := fun d => d) (xs := rest) 2 rfl (.d _ (by simp)) (ev_is (ev_cb (ea_cons (ev_var rfl) ea_nil) rc_lenLM) rfl)
  refine sw_retW (ew_lc (List.range ds.length) (fun i : Nat => .int (i : Int)) (fun i acc ρ1 => ∃ rest, (acc ++ rest).Perm ds ∧ ρ1 = [some .src, some (.d (seqD b ds)), some (.l (rest.map O.d)), none]) (ei_range (ea_cons (len ds none) ea_nil) (by omega)) ⟨ds, by simp, rfl⟩ (fun i x acc ρ1 hi ⟨rest, hp, e⟩ ha => ?_) fun acc ρ1 ha ⟨rest, hp, e⟩ => ?_)
  · subst e
    have hlt : i < ds.length := by have := (List.getElem?_eq_some_iff.mp hi).1; simpa using this
    have hr : acc.length + rest.length = ds.length := by have := hp.length_eq; simpa using this
    refine ⟨_, [3], gt_name, by simp, ew_popAt (f := fun d => d) (xs := rest) rfl (en_pick rfl (len rest _) (by omega)) (fun k hk => by omega) fun k x hx => ⟨x, rfl, rest.eraseIdx k, ?_, rfl⟩⟩
    refine List.Perm.trans ?_ hp
    rw [List.append_assoc]
    refine List.Perm.append_left _ ?_
    have hk := (List.getElem?_eq_some_iff.mp hx)
    obtain ⟨hk1, rfl⟩ := hk
    exact perm_erase rest k hk1
  · rw [List.length_range] at ha
    have hr : acc.length + rest.length = ds.length := by have := hp.length_eq; simpa using this
    have : rest = [] := List.length_eq_zero_iff.mp (by omega)
    subst this
    refine ⟨.l _ fun o ho => by obtain ⟨d, _, rfl⟩ := List.mem_map.mp ho; exact .d d, acc, O.data_ld acc, by simpa using hp⟩
end DL

set_option Elab.async false
set_option linter.all false
set_option maxRecDepth 100000
set_option maxHeartbeats 2000000
/-! DLX: plain lemmas: the greatest and the least of a list, sums, orders -/
namespace DL
theorem mxI_fold (x : Int) : ∀ ns : List Int, (∀ y ∈ ns, y ≤ ns.foldl max x) ∧ x ≤ ns.foldl max x ∧ (ns.foldl max x = x ∨ ns.foldl max x ∈ ns)
  | [] => by simp
  | n :: ns => by
    obtain ⟨h1, h2, h3⟩ := mxI_fold (max x n) ns
    refine ⟨fun y hy => ?_, ?_, ?_⟩
    · rcases List.mem_cons.mp hy with rfl | hy
      · exact Int.le_trans (Int.le_max_right _ _) h2
      · exact h1 y hy
    · exact Int.le_trans (Int.le_max_left _ _) h2
    · rw [List.foldl_cons]
      rcases h3 with h3 | h3
      · rw [h3]
        rcases Int.le_total x n with z | z
        · rw [Int.max_eq_right z]; exact .inr (by simp)
        · rw [Int.max_eq_left z]; exact .inl rfl
      · exact .inr (by simp [h3])
theorem mxI_ge {ns : List Int} : ∀ y ∈ ns, y ≤ mxI ns := by
  cases ns with
  | nil => simp
  | cons n ns =>
    obtain ⟨h1, h2, _⟩ := mxI_fold n ns
    intro y hy
    rcases List.mem_cons.mp hy with rfl | hy
    · exact h2
    · exact h1 y hy
theorem mxI_mem {ns : List Int} (h : ns ≠ []) : mxI ns ∈ ns := by
  cases ns with
  | nil => exact absurd rfl h
  | cons n ns =>
    obtain ⟨_, _, h3⟩ := mxI_fold n ns
    show ns.foldl max n ∈ n :: ns
    rcases h3 with h3 | h3
    · rw [h3]; simp
    · simp [h3]
theorem mxI_is {ns : List Int} {x : Int} (h1 : x ∈ ns) (h2 : ∀ y ∈ ns, y ≤ x) : mxI ns = x :=
  Int.le_antisymm (h2 _ (mxI_mem (List.ne_nil_of_mem h1))) (mxI_ge x h1)
theorem mnI_fold (x : Int) : ∀ ns : List Int, (∀ y ∈ ns, ns.foldl min x ≤ y) ∧ ns.foldl min x ≤ x ∧ (ns.foldl min x = x ∨ ns.foldl min x ∈ ns)
  | [] => by simp
  | n :: ns => by
    obtain ⟨h1, h2, h3⟩ := mnI_fold (min x n) ns
    refine ⟨fun y hy => ?_, ?_, ?_⟩
    · rcases List.mem_cons.mp hy with rfl | hy
      · exact Int.le_trans h2 (Int.min_le_right _ _)
      · exact h1 y hy
    · exact Int.le_trans h2 (Int.min_le_left _ _)
    · rw [List.foldl_cons]
      rcases h3 with h3 | h3
      · rw [h3]
        rcases Int.le_total x n with z | z
        · rw [Int.min_eq_left z]; exact .inl rfl
        · rw [Int.min_eq_right z]; exact .inr (by simp)
      · exact .inr (by simp [h3])
theorem mnI_le {ns : List Int} : ∀ y ∈ ns, mnI ns ≤ y := by
  cases ns with
  | nil => simp
  | cons n ns =>
    obtain ⟨h1, h2, _⟩ := mnI_fold n ns
    intro y hy
    rcases List.mem_cons.mp hy with rfl | hy
    · exact h2
    · exact h1 y hy
theorem mnI_mem {ns : List Int} (h : ns ≠ []) : mnI ns ∈ ns := by
  cases ns with
  | nil => exact absurd rfl h
  | cons n ns =>
    obtain ⟨_, _, h3⟩ := mnI_fold n ns
    show ns.foldl min n ∈ n :: ns
    rcases h3 with h3 | h3
    · rw [h3]; simp
    · simp [h3]
theorem mnI_is {ns : List Int} {x : Int} (h1 : x ∈ ns) (h2 : ∀ y ∈ ns, x ≤ y) : mnI ns = x :=
  Int.le_antisymm (mnI_le x h1) (h2 _ (mnI_mem (List.ne_nil_of_mem h1)))
end DL
namespace DL
open PySem PySem.Spec PyProof.Rows L2
open Evl (Ex Ex.refl Ex.trans Ex.new Ex.mut)
section
variable {K : PySem.W.Frag} {S : Option (Addr × Addr)} {ρ : Env} {ta tb te : TE} {tt : TT} {α β : Type} {f : α → D} {i j : Nat} {E : DE}
/-- an iterator over drawn data -/
def EvIN (K : PySem.W.Frag) (S : Option (Addr × Addr)) (wi : TI) (ρ : Env) (Q : List D → Prop) : Prop := ∀ (B H : Hp) (Fr : Set') (σ : L2.St) (R : It → Hp → Prop), Wd K S B H Fr σ ρ →
  (∀ J B' H' ds, Q ds → GrN S B H B' H' → ItS K B' J ds → ds.length ≤ sizeLine → R J H') → wi σ H R
theorem ein_list {P : List α → Prop} (h : EvN K S te ρ (NT (lM f) P)) : EvIN K S (iSeq K te) ρ (fun ds => ∃ xs, ds = xs.map f ∧ P xs) := fun B H Fr σ R w k => h B H Fr σ _ w fun v d B1 H1 ⟨xs, e, p⟩ g r => by
  subst e
  cases r with
  | lst hl ra => exact ⟨_, _, rfl, .inl ⟨SqL.of (g.sub _ _ hl), fun hz => k _ B1 H1 _ ⟨xs, rfl, p⟩ g (its_list (SqL.of hl) ra) (by rw [← ra.length]; exact hz)⟩⟩
theorem ein_tup {P : List α → Prop} (h : EvN K S te ρ (NT (tM f) P)) : EvIN K S (iSeq K te) ρ (fun ds => ∃ xs, ds = xs.map f ∧ P xs) := fun B H Fr σ R w k => h B H Fr σ _ w fun v d B1 H1 ⟨xs, e, p⟩ g r => by
  subst e
  cases r with
  | tup hl ra => exact ⟨_, _, rfl, .inr ⟨Evl.ex_t g.sub (sqt_of hl), fun hz => k _ B1 H1 _ ⟨xs, rfl, p⟩ g (its_tup (sqt_of hl) ra) (by rw [← ra.length]; exact hz)⟩⟩
theorem ein_rng1 {tr : TA} (h : EvAN K S tr ρ fun ds => ∃ n : Nat, ds = [.int (n : Int)] ∧ n ≤ 16000000) {Q : Nat → Prop} (hq : ∀ n, Q n) : EvIN K S (iRng1 tr) ρ (fun ds => ∃ n : Nat, n ≤ 16000000 ∧ ds = (List.range n).map fun i : Nat => .int (i : Int)) := fun B H Fr σ R w k => h B H Fr σ _ w fun vs ds B1 H1 ⟨n, e, hn⟩ g r => by
  subst e
  cases r with
  | cons r t =>
    cases r
    cases t
    refine ⟨n, rfl, by omega, by omega, k _ B1 H1 _ ⟨n, hn, rfl⟩ g ?_ (by rw [List.length_map, List.length_range, sizeLine_eq]; omega)⟩
    have := its_rng (K := K) (B := B1) (lo := 0) (n := n)
    unfold rangeD at this
    simpa using this
/-- a loop over drawn items -/
theorem sw_forW {wi : TI} {g : TG} {tb : TS} {Q : List D → Prop} (e : α → D) (I : List α → Nat → Env → Prop) (hi : EvIN K S wi ρ Q) (h0 : ∀ ds, Q ds → ∃ xs : List α, ds = xs.map e ∧ I xs 0 ρ ∧
    (∀ i x ρ1, xs[i]? = some x → I xs i ρ1 → ∃ ρ2 js, GtD K S g ρ1 (e x) ρ2 js ∧ StW K S tb ρ2 { E with nx := fun ρ3 => ∃ ρ4, Le ρ4 ρ3 ∧ I xs (i + 1) ρ4, ct := fun ρ3 => ∃ ρ4, Le ρ4 ρ3 ∧ I xs (i + 1) ρ4, bk := E.nx }) ∧
    ∀ ρ1, I xs xs.length ρ1 → E.nx ρ1) : StW K S (tFor wi g tb) ρ E := fun B H Fr σ D w k => hi B H Fr σ _ w fun J B1 H1 ds q g1 it hz => by
  obtain ⟨xs, rfl, h0, hs, hd⟩ := h0 ds q
  have a1 : Aft S B H Fr B1 H1 := g1.aft w
  have wg := w.growN g1
  refine ⟨fun i m σ' H' => m = xs.length - i ∧ i ≤ xs.length ∧ ∃ ρ' B', I xs i ρ' ∧ Aft S B1 H1 Fr B' H' ∧ Wd K S B' H' Fr σ' ρ', ⟨xs.length, by simp, Nat.zero_le _, ρ, B1, h0, Aft.refl wg, wg⟩, ?_⟩
  rintro i m σ' H' ⟨rfl, hle, ρ', B', hI, a2, w2⟩
  obtain ⟨go, stop⟩ := it B' H' a2.b a2.sub i
  by_cases hlt : i < xs.length
  · have hx := List.getElem?_eq_getElem hlt
    obtain ⟨go1, yl⟩ := go (e xs[i]) (by rw [List.getElem?_map, hx]; rfl)
    refine .inr ⟨go1, fun σ3 H3 => i + 1 ≤ xs.length ∧ ∃ ρ' B', I xs (i + 1) ρ' ∧ Aft S B1 H1 Fr B' H3 ∧ Wd K S B' H3 Fr σ3 ρ', fun σ3 H3 q => ⟨xs.length - (i + 1), by omega, rfl, q.1, q.2⟩, fun v H3 hy => ?_⟩
    obtain ⟨B3, g3, rv⟩ := yl v H3 hy
    obtain ⟨ρ2, js, hg, hb⟩ := hs i xs[i] ρ' hx hI
    have a3 : Aft S B1 H1 Fr B3 H3 := a2.trans (g3.aft w2)
    refine hg B3 H3 Fr σ' v _ (w2.grow g3) rv fun σ4 w4 _ _ => hb B3 H3 Fr σ4 _ w4 ⟨?_, ?_, ?_, ?_⟩
    · rintro ρ5 σ5 B5 H5 ⟨ρ6, le, hI6⟩ a5 w5
      exact ⟨hlt, ρ6, B5, hI6, a3.trans a5, w5.le le⟩
    · exact fun ρ5 σ5 B5 H5 q a5 w5 => k.nx ρ5 σ5 B5 H5 q ((a1.trans a3).trans a5) w5
    · rintro ρ5 σ5 B5 H5 ⟨ρ6, le, hI6⟩ a5 w5
      exact ⟨hlt, ρ6, B5, hI6, a3.trans a5, w5.le le⟩
    · exact fun v o F B5 H5 q a5 => k.rt v o F B5 H5 q ((a1.trans a3).trans a5)
  · have hi' : i = xs.length := by omega
    subst hi'
    exact .inl ⟨stop (by simp), k.nx ρ' σ' B' H' (hd ρ' hI) (a1.trans a2) w2⟩
theorem sw_loopN {T : Type} {wi : TI} {g : TG} {tb : TS} {P0 : List α → Prop} (e : α → D) (env : T → Env) (s0 : T) (P : List α → Nat → T → Prop) (hi : EvIN K S wi ρ (fun ds => ∃ xs, ds = xs.map e ∧ P0 xs)) (h0 : Le (env s0) ρ) (hP : ∀ xs, P0 xs → P xs 0 s0)
    (hs : ∀ xs, P0 xs → ∀ i x s, xs[i]? = some x → P xs i s → ∃ ρ2 js, GtD K S g (env s) (e x) ρ2 js ∧ StW K S tb ρ2 { E with nx := fun ρ3 => ∃ s', P xs (i + 1) s' ∧ Le (env s') ρ3, ct := fun ρ3 => ∃ s', P xs (i + 1) s' ∧ Le (env s') ρ3, bk := E.nx })
    (hd : ∀ xs, P0 xs → ∀ s ρ1, P xs xs.length s → Le (env s) ρ1 → E.nx ρ1) : StW K S (tFor wi g tb) ρ E :=
  sw_forW e (fun xs i ρ1 => ∃ s, P xs i s ∧ Le (env s) ρ1) hi fun ds ⟨xs, ed, p⟩ => ⟨xs, ed, ⟨s0, hP xs p, h0⟩, fun i x ρ1 hx ⟨s, hp, le⟩ => by
    obtain ⟨ρ2, js, hg, hb⟩ := hs xs p i x s hx hp
    exact ⟨ρ2, js, fun B H Fr σ v Q w r k => hg B H Fr σ v Q (w.le le) r k, sw_mono hb (fun ρ3 ⟨s', hp', l⟩ => ⟨_, l, s', hp', Le.refl _⟩) (fun _ z => z) (fun ρ3 ⟨s', hp', l⟩ => ⟨_, l, s', hp', Le.refl _⟩) fun _ z => z⟩,
    fun ρ1 ⟨s, hp, le⟩ => hd xs p s ρ1 hp le⟩
/-- [..] * n -/
theorem r2_mulLM {xs : List α} {n : Int} (h0 : -(2 ^ 62) ≤ n) (h1 : n < 2 ^ 62) (hz : xs.length * n.toNat ≤ sizeLine) : R2D K S (rMulD K) (lM f xs) (.int n) (oL f (List.replicate n.toNat xs).flatten) := fun B H v u R ex r1 r2 k => by
  cases r1 with | lst h q =>
  cases r2
  refine .inr (.inl ⟨_, n, _, rfl, rfl, ex _ _ h, by omega, by omega, ?_, fun p hp => ?_⟩)
  · rw [q.length, List.length_map]; exact hz
  · have e : (List.replicate n.toNat (xs.map f)).flatten = ((List.replicate n.toNat xs).flatten).map f := by rw [List.map_flatten, List.map_replicate]
    have ra := r2_mulT.RpAll.rep q n.toNat
    rw [e] at ra
    have q2 := Ow.newList (S := S) (H := upd H p (.lst (List.replicate n.toNat _).flatten)) (fresh_of ex hp) upd_same ra
    rw [List.map_map] at q2
    exact k _ (fun a => a = p) B _ (Gr.made ex _ hp) q2 fun a z => z ▸ hp
theorem rep_one {x : α} (n : Nat) : (List.replicate n [x]).flatten = List.replicate n x := by simp
/-- xs[j] = e, in a list of a type -/
theorem sw_setLM {xs : List α} {x : α} {n : Int} {ti : TE} (hi : ρ[i]? = some (some (oL f xs))) (h : EvD K S te ρ (f x)) (hn : EvD K S ti ρ (.int n)) (h0 : 0 ≤ n) (h1 : n < xs.length) (k : E.nx (ρ.set i (some (oL f (xs.set n.toNat x))))) : StW K S (tAsg te (gSub (tVar i) ti rSetX)) ρ E := by
  have hl : ixN (xs.map fun x => O.d (f x)).length n = some n.toNat := by
    unfold ixN
    rw [if_pos h0, List.length_map, if_pos h1]
  refine sw_setL hi h hn hl ?_
  have e : (xs.map fun x => O.d (f x)).set n.toNat (.d (f x)) = (xs.set n.toNat x).map fun x => O.d (f x) := by rw [List.map_set]
  rw [e]
  exact k
/-- a call of a def with drawn arguments -/
theorem en_callF {α : Type} {ok : α → Prop} {args : α → List D} {f : α → O} {tr : TA} {Qs : List D → Prop} {Q : D → Prop} (ha : EvAN K S tr ρ Qs) (hr : ∀ ds, Qs ds → ∃ x, ds = args x ∧ ok x ∧ NoSrc (f x) ∧ Q (f x).data) : EvN K S (tCall (SpF K ok args f) [] E0 tr) ρ Q := fun B H Fr σ R w k =>
  ha B H Fr σ _ w fun vs ds B1 H1 q1 a1 r => by
    obtain ⟨x, rfl, hx, ns, q⟩ := hr ds q1
    exact ⟨x, B1, oth B1 H1, hx, a1.sub, fun a h => h, by rw [List.append_nil]; exact r, fun v F B' H' a qo n => by
      refine Res.n (w.growN a1) ns (fun z B2 H2 g rz => k z _ B2 H2 q (a1.trans g) rz) v F B' H' (a.gr a1.sub) qo.anyS fun y hy => ?_
      have h1 := (qo.there y hy).1
      have h2 := fresh_of a.b h1
      have h3 : H1 y = none := by
        cases e : H1 y with
        | none => rfl
        | some u => exact absurd ⟨h2, by rw [e]; simp⟩ (n y hy)
      exact h3⟩
end
end DL

set_option Elab.async false
set_option linter.all false
set_option maxRecDepth 100000
set_option maxHeartbeats 2000000
/-! DLY: order of tuples -/
namespace DL
open PySem PySem.Spec PyProof.Rows L2
section
variable {α β γ δ : Type} {f : α → D}
structure OrdL (g : α → List D) (lt : α → α → Bool) : Prop where
  al : ∀ a b, PySem.W.alikeAll (g a) (g b) = true
  lt : ∀ a b, PyProof.Rows.lexLt itemOrd (PySem.W.keyToksAll (g a)) (PySem.W.keyToksAll (g b)) = lt a b
theorem ordl_1 [DecidableEq α] {l : α → α → Bool} (e : EqD f) (o : OrdD f l) : OrdL (fun x => [f x]) l := by
  refine ⟨fun a b => by simp only [PySem.W.alikeAll, o.al, Bool.and_self], fun a b => ?_⟩
  by_cases h : a = b
  · rw [PySem.W.dataLt_all_yes (o.al a b) (by rw [e, decide_eq_true_eq]; exact h), PyProof.Rows.lex_irrefl, h]
    exact ((PySem.W.dataLt_self _).symm.trans (o.lt b b))
  · rw [PySem.W.dataLt_all_no (o.al a b) (by rw [e, decide_eq_false_iff_not]; exact h)]
    exact o.lt a b
theorem ordl_c {g : β → List D} [DecidableEq α] [DecidableEq β] {l1 : α → α → Bool} {l2 : β → β → Bool} (e1 : EqD f) (o1 : OrdD f l1) (o2 : OrdL g l2) : OrdL (fun x : α × β => f x.1 :: g x.2) (lt2 l1 l2) := by
  refine ⟨fun a b => by simp only [PySem.W.alikeAll, o1.al, o2.al, Bool.and_self], fun p q => ?_⟩
  unfold lt2
  by_cases h : p.1 = q.1
  · rw [if_pos h, PySem.W.dataLt_all_yes (o1.al p.1 q.1) (by rw [e1, decide_eq_true_eq]; exact h)]
    exact o2.lt p.2 q.2
  · rw [if_neg h, PySem.W.dataLt_all_no (o1.al p.1 q.1) (by rw [e1, decide_eq_false_iff_not]; exact h)]
    exact o1.lt p.1 q.1
theorem ord_tup {g : α → List D} {l : α → α → Bool} (o : OrdL g l) : OrdD (fun x => .tuple (g x)) l :=
  ⟨fun a b => by simp only [PySem.W.alike, o.al], fun a e => (by cases e), fun p q => (PySem.W.dataLt_tuple _ _).trans (o.lt p q)⟩
theorem ord_p3 {g : β → D} {h : γ → D} [DecidableEq α] [DecidableEq β] [DecidableEq γ] {l1 : α → α → Bool} {l2 : β → β → Bool} {l3 : γ → γ → Bool} (e1 : EqD f) (e2 : EqD g) (e3 : EqD h) (o1 : OrdD f l1) (o2 : OrdD g l2) (o3 : OrdD h l3) : OrdD (p3 f g h) (lt2 l1 (lt2 l2 l3)) :=
  ord_tup (ordl_c e1 o1 (ordl_c e2 o2 (ordl_1 e3 o3)))
theorem ord_p4 {g : β → D} {h : γ → D} {k : δ → D} [DecidableEq α] [DecidableEq β] [DecidableEq γ] [DecidableEq δ] {l1 : α → α → Bool} {l2 : β → β → Bool} {l3 : γ → γ → Bool} {l4 : δ → δ → Bool} (e1 : EqD f) (e2 : EqD g) (e3 : EqD h) (e4 : EqD k) (o1 : OrdD f l1) (o2 : OrdD g l2) (o3 : OrdD h l3) (o4 : OrdD k l4) : OrdD (p4 f g h k) (lt2 l1 (lt2 l2 (lt2 l3 l4))) :=
  ord_tup (ordl_c e1 o1 (ordl_c e2 o2 (ordl_c e3 o3 (ordl_1 e4 o4))))
theorem eqd_p4 {g : β → D} {h : γ → D} {k : δ → D} [DecidableEq α] [DecidableEq β] [DecidableEq γ] [DecidableEq δ] (h1 : EqD f) (h2 : EqD g) (h3 : EqD h) (h4 : EqD k) : EqD (p4 f g h k) := fun x y => by
  simp only [p4, PyData.eqv, PyData.eqvAll, h1 x.1 y.1, h2 x.2.1 y.2.1, h3 x.2.2.1 y.2.2.1, h4 x.2.2.2 y.2.2.2, Bool.and_true, Prod.ext_iff, Bool.decide_and]
theorem shd_p4 {n : Nat} {g : β → D} {h : γ → D} {k : δ → D} (h1 : ShD n f) (h2 : ShD n g) (h3 : ShD n h) (h4 : ShD n k) : ShD (n + 1) (p4 f g h k) := fun x => sh_4 (h1 _) (h2 _) (h3 _) (h4 _)
theorem srt_p3 {g : β → D} {h : γ → D} (h1 : ShD 19 f) (h2 : ShD 19 g) (h3 : ShD 19 h) : SrtD (p3 f g h) := ⟨fun xs => .inl fun d hd => by obtain ⟨x, _, rfl⟩ := List.mem_map.mp hd; exact ⟨_, _, rfl⟩, shd_p3 h1 h2 h3⟩
theorem srt_p4 {g : β → D} {h : γ → D} {k : δ → D} (h1 : ShD 19 f) (h2 : ShD 19 g) (h3 : ShD 19 h) (h4 : ShD 19 k) : SrtD (p4 f g h k) := ⟨fun xs => .inl fun d hd => by obtain ⟨x, _, rfl⟩ := List.mem_map.mp hd; exact ⟨_, _, rfl⟩, shd_p4 h1 h2 h3 h4⟩
end
end DL

set_option Elab.async false
set_option linter.all false
set_option maxRecDepth 100000
set_option maxHeartbeats 2000000
/-! DLZ: list(zip(xs, ys)), tuple(zip(xs, ys)) of two lists -/
namespace DL
open PySem PySem.Spec PyProof.Rows L2
theorem zip_no_len : typeLookup (.type "zip") "__len__" = pure none := by rw [typeLookup_type, builtinLookup_eq_fast]; kernel_rfl
theorem zip_no_hint : typeLookup (.type "zip") "__length_hint__" = pure none := by rw [typeLookup_type, builtinLookup_eq_fast]; kernel_rfl
structure ZSt (z TI TO i1 i2 l1 l2 S : Addr) (xs ys : Array Value) (h : Heap) (i : Nat) : Prop where
  ti : IsPair h TI (.ref i1) (.ref i2)
  h1 : h.IsListIter i1 l1 i
  h2 : h.IsListIter i2 l2 i
  l1 : h.IsList l1 xs
  l2 : h.IsList l2 ys
  zz : (IsZip h z TI TO .none ∧ ∃ a b, IsPair h TO a b) ∨ ∃ T f oT, IsZipHeld h z TI TO T f ∧ h.get? T = some oT ∧ T ≠ z ∧ T ≠ i1 ∧ T ≠ i2 ∧ T ≠ S
theorem ZSt.keep {z TI TO i1 i2 l1 l2 S : Addr} {xs ys : Array Value} {h h' : Heap} {i : Nat} (st : ZSt z TI TO i1 i2 l1 l2 S xs ys h i) (hS : S ∉ [z, TI, TO, i1, i2, l1, l2]) (up : ∀ b o, b ≠ S → h.get? b = some o → h'.get? b = some o) : ZSt z TI TO i1 i2 l1 l2 S xs ys h' i := by
  simp only [List.mem_cons, List.not_mem_nil, or_false, not_or] at hS
  obtain ⟨dz, dTI, dTO, d1, d2, e1, e2⟩ := hS
  refine ⟨up _ _ (Ne.symm dTI) st.ti, st.h1.at fun o e => up _ o (Ne.symm d1) e, st.h2.at fun o e => up _ o (Ne.symm d2) e, st.l1.at fun o e => up _ o (Ne.symm e1) e, st.l2.at fun o e => up _ o (Ne.symm e2) e, ?_⟩
  rcases st.zz with ⟨hz, a, b, hTO⟩ | ⟨T, f, oT, hz, hT, r1, r2, r3, r4⟩
  · exact .inl ⟨up _ _ (Ne.symm dz) hz, a, b, up _ _ (Ne.symm dTO) hTO⟩
  · exact .inr ⟨T, f, oT, up _ _ (Ne.symm dz) hz, up _ _ r4 hT, r1, r2, r3, r4⟩
structure MadeZ (xs ys : Array Value) (h : Heap) (lo : Addr) (off : List Addr) (as : List Addr) : Prop where
  above : ∀ a ∈ as, lo < a
  rise : as.Pairwise (· < ·)
  away : ∀ a ∈ as, a ∉ off
  pairs : ∀ (j : Nat) (a : Addr), as[j]? = some a → ∃ x y, xs[j]? = some x ∧ ys[j]? = some y ∧ IsPair h a x y
theorem MadeZ.there {xs ys : Array Value} {h : Heap} {lo : Addr} {off as : List Addr} (g : MadeZ xs ys h lo off as) {a : Addr} (ha : a ∈ as) : a < h.objs.size := by
  obtain ⟨j, hj⟩ := List.mem_iff_getElem?.mp ha
  obtain ⟨_, _, _, _, e⟩ := g.pairs j a hj
  exact Heap.lt_size e
section
variable {prog : Program} {w : World} {A : Around} {s : Shared} {z TI TO i1 i2 l1 l2 S : Addr} {xs ys : Array Value}
theorem nxtZ {E : Value → Shared → Prop} {Q : Option Value → Shared → Prop} {i : Nat} (D : ZipApart z TI TO i1 i2 l1 l2) (hS : S ∉ [z, TI, TO, i1, i2, l1, l2]) (hSl : S < s.heap.objs.size) (st : ZSt z TI TO i1 i2 l1 l2 S xs ys s.heap i) {x y : Value} (ex : xs[i]? = some x) (ey : ys[i]? = some y)
    (hQ : ∀ h', ZSt z TI TO i1 i2 l1 l2 S xs ys h' (i + 1) → IsPair h' s.heap.objs.size x y → (∀ b o, b ∉ [z, TO, i1, i2] → s.heap.get? b = some o → h'.get? b = some o) → Q (some (.ref s.heap.objs.size)) { s with heap := h' }) :
    wpAny (model prog w) A (pyNext (.ref z)) Q E s := by
  obtain ⟨hTI, h1, h2, hl1, hl2, hz⟩ := st
  have lt : ∀ {c o}, s.heap.get? c = some o → s.heap.objs.size ≠ c := fun e => Nat.ne_of_gt (Heap.lt_size e)
  have n1 : s.heap.objs.size ≠ i1 := let ⟨_, e, _⟩ := h1; lt e
  have n2 : s.heap.objs.size ≠ i2 := let ⟨_, e, _⟩ := h2; lt e
  rcases hz with ⟨hz, a, b, hTO⟩ | ⟨T, f, oT, hz, hT, r1, r2, r3, r4⟩
  · refine wpAny_pyNext_zip_item D hz hTI hTO h1 h2 hl1 hl2 ex ey fun h' a1 a2 a3 a4 a5 a6 hk => ?_
    exact hQ h' ⟨hk _ _ D.TIz D.TITO D.TIi1 D.TIi2 hTI, a3, a4, hl1.at fun o e => hk _ o D.l1z D.l1TO D.l1i1 D.l1i2 e, hl2.at fun o e => hk _ o D.l2z D.l2TO D.l2i1 D.l2i2 e,
        .inr ⟨s.heap.objs.size, false, _, a1, a5, lt hz, n1, n2, Nat.ne_of_gt hSl⟩⟩ a5
      fun c o hc e => hk c o (fun x => hc (by simp [x])) (fun x => hc (by simp [x])) (fun x => hc (by simp [x])) (fun x => hc (by simp [x])) e
  · refine wpAny_pyNext_zip_item_held D hz hT hTI h1 h2 hl1 hl2 ex ey fun h' a1 a3 a4 a5 a6 hk => ?_
    exact hQ h' ⟨hk _ _ D.TIz D.TIi1 D.TIi2 hTI, a3, a4, hl1.at fun o e => hk _ o D.l1z D.l1i1 D.l1i2 e, hl2.at fun o e => hk _ o D.l2z D.l2i1 D.l2i2 e,
        .inr ⟨T, true, oT, a1, hk _ _ r1 r2 r3 hT, r1, r2, r3, r4⟩⟩ a5
      fun c o hc e => hk c o (fun x => hc (by simp [x])) (fun x => hc (by simp [x])) (fun x => hc (by simp [x])) e
theorem finZ {E : Value → Shared → Prop} {Q : Option Value → Shared → Prop} (hh : A.handled = none) (D : ZipApart z TI TO i1 i2 l1 l2) (st : ZSt z TI TO i1 i2 l1 l2 S xs ys s.heap (min xs.size ys.size))
    (hQ : ∀ h', (∀ b o, b ∉ [z, TO, i1, i2] → s.heap.get? b = some o → h'.get? b = some o) → Q none { s with heap := h' }) : wpAny (model prog w) A (pyNext (.ref z)) Q E s := by
  obtain ⟨hTI, h1, h2, hl1, hl2, hz⟩ := st
  have hend : xs[min xs.size ys.size]? = none ∨ ys[min xs.size ys.size]? = none := by
    rcases Nat.le_total xs.size ys.size with h | h
    · exact .inl (Array.getElem?_eq_none (by rw [Nat.min_eq_left h]; exact Nat.le_refl _))
    · exact .inr (Array.getElem?_eq_none (by rw [Nat.min_eq_right h]; exact Nat.le_refl _))
  rcases hz with ⟨hz, a, b, hTO⟩ | ⟨T, f, oT, hz, hT, r1, r2, r3, r4⟩
  · exact wpAny_pyNext_zip_end hh D hz hTI hTO h1 h2 hl1 hl2 hend fun h' hk => hQ h' fun c o hc e => hk c o (fun x => hc (by simp [x])) (fun x => hc (by simp [x])) (fun x => hc (by simp [x])) (fun x => hc (by simp [x])) e
  · exact wpAny_pyNext_zip_end_held hh D hz hT hTI h1 h2 hl1 hl2 hend fun h' hk => hQ h' fun c o hc e => hk c o (fun x => hc (by simp [x])) (fun x => hc (by simp [x])) (fun x => hc (by simp [x])) e
variable {R : Result → Shared → Prop}
theorem loopZ (hh : A.handled = none) (D : ZipApart z TI TO i1 i2 l1 l2) (hS0 : S ∉ [z, TI, TO, i1, i2, l1, l2]) (hn : min xs.size ys.size ≤ sizeLine) (res : Value) {h₁ : Heap}
    (hR : ∀ h' acc c as, (∀ b o, b ≠ S → b ∉ [z, TO, i1, i2] → h₁.get? b = some o → h'.get? b = some o) → h'.get? S = some { cls := .type "list", dict := none, data := .seq acc c, slots := #[] } → as.length = min xs.size ys.size → MadeZ xs ys h' S [S, z, TO, i1, i2] as →
      acc.toList = as.map Value.ref → R (.ok (.ret res)) { s with heap := h' }) :
    ∀ (k i : Nat) (h : Heap) (c : Nat) (acc : Array Value) (as : List Addr), min xs.size ys.size - i = k → i ≤ min xs.size ys.size → ZSt z TI TO i1 i2 l1 l2 S xs ys h i → (∀ b o, b ≠ S → b ∉ [z, TO, i1, i2] → h₁.get? b = some o → h.get? b = some o) →
      h.get? S = some { cls := .type "list", dict := none, data := .seq acc c, slots := #[] } → acc.toList = as.map Value.ref → as.length = i → MadeZ xs ys h S [S, z, TO, i1, i2] as → (∀ b ∈ [S, z, TO, i1, i2], b < h.objs.size) →
      codeAny (model prog w) A (.builtin "list.extend.loop" ⟨[.ref S, .ref z, res], []⟩) R { s with heap := h } := by
  have hS := hS0
  simp only [List.mem_cons, List.not_mem_nil, or_false, not_or] at hS
  obtain ⟨dz, dTI, dTO, d1, d2, e1, e2⟩ := hS
  have hSw : S ∉ [z, TO, i1, i2] := by simp [dz, dTO, d1, d2]
  intro k
  induction k with
  | zero =>
    intro i h c acc as hk hi hst hkeep hS hacc hal hG hoff
    have ei : i = min xs.size ys.size := by omega
    subst ei
    refine codeAny_builtin PySem.F.entry_extend_loop ?_
    rw [Around.under_plainId PySem.F.plain_extend_loop _]
    show wpAny _ A.in1 (pyNext (.ref z) >>= _) _ _ _
    refine wpAny_bind (finZ (s := { s with heap := h }) (A := A.in1) hh D hst fun h' he => ?_)
    refine wpAny_pure (hR h' acc c as (fun b o h1 h2 e => he b o h2 (hkeep b o h1 h2 e)) (he S _ hSw hS) hal ⟨hG.above, hG.rise, hG.away, fun j a hj => ?_⟩ hacc)
    obtain ⟨x, y, ex, ey, e3⟩ := hG.pairs j a hj
    exact ⟨x, y, ex, ey, he a _ (fun hm => hG.away a (List.mem_of_getElem? hj) (List.mem_cons_of_mem _ hm)) e3⟩
  | succ k ih =>
    intro i h c acc as hk hi hst hkeep hS hacc hal hG hoff
    have hlt : i < min xs.size ys.size := by omega
    have hsz : acc.size = i := by rw [← Array.length_toList, hacc, List.length_map, hal]
    have ex := Array.getElem?_eq_getElem (xs := xs) (i := i) (by omega)
    have ey := Array.getElem?_eq_getElem (xs := ys) (i := i) (by omega)
    refine codeAny_builtin PySem.F.entry_extend_loop ?_
    rw [Around.under_plainId PySem.F.plain_extend_loop _]
    show wpAny _ A.in1 (pyNext (.ref z) >>= _) _ _ _
    refine wpAny_bind (nxtZ (s := { s with heap := h }) (S := S) D hS0 (Heap.lt_size hS) hst ex ey fun h' hst' ht hkp => ?_)
    dsimp only at ht hkp ⊢
    have hS' := hkp S _ hSw hS
    have up : ∀ b o, b ≠ S → h'.get? b = some o → (h'.update S (Obj.mapSeq (·.push (Value.ref h.objs.size)))).get? b = some o := fun b o hb e => (Heap.get?_update_other _ _ (Ne.symm hb)).trans e
    have hSl : S < h.objs.size := Heap.lt_size hS
    show wpAny _ A.in1 (updateSeq S (·.push (Value.ref h.objs.size)) >>= _) _ _ _
    refine wpAny_bind ?_
    refine wpAny_updateSeq hS' rfl (wpAny_pure ⟨plainId_quiet PySem.F.plain_extend_loop _, ih (i + 1) _ _ (acc.push (Value.ref h.objs.size)) (as ++ [h.objs.size]) (by omega) hlt (hst'.keep hS0 up)
      (fun b o h1 h2 e => up b o h1 (hkp b o h2 (hkeep b o h1 h2 e))) (Heap.get?_update_self _ hS' rfl) (by rw [Array.toList_push, hacc, List.map_append]; rfl) (by rw [List.length_append, hal]; rfl) ⟨?_, ?_, ?_, ?_⟩ ?_⟩) (by rw [hsz]; omega) (by show (acc.push (Value.ref h.objs.size)).size ≤ sizeLine + 1; rw [Array.size_push, hsz]; omega)
    · intro a ha
      rcases List.mem_append.mp ha with ha | ha
      · exact hG.above a ha
      · rw [List.mem_singleton.mp ha]; exact hSl
    · refine List.pairwise_append.mpr ⟨hG.rise, List.pairwise_singleton _ _, fun a ha b hb => ?_⟩
      rw [List.mem_singleton.mp hb]
      exact hG.there ha
    · intro a ha
      rcases List.mem_append.mp ha with ha | ha
      · exact hG.away a ha
      · rw [List.mem_singleton.mp ha]; exact fun hm => Nat.lt_irrefl _ (hoff _ hm)
    · intro j b hj
      rcases Nat.lt_trichotomy j as.length with h1 | h1 | h1
      · rw [List.getElem?_append_left h1] at hj
        obtain ⟨x, y, e1, e2, e3⟩ := hG.pairs j b hj
        have hb := hG.away b (List.mem_of_getElem? hj)
        exact ⟨x, y, e1, e2, up b _ (fun q => hb (by simp [q])) (hkp b _ (fun hm => hb (List.mem_cons_of_mem _ hm)) e3)⟩
      · subst h1
        have hb : h.objs.size = b := by simpa using hj
        subst hb
        subst hal
        exact ⟨_, _, ex, ey, up _ _ (Nat.ne_of_gt hSl) ht⟩
      · have hnone : (as ++ [h.objs.size])[j]? = none := List.getElem?_eq_none (by rw [List.length_append, List.length_singleton]; omega)
        rw [hnone] at hj; cases hj
    · have e : (h'.update S (Obj.mapSeq (·.push (Value.ref h.objs.size)))).get? h.objs.size = _ := up _ _ (Nat.ne_of_gt hSl) ht
      intro b hb
      exact Nat.lt_trans (hoff b hb) (Heap.lt_size e)
theorem extZ (hh : A.handled = none) (D : ZipApart z TI TO i1 i2 l1 l2) (hS0 : S ∉ [z, TI, TO, i1, i2, l1, l2]) (hn : min xs.size ys.size ≤ sizeLine) (res : Value) (c₀ : Nat) (hS : s.heap.get? S = some { cls := .type "list", data := .seq #[] c₀ })
    (st : ZSt z TI TO i1 i2 l1 l2 S xs ys s.heap 0) (hz : IsZip s.heap z TI TO .none) (hoff : ∀ b ∈ [S, z, TO, i1, i2], b < s.heap.objs.size)
    (hR : ∀ h' acc c as, (∀ b o, b ≠ S → b ∉ [z, TO, i1, i2] → s.heap.get? b = some o → h'.get? b = some o) → h'.get? S = some { cls := .type "list", dict := none, data := .seq acc c, slots := #[] } → as.length = min xs.size ys.size → MadeZ xs ys h' S [S, z, TO, i1, i2] as →
      acc.toList = as.map Value.ref → R (.ok (.ret res)) { s with heap := h' }) :
    wpAny (model prog w) A.in1 (Builtin.List.listExtendWith (.ref S) (.ref z) res)
      (fun fin s' => match fin with | .done f => R (.ok f) s' | .again c' => c'.quiet = true ∧ codeAny (model prog w) A c' R s') (fun e s' => R (.error e) s') s := by
  have hS1 := hS0
  simp only [List.mem_cons, List.not_mem_nil, or_false, not_or] at hS1
  obtain ⟨dz, dTI, dTO, d1, d2, e1, e2⟩ := hS1
  have hT : s.TypeIs (.ref z) "zip" := ⟨_, hz, rfl⟩
  unfold Builtin.List.listExtendWith
  refine wpAny_bind (wpAny_typeOf hT ?_)
  have h1 : Builtin.List.listSameRef (.ref S) (.ref z) = false := by simp [Builtin.List.listSameRef, dz]
  have h2 : (Value.type "zip" == Value.type "list") = false := by decide
  have h3 : (Value.type "zip" == Value.type "tuple") = false := by decide
  simp only [h1, h2, h3, Bool.or_false, Bool.false_eq_true, if_false]
  refine wpAny_bind (wpAny_pyIter_zip hz ?_)
  refine wpAny_bind (wpAny_holding ?_)
  unfold Builtin.List.listLengthHint
  refine wpAny_bind (wpAny_specialOf hT zip_no_len ?_)
  show wpAny _ A.in1 (specialOf (Value.ref z) (Str.ofString "__length_hint__") >>= _) _ _ _
  refine wpAny_bind (wpAny_specialOf hT zip_no_hint ?_)
  refine wpAny_pure ?_
  show wpAny _ A.in1 (rule "list.extend.makes-room" >>= fun _ => Builtin.List.listTouch (.ref S) >>= fun _ =>
    again (.builtin "list.extend.loop" ⟨[.ref S, .ref z, res], []⟩)) _ _ _
  refine wpAny_bind (wpAny_rule ?_)
  refine wpAny_bind ?_
  show wpAny _ A.in1 (updateSeq S (·.push .none) >>= fun _ => updateSeq S (·.pop)) _ _ _
  refine wpAny_bind (wpAny_updateSeq hS rfl ?_)
  have hS₂ := Heap.get?_update_self (Obj.mapSeq (·.push Value.none)) hS rfl
  refine wpAny_updateSeq (hz := by seq_fits) hS₂ rfl ?_
  have hS₃ := Heap.get?_update_self (Obj.mapSeq (·.pop)) hS₂ rfl
  have oth : ∀ b o, b ≠ S → s.heap.get? b = some o → ((s.heap.update S (Obj.mapSeq (·.push Value.none))).update S (Obj.mapSeq (·.pop))).get? b = some o :=
    fun b o hb e => (Heap.get?_update_other _ _ (Ne.symm hb)).trans ((Heap.get?_update_other _ _ (Ne.symm hb)).trans e)
  refine wpAny_pure ⟨plainId_quiet F.plain_extend_loop _, loopZ (s := s) (h₁ := s.heap) hh D hS0 hn res hR _ 0 _ _ #[] [] (Nat.sub_zero _) (Nat.zero_le _) (st.keep hS0 oth) (fun b o hb _ e => oth b o hb e) hS₃ rfl rfl
    ⟨(fun _ ha => nomatch ha), List.Pairwise.nil, (fun _ ha => nomatch ha), (fun j a hj => by simp at hj)⟩ fun b hb => ?_⟩
  have hb := hoff b hb
  simpa [Heap.update] using hb
theorem keepIt {h h' : Heap} {it l i : Nat} (x : h.IsListIter it l i) (k : ∀ o, h.get? it = some o → h'.get? it = some o) : h'.IsListIter it l i := x.at fun o e => k o e
theorem zst0 {h : Heap} (hz : IsZip h z TI TO .none) (hTI : IsPair h TI (.ref i1) (.ref i2)) (hTO : ∃ a b, IsPair h TO a b) (h1 : h.IsListIter i1 l1 0) (h2 : h.IsListIter i2 l2 0) (hl1 : h.IsList l1 xs) (hl2 : h.IsList l2 ys) (o : Obj) :
    ZSt z TI TO i1 i2 l1 l2 h.objs.size xs ys (h.push o) 0 ∧ h.objs.size ∉ [z, TI, TO, i1, i2, l1, l2] ∧ ∀ b ∈ [h.objs.size, z, TO, i1, i2], b < (h.push o).objs.size := by
  obtain ⟨a, b, hTO⟩ := hTO
  have p := fun (c : Addr) (u : Obj) (e : h.get? c = some u) => Heap.get?_push_of_some o e
  have lt : ∀ {c u}, h.get? c = some u → c < h.objs.size := fun e => Heap.lt_size e
  have b1 := lt hz; have b2 := lt hTI; have b3 := lt hTO
  have b4 : i1 < h.objs.size := let ⟨_, e, _⟩ := h1; lt e
  have b5 : i2 < h.objs.size := let ⟨_, e, _⟩ := h2; lt e
  have b6 : l1 < h.objs.size := let ⟨_, e, _⟩ := hl1; lt e
  have b7 : l2 < h.objs.size := let ⟨_, e, _⟩ := hl2; lt e
  refine ⟨⟨p _ _ hTI, h1.at fun o e => p _ o e, h2.at fun o e => p _ o e, hl1.at fun o e => p _ o e, hl2.at fun o e => p _ o e, .inl ⟨p _ _ hz, a, b, p _ _ hTO⟩⟩, ?_, ?_⟩
  · intro hm
    simp only [List.mem_cons, List.not_mem_nil, or_false] at hm
    rcases hm with e | e | e | e | e | e | e
    · exact Nat.ne_of_gt b1 e
    · exact Nat.ne_of_gt b2 e
    · exact Nat.ne_of_gt b3 e
    · exact Nat.ne_of_gt b4 e
    · exact Nat.ne_of_gt b5 e
    · exact Nat.ne_of_gt b6 e
    · exact Nat.ne_of_gt b7 e
  · intro c hc
    rw [Heap.size_push]
    simp only [List.mem_cons, List.not_mem_nil, or_false] at hc
    rcases hc with rfl | rfl | rfl | rfl | rfl
    · exact Nat.lt_succ_self _
    · exact Nat.lt_succ_of_lt b1
    · exact Nat.lt_succ_of_lt b3
    · exact Nat.lt_succ_of_lt b4
    · exact Nat.lt_succ_of_lt b5
end
section
variable {prog : Program} {w : World} {A : Around} {s : Shared} {z TI TO i1 i2 l1 l2 : Addr} {xs ys : Array Value} {E : Value → Shared → Prop}
theorem call_list_zip {Q : Value → Shared → Prop} (hh : A.handled = none) (D : ZipApart z TI TO i1 i2 l1 l2) (hn : min xs.size ys.size ≤ sizeLine) (hz : IsZip s.heap z TI TO .none) (hTI : IsPair s.heap TI (.ref i1) (.ref i2)) (hTO : ∃ a b, IsPair s.heap TO a b)
    (h1 : s.heap.IsListIter i1 l1 0) (h2 : s.heap.IsListIter i2 l2 0) (hl1 : s.heap.IsList l1 xs) (hl2 : s.heap.IsList l2 ys)
    (hQ : ∀ h' acc c as, (∀ b o, b ∉ [z, TO, i1, i2] → s.heap.get? b = some o → h'.get? b = some o) → h'.get? s.heap.objs.size = some { cls := .type "list", dict := none, data := .seq acc c, slots := #[] } → as.length = min xs.size ys.size →
      MadeZ xs ys h' s.heap.objs.size [s.heap.objs.size, z, TO, i1, i2] as → acc.toList = as.map Value.ref → Q (.ref s.heap.objs.size) { s with heap := h' }) :
    wpAny (model prog w) A (call (.type "list") [.ref z]) Q E s := by
  refine callType_codes (Q₁ := fun obj s₁ => obj = .ref s.heap.objs.size ∧ s₁ = { s with heap := s.heap.push { cls := .type "list", data := .seq #[] } }) F.called_list (F.typeCall_list_1 _) F.entry_list_init
    (code_list_new _ ⟨rfl, rfl⟩) fun obj s₁ h₁ => ?_
  obtain ⟨rfl, rfl⟩ := h₁
  have hS : (s.heap.push { cls := .type "list", data := .seq #[] }).get? s.heap.objs.size = some { cls := .type "list", data := .seq #[] } := Heap.get?_push_size _ rfl
  obtain ⟨st, hS0, hoff⟩ := zst0 hz hTI hTO h1 h2 hl1 hl2 { cls := .type "list", data := .seq #[] }
  have hzS : s.heap.objs.size ≠ z := fun e => hS0 (by simp [e])
  refine ⟨⟨_, hS, rfl⟩, F.args_list_init_2 _ _, ?_⟩
  show wpAny _ A.in1.in1 (do let old ← Builtin.List.listItems (.ref s.heap.objs.size); Builtin.List.listUpdate (.ref s.heap.objs.size) (fun _ => #[]); letGo old.toList.reverse; Builtin.List.listExtendWith (.ref s.heap.objs.size) (.ref z) .none) _ _ _
  refine wpAny_bind ?_
  unfold Builtin.List.listItems
  refine wpAny_bind (wpAny_seqItems hS rfl (wpAny_pure ?_))
  show wpAny _ A.in1.in1 (updateSeq s.heap.objs.size (fun _ => #[]) >>= fun _ => letGo (#[] : Array Value).toList.reverse >>= fun _ => Builtin.List.listExtendWith (.ref s.heap.objs.size) (.ref z) .none) _ _ _
  refine wpAny_bind (wpAny_updateSeq hS rfl ?_)
  have hS₂ := Heap.get?_update_self (Obj.mapSeq (fun _ => (#[] : Array Value))) hS rfl
  have oth : ∀ b o, b ≠ s.heap.objs.size → (s.heap.push { cls := .type "list", data := .seq #[] }).get? b = some o → ((s.heap.push { cls := .type "list", data := .seq #[] }).update s.heap.objs.size (Obj.mapSeq (fun _ => (#[] : Array Value)))).get? b = some o :=
    fun b o hb e => (Heap.get?_update_other _ _ (Ne.symm hb)).trans e
  refine wpAny_bind (wpAny_letGo ?_)
  refine extZ (s := { s with heap := _ }) (A := A.in1) hh D hS0 hn .none _ hS₂ (st.keep hS0 oth) (oth _ _ (Ne.symm hzS) (Heap.get?_push_of_some _ hz)) (fun b hb => by simpa [Heap.update] using hoff b hb) fun h' acc c as hk hS' hl hG hacc => ?_
  exact ⟨rfl, hQ h' acc c as (fun b o hb e => hk b o (Nat.ne_of_lt (Heap.lt_size e)) hb (oth b o (Nat.ne_of_lt (Heap.lt_size e)) (Heap.get?_push_of_some _ e))) hS' hl hG hacc⟩
theorem collectZ {Q : List Value → Shared → Prop} (hh : A.handled = none) (D : ZipApart z TI TO i1 i2 l1 l2) (hn : min xs.size ys.size ≤ sizeLine) (hz : IsZip s.heap z TI TO .none) (hTI : IsPair s.heap TI (.ref i1) (.ref i2)) (hTO : ∃ a b, IsPair s.heap TO a b)
    (h1 : s.heap.IsListIter i1 l1 0) (h2 : s.heap.IsListIter i2 l2 0) (hl1 : s.heap.IsList l1 xs) (hl2 : s.heap.IsList l2 ys)
    (hQ : ∀ h' as, (∀ b o, b ∉ [z, TO, i1, i2] → s.heap.get? b = some o → h'.get? b = some o) → as.length = min xs.size ys.size → MadeZ xs ys h' s.heap.objs.size [s.heap.objs.size, z, TO, i1, i2] as → Q (as.map Value.ref) { s with heap := h' }) :
    wpAny (model prog w) A (collect (.ref z)) Q E s := by
  obtain ⟨st, hS0, hoff⟩ := zst0 hz hTI hTO h1 h2 hl1 hl2 { cls := .type "list", data := .seq ([] : List Value).toArray }
  have hzS : s.heap.objs.size ≠ z := fun e => hS0 (by simp [e])
  unfold collect
  refine wpAny_bind (wpAny_runValue (codeAny_builtin F.entry_proto_collect ?_))
  rw [Around.under_plainId F.plain_proto_collect _]
  show wpAny _ A.in1 (newList [] >>= fun l => again (.builtin "list.__iadd__" ⟨[l, .ref z], []⟩)) _ _ s
  refine wpAny_bind (wpAny_newObj_type ?_)
  refine wpAny_pure ⟨plainId_quiet F.plain_list_iadd _, codeAny_builtin F.entry_list_iadd ?_⟩
  rw [Around.under_plainId F.plain_list_iadd _]
  show wpAny _ A.in1 (Builtin.List.listExtendWith (.ref s.heap.objs.size) (.ref z) (.ref s.heap.objs.size)) _ _ _
  have hS : (s.heap.push { cls := .type "list", data := .seq ([] : List Value).toArray }).get? s.heap.objs.size = some { cls := .type "list", data := .seq #[] 0 } := Heap.get?_push_size _ rfl
  refine wpAny_mono (extZ (A := A) (R := fun rr s' => rr = .ok (.ret (.ref s.heap.objs.size)) ∧ ∃ (h' : Heap) (acc : Array Value) (c' : Nat) (as : List Addr), s' = { s with heap := h' } ∧
      (∀ b o, b ∉ [z, TO, i1, i2] → s.heap.get? b = some o → h'.get? b = some o) ∧ h'.get? s.heap.objs.size = some { cls := .type "list", dict := none, data := .seq acc c', slots := #[] } ∧ as.length = min xs.size ys.size ∧ MadeZ xs ys h' s.heap.objs.size [s.heap.objs.size, z, TO, i1, i2] as ∧ acc.toList = as.map Value.ref)
    (s := { s with heap := s.heap.push { cls := .type "list", data := .seq ([] : List Value).toArray } }) hh D hS0 hn _ 0 hS st (Heap.get?_push_of_some _ hz) hoff
    (fun h' acc c as hk e hl hG hacc => ⟨rfl, h', acc, c, as, rfl, fun b o hb q => hk b o (Nat.ne_of_lt (Heap.lt_size q)) hb (Heap.get?_push_of_some _ q), e, hl, hG, hacc⟩)) (fun fin s' h => ?_) (fun e s' h => ?_)
  · cases fin with
    | done f =>
      obtain ⟨e, h', acc, c', as, rfl, hk, hS', hl, hG, hacc⟩ := h
      cases e
      show wpAny _ A (load s.heap.objs.size >>= _) _ _ _
      refine wpAny_bind (wpAny_load hS' (wpAny_pure ?_))
      show Q acc.toList _
      rw [hacc]
      exact hQ h' as hk hl hG
    | again c' =>
      refine ⟨h.1, codeAny_mono h.2 fun rr s'' hr' => ?_⟩
      obtain ⟨rfl, h', acc, c', as, rfl, hk, hS', hl, hG, hacc⟩ := hr'
      show wpAny _ A (load s.heap.objs.size >>= _) _ _ _
      refine wpAny_bind (wpAny_load hS' (wpAny_pure ?_))
      show Q acc.toList _
      rw [hacc]
      exact hQ h' as hk hl hG
  · exact absurd h.1 (by simp)
theorem code_tuple_new_zip {Q₁ : Value → Shared → Prop} (hh : A.handled = none) (D : ZipApart z TI TO i1 i2 l1 l2) (hn : min xs.size ys.size ≤ sizeLine) (hz : IsZip s.heap z TI TO .none) (hTI : IsPair s.heap TI (.ref i1) (.ref i2)) (hTO : ∃ a b, IsPair s.heap TO a b)
    (h1 : s.heap.IsListIter i1 l1 0) (h2 : s.heap.IsListIter i2 l2 0) (hl1 : s.heap.IsList l1 xs) (hl2 : s.heap.IsList l2 ys)
    (h : ∀ (h' : Heap) (as : List Addr), (∀ b o, b ∉ [z, TO, i1, i2] → s.heap.get? b = some o → h'.get? b = some o) → as.length = min xs.size ys.size → MadeZ xs ys h' s.heap.objs.size [s.heap.objs.size, z, TO, i1, i2] as →
      Q₁ (.ref h'.objs.size) { s with heap := h'.push { cls := .type "tuple", data := .seq (as.map Value.ref).toArray } }) :
    codeAny (model prog w) A (.call (.builtin "tuple.__new__") ⟨[.type "tuple", .ref z], []⟩) (wants Q₁ E) s := by
  refine codeAny_of_tree ?_
  show wpAny _ A.in1 (do checkBuiltinCall "tuple.__new__" ⟨[.type "tuple", .ref z], []⟩; again (.builtin "tuple.__new__" ⟨[.type "tuple", .ref z], []⟩)) _ _ s
  refine wpAny_bind (wpAny_of_eq (F.newCall_tuple_1 _) (wpAny_pure ⟨plainId_quiet F.plain_tuple_new _, codeAny_builtin F.entry_tuple_new ?_⟩))
  rw [Around.under_plainId F.plain_tuple_new _]
  have hsub := sub_tuple_self
  have hinit := init_tuple_lookup
  have hmh := madeHere_tuple
  have hTI0 : s.TypeIs (.ref z) "zip" := ⟨_, hz, rfl⟩
  have hh1 : A.in1.handled = none := hh
  wp_walk using wpAny_typeOf hTI0, collectZ (A := A.in1) hh1 D hn hz hTI hTO h1 h2 hl1 hl2
  intro h' as hk hl hG
  show wpAny _ _ (Builtin.Tuple.tupleExact (as.map Value.ref).toArray >>= fun v => ret v) _ _ _
  unfold Builtin.Tuple.tupleExact
  refine wpAny_bind (wpAny_newObj_type ?_ (by show (as.map Value.ref).toArray.size ≤ sizeLine; rw [List.size_toArray, List.length_map, hl]; exact hn))
  refine wpAny_pure ?_
  exact h h' as hk hl hG
theorem call_tuple_zip {Q : Value → Shared → Prop} (hh : A.handled = none) (D : ZipApart z TI TO i1 i2 l1 l2) (hn : min xs.size ys.size ≤ sizeLine) (hz : IsZip s.heap z TI TO .none) (hTI : IsPair s.heap TI (.ref i1) (.ref i2)) (hTO : ∃ a b, IsPair s.heap TO a b)
    (h1 : s.heap.IsListIter i1 l1 0) (h2 : s.heap.IsListIter i2 l2 0) (hl1 : s.heap.IsList l1 xs) (hl2 : s.heap.IsList l2 ys)
    (h : ∀ (h' : Heap) (as : List Addr), (∀ b o, b ∉ [z, TO, i1, i2] → s.heap.get? b = some o → h'.get? b = some o) → as.length = min xs.size ys.size → MadeZ xs ys h' s.heap.objs.size [s.heap.objs.size, z, TO, i1, i2] as →
      Q (.ref h'.objs.size) { s with heap := h'.push { cls := .type "tuple", data := .seq (as.map Value.ref).toArray } }) :
    wpAny (model prog w) A (call (.type "tuple") [.ref z]) Q E s := by
  refine callType_codes (Q₁ := fun obj s₁ => s₁.TypeIs obj "tuple" ∧ Q obj s₁) F.called_tuple (F.typeCall_tuple_1 _) F.entry_object_init
    (code_tuple_new_zip (A := A.in1) hh D hn hz hTI hTO h1 h2 hl1 hl2 fun h' as hk hl hG => ⟨⟨_, Heap.get?_push_size _ rfl, rfl⟩, h h' as hk hl hG⟩) fun obj s₁ h₁ => ?_
  exact ⟨h₁.1, F.args_object_init_2 obj _, object_init_meets F.called_tuple.init.lookup F.called_tuple.made (by decide) prog w A.in1 _ s₁ ⟨h₁.1, rfl, h₁.2⟩⟩
end
end DL
namespace DL
open PySem PySem.Spec PyProof.Rows L2
/-! list(zip(..)) as an expression -/
def layZ (H : Hp) : List (Addr × V × V) → Hp
  | [] => H
  | t :: r => layZ (upd H t.1 (.tup [t.2.1, t.2.2])) r
theorem layZ_ne : ∀ (ts : List (Addr × V × V)) (H : Hp) (b : Addr), (∀ t ∈ ts, t.1 ≠ b) → layZ H ts b = H b
  | [], _, _, _ => rfl
  | t :: r, H, b, h => (layZ_ne r _ b fun u hu => h u (List.mem_cons_of_mem _ hu)).trans (upd_ne (Ne.symm (h t (List.mem_cons_self ..))))
section
variable {X : Cx} {e e2 : Expr} {ta : TA}
theorem takeZ {pins : List (Addr × Obj)} {σ : L2.St} {H0 : Hp} {s : Shared} {h' : Heap} {tk : Nat} (I0 : Inv X pins σ H0 s) : ∀ (L : List (Addr × V × V)) (H1 : Hp), Inv X pins σ H1 { s with heap := h', toks := tk } → (L.map (·.1)).Nodup →
    (∀ t ∈ L, s.heap.objs.size ≤ t.1 ∧ H1 t.1 = none ∧ ∀ H2, ObjOk X.prog X.w H2 h' t.1 (.tup [t.2.1, t.2.2])) → Inv X pins σ (layZ H1 L) { s with heap := h', toks := tk }
  | [], H1, I1, _, _ => I1
  | t :: L, H1, I1, hn, h => by
    obtain ⟨hb, hnone, ok⟩ := h t (List.mem_cons_self ..)
    have I2 : Inv X pins σ (upd H1 t.1 (.tup [t.2.1, t.2.2])) { s with heap := h', toks := tk } := I1.take (h' := h') (t' := tk) (fun b ob _ e => e) (I0.fpOk hb hnone) (ok _)
    rw [List.map_cons, List.nodup_cons] at hn
    exact takeZ I0 L _ I2 hn.2 fun c hc => by
      obtain ⟨c1, c2, c3⟩ := h c (List.mem_cons_of_mem _ hc)
      exact ⟨c1, by rw [upd_ne (fun z => hn.1 (by rw [← z]; exact List.mem_map_of_mem hc))]; exact c2, c3⟩
def ZipsTo (X : Cx) (pins : List (Addr × Obj)) (σ : L2.St) (R : List V → List V → Hp → Prop) (x : Value) (s2 : Shared) : Prop :=
  ∃ (s1 : Shared) (h' : Heap) (xs ys : List V) (its its2 : List Value) (H1 : Hp) (z TI TO i1 i2 l1 l2 : Addr), s2 = { s1 with heap := h' } ∧ x = .ref z ∧ Inv X pins σ H1 s1 ∧ R xs ys H1 ∧ Vals xs its ∧ Vals ys its2 ∧ ZipApart z TI TO i1 i2 l1 l2 ∧
    IsZip h' z TI TO .none ∧ IsPair h' TI (.ref i1) (.ref i2) ∧ (∃ a b, IsPair h' TO a b) ∧ h'.IsListIter i1 l1 0 ∧ h'.IsListIter i2 l2 0 ∧ h'.IsList l1 its.toArray ∧ h'.IsList l2 its2.toArray ∧ (∀ c o, s1.heap.get? c = some o → h'.get? c = some o) ∧ ∀ b ∈ [z, TO, i1, i2], s1.heap.objs.size ≤ b
theorem zip_run {p pos : Pos} (hg : Gl X "zip") (hm : X.mg "zip" = none) (ha : PA X [e, e2] ta) (hs : starEach [e, e2] X.env = (false, eval e X.env) :: starEach [e2] X.env) (hpl : (backTo pos (starEach [e2] X.env)).any (·.1) = false)
    {pins : List (Addr × Obj)} {s : Shared} {σ : L2.St} {H : Hp} {R : List V → List V → Hp → Prop} (I : Inv X pins σ H s) (h : ta σ H fun vs H1 => ∃ a b xs ys, vs = [.ref a, .ref b] ∧ SqL X.K H1 a xs ∧ SqL X.K H1 b ys ∧ R xs ys H1) :
    wpAny (model X.prog X.w) X.A (eval (.Call (.Name "zip" p) [e, e2] [] pos) X.env) (ZipsTo X pins σ R) X.xe s := by
  refine Call_ (ld_blt I hg hm PyProof.Rows.boot_zip (PyProof.Rows.callWith_type1 (thn (ha.run pos pins s σ H _ I h) fun us s1 ⟨vs, H1, I1, r1, q1⟩ => ?_) hs hpl))
  obtain ⟨a, b, xs, ys, ex, hqx, hqy, q⟩ := q1
  subst ex
  cases r1 with
  | cons r rr =>
    cases rr with
    | cons r' rr =>
      cases rr
      cases r
      cases r'
      obtain ⟨its, rv, p1, _⟩ := I1.list hqx
      obtain ⟨its2, rv2, p2, _⟩ := I1.list hqy
      refine call_zip_2 p1.isList p2.isList fun h' hz hTI hTO h1 h2 hsz hk => ?_
      refine ⟨s1, h', xs, ys, its, its2, H1, s1.heap.objs.size + 4, s1.heap.objs.size + 2, s1.heap.objs.size + 3, s1.heap.objs.size, s1.heap.objs.size + 1, a, b, rfl, rfl, I1, q, rv, rv2, PySem.W.ktu_apart s1.heap.objs.size a b p1.lt p2.lt, hz, hTI, ⟨_, _, hTO⟩, h1, h2,
        p1.isList.at fun o e => hk _ o e, p2.isList.at fun o e => hk _ o e, hk, fun c hcm => ?_⟩
      have e' : c = s1.heap.objs.size + 4 ∨ c = s1.heap.objs.size + 3 ∨ c = s1.heap.objs.size ∨ c = s1.heap.objs.size + 1 := by simpa using hcm
      rcases e' with z | z | z | z
      · rw [z]; exact Nat.le_add_right _ _
      · rw [z]; exact Nat.le_add_right _ _
      · rw [z]; exact Nat.le_refl _
      · rw [z]; exact Nat.le_add_right _ _
theorem zip_took {pins : List (Addr × Obj)} {σ : L2.St} {H1 : Hp} {s1 : Shared} {h' h2 : Heap} {xs ys : List V} {its its2 : List Value} {z TO i1 i2 lo : Addr} {off as : List Addr} (I1 : Inv X pins σ H1 s1) (rv : Vals xs its) (rv2 : Vals ys its2) (hk : ∀ c o, s1.heap.get? c = some o → h'.get? c = some o)
    (hz : ∀ b ∈ [z, TO, i1, i2], s1.heap.objs.size ≤ b) (hk2 : ∀ b o, b ∉ [z, TO, i1, i2] → h'.get? b = some o → h2.get? b = some o) (hlo : s1.heap.objs.size ≤ lo) (hl : as.length = min its.toArray.size its2.toArray.size) (G : MadeZ its.toArray its2.toArray h2 lo off as) :
    Inv X pins σ (layZ H1 (as.zip (xs.zip ys))) { s1 with heap := h2 } ∧ (as.zip (xs.zip ys)).map (·.1) = as ∧ (as.zip (xs.zip ys)).map (·.2) = xs.zip ys ∧ as.Nodup ∧ ∀ t ∈ as.zip (xs.zip ys), H1 t.1 = none ∧ lo < t.1 := by
  have e1 := rv.length
  have e2 := rv2.length
  rw [List.size_toArray, List.size_toArray] at hl
  have el : as.length = (xs.zip ys).length := by rw [List.length_zip, hl, e1, e2]
  have m1 : (as.zip (xs.zip ys)).map (·.1) = as := List.map_fst_zip (by omega)
  have m2 : (as.zip (xs.zip ys)).map (·.2) = xs.zip ys := List.map_snd_zip (by omega)
  have nd : as.Nodup := List.Pairwise.imp (fun h => Nat.ne_of_lt h) G.rise
  have I2 : Inv X pins σ H1 { s1 with heap := h2 } := I1.kept (t' := s1.toks) fun b o e => hk2 b o (fun hm => Nat.lt_irrefl _ (Nat.lt_of_lt_of_le (Heap.lt_size e) (hz b hm))) (hk b o e)
  have tin : ∀ t ∈ as.zip (xs.zip ys), lo < t.1 := fun t ht => G.above t.1 (by rw [← m1]; exact List.mem_map_of_mem ht)
  have fr : ∀ t ∈ as.zip (xs.zip ys), H1 t.1 = none := fun t ht => I1.hok.fresh (Nat.le_trans hlo (Nat.le_of_lt (tin t ht)))
  refine ⟨takeZ (h' := h2) (tk := s1.toks) I1 _ H1 I2 (by rw [m1]; exact nd) fun t ht => ⟨Nat.le_trans hlo (Nat.le_of_lt (tin t ht)), fr t ht, fun H2 => ?_⟩, m1, m2, nd, fun t ht => ⟨fr t ht, tin t ht⟩⟩
  obtain ⟨j, hj⟩ := List.mem_iff_getElem?.mp ht
  rw [List.getElem?_zip_eq_some] at hj
  obtain ⟨ha, hxy⟩ := hj
  rw [List.getElem?_zip_eq_some] at hxy
  obtain ⟨hx, hy⟩ := hxy
  obtain ⟨u, hu, ru⟩ := rv.get hx
  obtain ⟨u2, hu2, ru2⟩ := rv2.get hy
  obtain ⟨u', u2', g1, g2, g3⟩ := G.pairs j _ ha
  have q1 : u' = u := by rw [List.getElem?_toArray, hu] at g1; exact (Option.some.inj g1).symm
  have q2 : u2' = u2 := by rw [List.getElem?_toArray, hu2] at g2; exact (Option.some.inj g2).symm
  subst q1 q2
  exact ⟨by show 2 ≤ sizeLine; decide, [u', u2'], .cons ru (.cons ru2 .nil), ⟨_, g3, rfl, _, rfl⟩⟩
def tLstZip (K : PySem.W.Frag) (ta : TA) : TE := fun σ H Q => ta σ H fun vs H1 => ∃ a b xs ys, vs = [.ref a, .ref b] ∧ SqL K H1 a xs ∧ SqL K H1 b ys ∧ xs.length ≤ 16000000 ∧
  ∀ ts : List (Addr × V × V), ts.map (·.2) = xs.zip ys → (ts.map (·.1)).Nodup → (∀ t ∈ ts, H1 t.1 = none) → ∀ q, layZ H1 ts q = none → Q (.ref q) (upd (layZ H1 ts) q (.lst (ts.map fun t => V.ref t.1)))
def tTupZip (K : PySem.W.Frag) (ta : TA) : TE := fun σ H Q => ta σ H fun vs H1 => ∃ a b xs ys, vs = [.ref a, .ref b] ∧ SqL K H1 a xs ∧ SqL K H1 b ys ∧ xs.length ≤ 16000000 ∧
  ∀ ts : List (Addr × V × V), ts.map (·.2) = xs.zip ys → (ts.map (·.1)).Nodup → (∀ t ∈ ts, H1 t.1 = none) → ∀ q, layZ H1 ts q = none → Q (.ref q) (upd (layZ H1 ts) q (.tup (ts.map fun t => V.ref t.1)))
theorem vals_refs : ∀ as : List Addr, Vals (as.map V.ref) (as.map Value.ref)
  | [] => .nil
  | _ :: as => .cons rfl (vals_refs as)
theorem pe_listZip {p p2 pos pos2 : Pos} (hc : X.calm = true) (hg : Gl X "list") (hm : X.mg "list" = none) (hg2 : Gl X "zip") (hm2 : X.mg "zip" = none) (ha : PA X [e, e2] ta)
    (hs : starEach [e, e2] X.env = (false, eval e X.env) :: starEach [e2] X.env := by rfl) (hpl : (backTo pos2 (starEach [e2] X.env)).any (·.1) = false := by rfl)
    (na : starEach [.Call (.Name "zip" p2) [e, e2] [] pos2] X.env = (false, eval (.Call (.Name "zip" p2) [e, e2] [] pos2) X.env) :: starEach [] X.env := by rfl) :
    PE X (.Call (.Name "list" p) [.Call (.Name "zip" p2) [e, e2] [] pos2] [] pos) (tLstZip X.K ta) := by
  refine ⟨fun pins s σ H Q I h => ?_⟩
  have h : ta σ H fun vs H1 => ∃ a b xs ys, vs = [.ref a, .ref b] ∧ SqL X.K H1 a xs ∧ SqL X.K H1 b ys ∧ (xs.length ≤ 16000000 ∧
    ∀ ts : List (Addr × V × V), ts.map (·.2) = xs.zip ys → (ts.map (·.1)).Nodup → (∀ t ∈ ts, H1 t.1 = none) → ∀ q, layZ H1 ts q = none → Q (.ref q) (upd (layZ H1 ts) q (.lst (ts.map fun t => V.ref t.1)))) := h
  refine Call_ (ld_blt I hg hm boot_list (PyProof.Rows.callWith_type1 (args_cons (thn (zip_run hg2 hm2 ha hs hpl (R := fun xs ys H1 => xs.length ≤ 16000000 ∧
    ∀ ts : List (Addr × V × V), ts.map (·.2) = xs.zip ys → (ts.map (·.1)).Nodup → (∀ t ∈ ts, H1 t.1 = none) → ∀ q, layZ H1 ts q = none → Q (.ref q) (upd (layZ H1 ts) q (.lst (ts.map fun t => V.ref t.1)))) I h) fun x s2 hz => args_nil ?_) na) na))
  obtain ⟨s1, h', xs, ys, its, its2, H1, z, TI, TO, i1, i2, l1, l2, rfl, rfl, I1, ⟨hl, q⟩, rv, rv2, D, hz, hTI, hTO, h1, h2, hl1, hl2, hk, hb⟩ := hz
  have e1 := rv.length
  refine call_list_zip (I1.ok.hd hc) D (by rw [sizeLine_eq, List.size_toArray, List.size_toArray]; omega) hz hTI hTO h1 h2 hl1 hl2 fun h3 acc c as hk2 hS hla hG hacc => ?_
  have hlo : s1.heap.objs.size ≤ h'.objs.size := Nat.le_of_lt (Nat.lt_of_le_of_lt (hb z (by simp)) (Heap.lt_size hz))
  obtain ⟨I2, m1, m2, nd, fr⟩ := zip_took I1 rv rv2 hk hb hk2 hlo hla hG
  have hq : layZ H1 (as.zip (xs.zip ys)) h'.objs.size = none := (layZ_ne _ _ _ fun t ht => Nat.ne_of_gt (fr t ht).2).trans (I1.hok.fresh hlo)
  have er : ((as.zip (xs.zip ys)).map fun t => V.ref t.1) = as.map V.ref := by
    conv => rhs; rw [← m1]
    rw [List.map_map]; rfl
  refine ⟨.ref h'.objs.size, _, I2.take (h' := h3) (t' := s1.toks) (fun b ob _ e => e) (I1.fpOk hlo hq) (show ObjOk X.prog X.w _ _ _ (.lst _) from ⟨?_, acc.toList, c, ?_, ?_⟩), rfl, q _ m2 (by rw [m1]; exact nd) (fun t ht => (fr t ht).1) _ hq⟩
  · rw [er, List.length_map, hla, List.size_toArray, List.size_toArray, sizeLine_eq]; omega
  · rw [er, hacc]; exact vals_refs as
  · rw [Array.toArray_toList]; exact hS
theorem pe_tupZip {p p2 pos pos2 : Pos} (hc : X.calm = true) (hg : Gl X "tuple") (hm : X.mg "tuple" = none) (hg2 : Gl X "zip") (hm2 : X.mg "zip" = none) (ha : PA X [e, e2] ta)
    (hs : starEach [e, e2] X.env = (false, eval e X.env) :: starEach [e2] X.env := by rfl) (hpl : (backTo pos2 (starEach [e2] X.env)).any (·.1) = false := by rfl)
    (na : starEach [.Call (.Name "zip" p2) [e, e2] [] pos2] X.env = (false, eval (.Call (.Name "zip" p2) [e, e2] [] pos2) X.env) :: starEach [] X.env := by rfl) :
    PE X (.Call (.Name "tuple" p) [.Call (.Name "zip" p2) [e, e2] [] pos2] [] pos) (tTupZip X.K ta) := by
  refine ⟨fun pins s σ H Q I h => ?_⟩
  have h : ta σ H fun vs H1 => ∃ a b xs ys, vs = [.ref a, .ref b] ∧ SqL X.K H1 a xs ∧ SqL X.K H1 b ys ∧ (xs.length ≤ 16000000 ∧
    ∀ ts : List (Addr × V × V), ts.map (·.2) = xs.zip ys → (ts.map (·.1)).Nodup → (∀ t ∈ ts, H1 t.1 = none) → ∀ q, layZ H1 ts q = none → Q (.ref q) (upd (layZ H1 ts) q (.tup (ts.map fun t => V.ref t.1)))) := h
  refine Call_ (ld_blt I hg hm boot_tuple (PyProof.Rows.callWith_type1 (args_cons (thn (zip_run hg2 hm2 ha hs hpl (R := fun xs ys H1 => xs.length ≤ 16000000 ∧
    ∀ ts : List (Addr × V × V), ts.map (·.2) = xs.zip ys → (ts.map (·.1)).Nodup → (∀ t ∈ ts, H1 t.1 = none) → ∀ q, layZ H1 ts q = none → Q (.ref q) (upd (layZ H1 ts) q (.tup (ts.map fun t => V.ref t.1)))) I h) fun x s2 hz => args_nil ?_) na) na))
  obtain ⟨s1, h', xs, ys, its, its2, H1, z, TI, TO, i1, i2, l1, l2, rfl, rfl, I1, ⟨hl, q⟩, rv, rv2, D, hz, hTI, hTO, h1, h2, hl1, hl2, hk, hb⟩ := hz
  have e1 := rv.length
  refine call_tuple_zip (I1.ok.hd hc) D (by rw [sizeLine_eq, List.size_toArray, List.size_toArray]; omega) hz hTI hTO h1 h2 hl1 hl2 fun h3 as hk2 hla hG => ?_
  have hlo : s1.heap.objs.size ≤ h'.objs.size := Nat.le_of_lt (Nat.lt_of_le_of_lt (hb z (by simp)) (Heap.lt_size hz))
  obtain ⟨I2, m1, m2, nd, fr⟩ := zip_took I1 rv rv2 hk hb hk2 hlo hla hG
  have er : ((as.zip (xs.zip ys)).map fun t => V.ref t.1) = as.map V.ref := by
    conv => rhs; rw [← m1]
    rw [List.map_map]; rfl
  refine ⟨.ref h3.objs.size, upd (layZ H1 (as.zip (xs.zip ys))) h3.objs.size (.tup ((as.zip (xs.zip ys)).map fun t => V.ref t.1)), I2.laid (t' := s1.toks) (fun c o e => Heap.get?_push_of_some _ e) (Nat.le_refl _) (show ObjOk X.prog X.w _ _ _ (.tup _) from ⟨?_, as.map Value.ref, ?_, ?_⟩), rfl, q _ m2 (by rw [m1]; exact nd) (fun t ht => (fr t ht).1) _ (I2.hok.fresh (Nat.le_refl _))⟩
  · rw [er, List.length_map, hla, List.size_toArray, List.size_toArray, sizeLine_eq]; omega
  · rw [er]; exact vals_refs as
  · exact IsTup.new _ _
theorem pe_listZipR {K : PySem.W.Frag} {p p2 pos pos2 : Pos} (hK : X.K = K) (hc : X.calm = true) (hg : Gl X "list") (hm : X.mg "list" = none) (hg2 : Gl X "zip") (hm2 : X.mg "zip" = none) (ha : PA X [e, e2] ta)
    (hs : starEach [e, e2] X.env = (false, eval e X.env) :: starEach [e2] X.env := by rfl) (hpl : (backTo pos2 (starEach [e2] X.env)).any (·.1) = false := by rfl)
    (na : starEach [.Call (.Name "zip" p2) [e, e2] [] pos2] X.env = (false, eval (.Call (.Name "zip" p2) [e, e2] [] pos2) X.env) :: starEach [] X.env := by rfl) :
    PE X (.Call (.Name "list" p) [.Call (.Name "zip" p2) [e, e2] [] pos2] [] pos) (tLstZip K ta) := hK ▸ pe_listZip hc hg hm hg2 hm2 ha hs hpl na
theorem pe_tupZipR {K : PySem.W.Frag} {p p2 pos pos2 : Pos} (hK : X.K = K) (hc : X.calm = true) (hg : Gl X "tuple") (hm : X.mg "tuple" = none) (hg2 : Gl X "zip") (hm2 : X.mg "zip" = none) (ha : PA X [e, e2] ta)
    (hs : starEach [e, e2] X.env = (false, eval e X.env) :: starEach [e2] X.env := by rfl) (hpl : (backTo pos2 (starEach [e2] X.env)).any (·.1) = false := by rfl)
    (na : starEach [.Call (.Name "zip" p2) [e, e2] [] pos2] X.env = (false, eval (.Call (.Name "zip" p2) [e, e2] [] pos2) X.env) :: starEach [] X.env := by rfl) :
    PE X (.Call (.Name "tuple" p) [.Call (.Name "zip" p2) [e, e2] [] pos2] [] pos) (tTupZip K ta) := hK ▸ pe_tupZip hc hg hm hg2 hm2 ha hs hpl na
end
section
variable {K : PySem.W.Frag} {S : Option (Addr × Addr)} {ρ : Env} {α β : Type} {f : α → D} {g : β → D} {tr : TA}
theorem gr_layZ : ∀ (ts : List (Addr × V × V)) {B H : Hp}, Evl.Ex B H → (ts.map (·.1)).Nodup → (∀ t ∈ ts, H t.1 = none) → Gr B H (layZ B ts) (layZ H ts)
  | [], B, H, e, _, _ => Gr.refl e
  | t :: r, B, H, e, hn, h => by
    rw [List.map_cons, List.nodup_cons] at hn
    have g1 := Gr.laid e (.tup [t.2.1, t.2.2]) (h t (List.mem_cons_self ..))
    refine g1.trans (gr_layZ r g1.sub hn.2 fun u hu => ?_)
    rw [upd_ne (fun z => hn.1 (by rw [← z]; exact List.mem_map_of_mem hu))]
    exact h u (List.mem_cons_of_mem _ hu)
theorem layZ_at : ∀ (ts : List (Addr × V × V)) {H : Hp}, (ts.map (·.1)).Nodup → ∀ t ∈ ts, layZ H ts t.1 = some (.tup [t.2.1, t.2.2])
  | [], _, _, _, h => nomatch h
  | u :: r, H, hn, t, h => by
    rw [List.map_cons, List.nodup_cons] at hn
    rcases List.mem_cons.mp h with rfl | h
    · exact (layZ_ne r _ _ fun v hv z => hn.1 (by rw [← z]; exact List.mem_map_of_mem hv)).trans upd_same
    · exact layZ_at r hn.2 t h
theorem rpAll_of {B : Hp} : ∀ {vs : List V} {ds : List D}, vs.length = ds.length → (∀ (j : Nat) v d, vs[j]? = some v → ds[j]? = some d → Rp K B v d) → RpAll K B vs ds
  | [], [], _, _ => .nil
  | v :: vs, d :: ds, h, q => .cons (q 0 v d rfl rfl) (rpAll_of (by simpa using h) fun j v d a b => q (j + 1) v d a b)
  | [], _ :: _, h, _ => by simp at h
  | _ :: _, [], h, _ => by simp at h
theorem zip_rp {B1 : Hp} {xs ys : List V} {ds es : List D} {ts : List (Addr × V × V)} (ra : RpAll K B1 xs ds) (ra' : RpAll K B1 ys es) (ex : Evl.Ex B1 (layZ B1 ts)) (m2 : ts.map (·.2) = xs.zip ys) (nd : (ts.map (·.1)).Nodup) :
    RpAll K (layZ B1 ts) (ts.map fun t => V.ref t.1) (zipD ds es) := by
  have hl := congrArg List.length m2
  rw [List.length_map, List.length_zip] at hl
  refine rpAll_of (by simp [zipD, hl, ra.length, ra'.length]) fun j v d hv hd => ?_
  rw [List.getElem?_map] at hv
  obtain ⟨t, ht, rfl⟩ := Option.map_eq_some_iff.mp hv
  unfold zipD at hd
  rw [List.getElem?_map] at hd
  obtain ⟨q, hq, rfl⟩ := Option.map_eq_some_iff.mp hd
  rw [List.getElem?_zip_eq_some] at hq
  have h2 : (xs.zip ys)[j]? = some t.2 := by rw [← m2, List.getElem?_map, ht]; rfl
  rw [List.getElem?_zip_eq_some] at h2
  obtain ⟨v1, hv1, rv1⟩ := ra.getD hq.1
  obtain ⟨v2, hv2, rv2⟩ := ra'.getD hq.2
  rw [h2.1] at hv1
  rw [h2.2] at hv2
  cases hv1
  cases hv2
  exact .tup (layZ_at ts nd t (List.mem_of_getElem? ht)) (.cons (rv1.mono ex) (.cons (rv2.mono ex) .nil))
theorem ev_lstZip {xs : List α} {ys : List β} (h : EvA K S tr ρ [.list (xs.map f), .list (ys.map g)]) (hl : xs.length ≤ 16000000) : EvO K S (tLstZip K tr) ρ (oL (fun p : α × β => .tuple [f p.1, g p.2]) (xs.zip ys)) := fun B H Fr σ R w k => h B H Fr σ _ w fun vs B1 H1 g1 r => by
  cases r with
  | cons r t =>
    cases t with
    | cons r' t =>
      cases t
      cases r with | lst hl1 ra =>
      cases r' with | lst hl2 ra' =>
      rename_i a vx b vy
      refine ⟨_, _, vx, vy, rfl, SqL.of (g1.sub _ _ hl1), SqL.of (g1.sub _ _ hl2), by rw [ra.length, List.length_map]; exact hl, fun ts m2 nd fr q hq => ?_⟩
      have gz := gr_layZ ts (B := B1) g1.sub nd fr
      have rp := zip_rp (ts := ts) ra ra' gz.b m2 nd
      have q2 := Ow.newList (S := S) (H := upd (layZ H1 ts) q (.lst (ts.map fun t => V.ref t.1))) (fresh_of gz.sub hq) upd_same rp
      have e : (zipD (xs.map f) (ys.map g)).map O.d = ((xs.zip ys).map fun p => O.d (.tuple [f p.1, g p.2])) := by
        unfold zipD
        rw [List.zip_map, List.map_map, List.map_map]
        rfl
      rw [e] at q2
      exact k _ (fun a => a = q) _ _ ((g1.trans gz).trans (Gr.made gz.sub _ hq)) (by simpa [oL] using q2) fun a e => e ▸ fresh_of (g1.h.trans gz.h) hq
theorem ev_tupZip {xs : List α} {ys : List β} (h : EvA K S tr ρ [.list (xs.map f), .list (ys.map g)]) (hl : xs.length ≤ 16000000) : EvD K S (tTupZip K tr) ρ (tM (fun p : α × β => .tuple [f p.1, g p.2]) (xs.zip ys)) := .mk fun B H Fr σ R w k => h B H Fr σ _ w fun vs B1 H1 g1 r => by
  cases r with
  | cons r t =>
    cases t with
    | cons r' t =>
      cases t
      cases r with | lst hl1 ra =>
      cases r' with | lst hl2 ra' =>
      rename_i a vx b vy
      refine ⟨_, _, vx, vy, rfl, SqL.of (g1.sub _ _ hl1), SqL.of (g1.sub _ _ hl2), by rw [ra.length, List.length_map]; exact hl, fun ts m2 nd fr q hq => ?_⟩
      have gz := gr_layZ ts (B := B1) g1.sub nd fr
      have rp := zip_rp (ts := ts) ra ra' gz.b m2 nd
      have e : zipD (xs.map f) (ys.map g) = ((xs.zip ys).map fun p => .tuple [f p.1, g p.2]) := by
        unfold zipD
        rw [List.zip_map, List.map_map]
        rfl
      rw [e] at rp
      exact k _ (upd (layZ B1 ts) q (.tup _)) _ ((g1.trans gz).trans (Gr.laid gz.sub _ hq)) (.tup upd_same (rp.mono (Evl.Ex.new (fresh_of gz.sub hq))))
end
end DL
namespace DL
open PySem PySem.Spec PyProof.Rows L2
theorem pg_unlR {X : Cx} {K : PySem.W.Frag} {es : List Expr} {kk : Nat} {pos : Pos} {t : TGs} {n : Nat} (hK : X.K = K) (hc : X.calm = true) (h : PGs X es t) (hn : (assignEach es X.env).length = n := by rfl) (hst : (assignEach es X.env).findIdx? (·.1) = none := by rfl) : PG X (.Tuple es kk pos) (gUnl K n t) := hK ▸ pg_unl hc h hn hst
section
variable {K : PySem.W.Frag} {S : Option (Addr × Addr)} {ρ ρ2 : Env} {α : Type} [Inhabited α] {f : α → D}
theorem gt_unl {n : Nat} {gs : TGs} {ds : List D} {js : List Nat} (hs : GsD K S gs ρ ds ρ2 js) (hn : ds.length = n) : GtD K S (gUnl K n gs) ρ (.list ds) ρ2 js := fun B H Fr σ x Q w r k => by
  cases r with
  | lst h ra => exact ⟨_, _, rfl, SqL.of (w.ex _ _ h), by rw [ra.length, hn], hs B H Fr σ _ _ w ra k⟩
theorem gt_unl2 {gs : TGs} {xs : List α} {js : List Nat} (hl : xs.length = 2) (hs : GsD K S gs ρ [f (gi xs (0 : Int)), f (gi xs (1 : Int))] ρ2 js) : GtD K S (gUnl K 2 gs) ρ (lM f xs) ρ2 js := by
  match xs, hl with
  | [a, b], _ => exact gt_unl hs rfl
theorem gt_unl3 {gs : TGs} {xs : List α} {js : List Nat} (hl : xs.length = 3) (hs : GsD K S gs ρ [f (gi xs (0 : Int)), f (gi xs (1 : Int)), f (gi xs (2 : Int))] ρ2 js) : GtD K S (gUnl K 3 gs) ρ (lM f xs) ρ2 js := by
  match xs, hl with
  | [a, b, c], _ => exact gt_unl hs rfl
end
end DL

set_option Elab.async false
set_option linter.all false
set_option maxRecDepth 100000
set_option maxHeartbeats 2000000
/-! DLC2: [te for g in wi if tt for g1 in wi1 if tt1] -/
namespace DL
open PySem PySem.Spec PyProof.Rows L2
open Evl (Ex Ex.refl Ex.trans Ex.new Ex.mut)
section
variable {K : PySem.W.Frag} {S : Option (Addr × Addr)} {ρ : Env} {te : TE} {tt tt1 : TT}
def fm2 {α β γ : Type} (xs : List α) (p : α → Bool) (ys : α → List β) (q : α → β → Bool) (f : α → β → γ) : List γ := (xs.filter p).flatMap fun x => ((ys x).filter (q x)).map (f x)
theorem fm2_take {α β γ : Type} {xs : List α} {p : α → Bool} {ys : α → List β} {q : α → β → Bool} {f : α → β → γ} {i : Nat} {x : α} (h : xs[i]? = some x) : fm2 (xs.take (i + 1)) p ys q f = fm2 (xs.take i) p ys q f ++ (if p x then ((ys x).filter (q x)).map (f x) else []) := by
  unfold fm2
  rw [List.take_add_one, h]
  simp only [Option.toList_some, List.filter_append, List.flatMap_append]
  congr 1
  simp only [List.filter_cons, List.filter_nil]
  split
  · simp
  · rfl
theorem fm2_len {α β γ : Type} {xs : List α} {p : α → Bool} {ys : α → List β} {q : α → β → Bool} {f : α → β → γ} {i j : Nat} {x : α} {y : β} (h : xs[i]? = some x) (hp : p x = true) (h1 : (ys x)[j]? = some y) (hq : q x y = true) :
    (fm2 (xs.take i) p ys q f ++ (((ys x).take j).filter (q x)).map (f x)).length < (fm2 xs p ys q f).length := by
  have e : fm2 xs p ys q f = fm2 (xs.take (i + 1)) p ys q f ++ fm2 (xs.drop (i + 1)) p ys q f := by
    conv => lhs; rw [← List.take_append_drop (i + 1) xs]
    unfold fm2
    rw [List.filter_append, List.flatMap_append]
  rw [e, fm2_take h, if_pos hp]
  have e2 : ((ys x).filter (q x)) = ((ys x).take (j + 1)).filter (q x) ++ ((ys x).drop (j + 1)).filter (q x) := by
    rw [← List.filter_append, List.take_append_drop]
  rw [e2, List.take_add_one, h1]
  simp only [Option.toList_some, List.filter_append, List.map_append, List.length_append, List.filter_cons, List.filter_nil, hq, if_true, List.map_cons, List.map_nil, List.length_cons, List.length_nil]
  omega
theorem ev_lc2 {α β : Type} {wi wi1 : TI} {g g1 : TG} {vs vs1 : List Nat} (xs : List α) (e : α → D) (p : α → Bool) (ys : α → List β) (e1 : α → β → D) (q : α → β → Bool) (f : α → β → D) (hi : EvI K S wi ρ (xs.map e))
    (hz : (fm2 xs p ys q f).length ≤ sizeLine)
    (hb : ∀ x, x ∈ xs → ∃ ρ2 js, GtD K S g (wipeE ρ vs) (e x) ρ2 js ∧ (∀ j ∈ js, j ∈ vs) ∧ EvT K S tt ρ2 (p x) ∧ (p x = true → EvI K S wi1 ρ2 ((ys x).map (e1 x)) ∧ ∀ y, y ∈ ys x → ∃ ρ3 js1, GtD K S g1 (wipeE ρ2 vs1) (e1 x y) ρ3 js1 ∧ (∀ j ∈ js1, j ∈ vs1) ∧ EvT K S tt1 ρ3 (q x y) ∧ (q x y = true → EvD K S te ρ3 (f x y)))) :
    EvO K S (tLc2 wi g tt wi1 g1 tt1 te vs vs1) ρ (.l ((fm2 xs p ys q f).map O.d)) := fun B H Fr σ R w k => hi B H Fr σ _ w fun J B1 H1 gg1 it hz0 => by
  intro Dl hD
  have hB1 := fresh_of gg1.sub hD
  refine ⟨fun i m H' => m = xs.length - i ∧ i ≤ xs.length ∧ ∃ B' acc, Gr B1 H1 B' H' ∧ B' Dl = none ∧ H' Dl = some (.lst acc) ∧ RpAll K B' acc (fm2 (xs.take i) p ys q f),
    ⟨xs.length, by simp, Nat.zero_le _, B1, [], Gr.made gg1.sub _ hD, hB1, upd_same, by simpa [fm2] using RpAll.nil⟩, ?_⟩
  rintro i m H' ⟨rfl, hle, B', acc, g2, hBD, hHD, ra⟩
  obtain ⟨go, stop⟩ := it B' H' g2.b g2.sub i
  by_cases hlt : i < xs.length
  · have hx := List.getElem?_eq_getElem hlt
    obtain ⟨go1, yl⟩ := go (e xs[i]) (by rw [List.getElem?_map, hx]; rfl)
    refine .inr ⟨go1, fun H3 => i + 1 ≤ xs.length ∧ ∃ B' acc, Gr B1 H1 B' H3 ∧ B' Dl = none ∧ H3 Dl = some (.lst acc) ∧ RpAll K B' acc (fm2 (xs.take (i + 1)) p ys q f), fun H3 q => ⟨xs.length - (i + 1), by omega, rfl, q.1, q.2⟩, fun v H3 hy => ?_⟩
    obtain ⟨B3, g3, rv⟩ := yl v H3 hy
    obtain ⟨ρ2, js, hg, hjs, ht, he⟩ := hb xs[i] (List.getElem_mem hlt)
    have g23 := g2.trans g3
    have hB3 : B3 Dl = none := g3.out hBD (by rw [hHD]; simp)
    have hH3 : H3 Dl = some (.lst acc) := g3.h _ _ hHD
    have w3 : Wd K S B3 H3 (fun a => Fr a ∨ a = Dl) (wipe σ vs) (wipeE ρ vs) := ((w.grow gg1).growAdd g23 (G := fun a => a = Dl) (fun a ha => by subst ha; exact ⟨hB3, by rw [hH3]; simp⟩) (fun a ha => by subst ha; exact hD)).wipe vs
    refine hg B3 H3 _ _ v _ w3 rv fun σ2 w4 l4 eq => ⟨?_, ?_⟩
    · exact wipe_same eq (l4.trans (wipe_length σ vs)) hjs
    · refine ht B3 H3 _ σ2 _ w4 fun B4 H4 g4 => ?_
      have hB4 : B4 Dl = none := g4.out hB3 (by rw [hH3]; simp)
      have hH4 : H4 Dl = some (.lst acc) := g4.h _ _ hH3
      have g24 := g23.trans g4
      cases hp : p xs[i] with
      | false =>
        refine ⟨hlt, B4, acc, g24, hB4, hH4, ?_⟩
        rw [fm2_take hx, hp]
        simpa using (ra.mono (g3.b.trans g4.b))
      | true =>
        obtain ⟨hi1, hb1⟩ := he hp
        refine hi1 B4 H4 _ σ2 _ (w4.grow g4) fun J1 B5 H5 g5 it1 hz1 => ?_
        have hB5 : B5 Dl = none := g5.out hB4 (by rw [hH4]; simp)
        have hH5 : H5 Dl = some (.lst acc) := g5.h _ _ hH4
        refine ⟨fun j m H' => m = (ys xs[i]).length - j ∧ j ≤ (ys xs[i]).length ∧ ∃ B' acc, Wd K S B' H' (fun a => Fr a ∨ a = Dl) σ2 ρ2 ∧ Ex B5 B' ∧ Gr B1 H1 B' H' ∧ H' Dl = some (.lst acc) ∧ RpAll K B' acc (fm2 (xs.take i) p ys q f ++ (((ys xs[i]).take j).filter (q xs[i])).map (f xs[i])),
          ⟨(ys xs[i]).length, by simp, Nat.zero_le _, B5, acc, (w4.grow g4).grow g5, Ex.refl _, g24.trans g5, hH5, by simpa using ra.mono ((g3.b.trans g4.b).trans g5.b)⟩, ?_⟩
        rintro j m H6 ⟨rfl, hle1, B6, acc6, w6, x6, g6, hH6, ra6⟩
        have hB6 : B6 Dl = none := (w6.fr Dl (.inr rfl)).1
        obtain ⟨go2, stop2⟩ := it1 B6 H6 x6 g6.sub j
        by_cases hlt1 : j < (ys xs[i]).length
        · have hx1 := List.getElem?_eq_getElem hlt1
          obtain ⟨go3, yl1⟩ := go2 (e1 xs[i] (ys xs[i])[j]) (by rw [List.getElem?_map, hx1]; rfl)
          refine .inr ⟨go3, fun H7 => j + 1 ≤ (ys xs[i]).length ∧ ∃ B' acc, Wd K S B' H7 (fun a => Fr a ∨ a = Dl) σ2 ρ2 ∧ Ex B5 B' ∧ Gr B1 H1 B' H7 ∧ H7 Dl = some (.lst acc) ∧ RpAll K B' acc (fm2 (xs.take i) p ys q f ++ (((ys xs[i]).take (j + 1)).filter (q xs[i])).map (f xs[i])), fun H7 z => ⟨(ys xs[i]).length - (j + 1), by omega, rfl, z.1, z.2⟩, fun v1 H7 hy1 => ?_⟩
          obtain ⟨B7, g7, rv1⟩ := yl1 v1 H7 hy1
          obtain ⟨ρ3, js1, hg1, hjs1, ht1, he1⟩ := hb1 _ (List.getElem_mem hlt1)
          have w7 := (w6.grow g7).wipe vs1
          refine hg1 B7 H7 _ _ v1 _ w7 rv1 fun σ3 w8 l8 eq8 => ⟨wipe_same eq8 (l8.trans (wipe_length σ2 vs1)) hjs1, ?_⟩
          refine ht1 B7 H7 _ σ3 _ w8 fun B8 H8 g8 => ?_
          have g78 := g7.trans g8
          have hH8 : H8 Dl = some (.lst acc6) := g78.h _ _ hH6
          cases hq : q xs[i] (ys xs[i])[j] with
          | false =>
            refine ⟨hlt1, B8, acc6, w6.grow g78, x6.trans g78.b, g6.trans g78, hH8, ?_⟩
            rw [take_filter hx1, hq]
            simpa using ra6.mono g78.b
          | true =>
            refine (he1 hq).use (w8.grow g8) fun u B9 H9 g9 r9 => ?_
            have g79 := g78.trans g9
            have hH9 : H9 Dl = some (.lst acc6) := g9.h _ _ hH8
            have w9 := w6.grow g79
            have hB9 : B9 Dl = none := (w9.fr Dl (.inr rfl)).1
            refine ⟨acc6, hH9, ?_, hlt1, B9, acc6 ++ [u], ?_, x6.trans g79.b, ?_, upd_same, ?_⟩
            · have h1 := ra6.length
              have h2 := fm2_len (f := f) hx hp hx1 hq
              omega
            · exact w9.chg (fun a ha => upd_ne ha) (fun a ha => by subst ha; rw [upd_same]; simp)
            · have g10 := g6.trans g79
              refine ⟨g10.b, fun a u h => ?_, fun a u h => ?_, g10.new⟩
              · rw [upd_ne (ne_of_none h hD)]; exact g10.h a u h
              · rw [upd_ne (ne_of_none h hB9)]; exact g10.sub a u h
            · rw [take_filter hx1, hq, ← List.append_assoc]
              exact (ra6.mono g79.b).append (.cons r9 .nil)
        · have hj' : j = (ys xs[i]).length := by omega
          subst hj'
          refine .inl ⟨stop2 (by simp), hlt, B6, acc6, g6, hB6, hH6, ?_⟩
          rw [fm2_take hx, hp, if_pos rfl]
          rw [List.take_length] at ra6
          exact ra6
  · have hi' : i = xs.length := by omega
    subst hi'
    refine .inl ⟨stop (by simp), ?_⟩
    rw [List.take_length] at ra
    refine k _ (fun a => a = Dl) B' H' (gg1.trans g2) (Ow.newList hBD hHD ra) fun a z => z ▸ fresh_of gg1.h hD
/-- the items of a type -/
theorem ev_lc2T {α β γ : Type} {wi wi1 : TI} {g g1 : TG} {vs vs1 : List Nat} (toD : γ → D) (xs : List α) (e : α → D) (p : α → Bool) (ys : α → List β) (e1 : α → β → D) (q : α → β → Bool) (f : α → β → γ) (hi : EvI K S wi ρ (xs.map e))
    (hz : (List.flatMap (fun x => List.map (f x) (List.filter (q x) (ys x))) (List.filter p xs)).length ≤ 16000000)
    (hb : ∀ x, x ∈ xs → ∃ ρ2 js, GtD K S g (wipeE ρ vs) (e x) ρ2 js ∧ (∀ j ∈ js, j ∈ vs) ∧ EvT K S tt ρ2 (p x) ∧ (p x = true → EvI K S wi1 ρ2 ((ys x).map (e1 x)) ∧ ∀ y, y ∈ ys x → ∃ ρ3 js1, GtD K S g1 (wipeE ρ2 vs1) (e1 x y) ρ3 js1 ∧ (∀ j ∈ js1, j ∈ vs1) ∧ EvT K S tt1 ρ3 (q x y) ∧ (q x y = true → EvD K S te ρ3 (toD (f x y))))) :
    EvO K S (tLc2 wi g tt wi1 g1 tt1 te vs vs1) ρ (oL toD (List.flatMap (fun x => List.map (f x) (List.filter (q x) (ys x))) (List.filter p xs))) := by
  have em : (fm2 xs p ys q fun x y => toD (f x y)) = (fm2 xs p ys q f).map toD := by
    unfold fm2
    rw [List.map_flatMap]
    simp [List.map_map, Function.comp_def]
  have hs : (16000000 : Nat) ≤ sizeLine := by decide
  have hz : (fm2 xs p ys q f).length ≤ 16000000 := hz
  have := ev_lc2 (te := te) xs e p ys e1 q (fun x y => toD (f x y)) hi (by rw [em, List.length_map]; omega) hb
  refine ev_is this ?_
  rw [em]
  simp [oL, List.map_map, Function.comp_def, fm2]
/-- a test behind the second source alone -/
theorem ev_lc2Q {α β γ : Type} {wi wi1 : TI} {g g1 : TG} {vs vs1 : List Nat} (toD : γ → D) (xs : List α) (e : α → D) (ys : α → List β) (e1 : α → β → D) (q : α → β → Bool) (f : α → β → γ) (hi : EvI K S wi ρ (xs.map e))
    (hz : (List.flatMap (fun x => List.map (f x) (List.filter (q x) (ys x))) xs).length ≤ 16000000)
    (hb : ∀ x, x ∈ xs → ∃ ρ2 js, GtD K S g (wipeE ρ vs) (e x) ρ2 js ∧ (∀ j ∈ js, j ∈ vs) ∧ EvI K S wi1 ρ2 ((ys x).map (e1 x)) ∧ ∀ y, y ∈ ys x → ∃ ρ3 js1, GtD K S g1 (wipeE ρ2 vs1) (e1 x y) ρ3 js1 ∧ (∀ j ∈ js1, j ∈ vs1) ∧ EvT K S tt1 ρ3 (q x y) ∧ (q x y = true → EvD K S te ρ3 (toD (f x y)))) :
    EvO K S (tLc2 wi g tYes wi1 g1 tt1 te vs vs1) ρ (oL toD (List.flatMap (fun x => List.map (f x) (List.filter (q x) (ys x))) xs)) := by
  have ef : xs.filter (fun _ => true) = xs := List.filter_eq_self.mpr (by simp)
  have := ev_lc2T (te := te) toD xs e (fun _ => true) ys e1 q f hi (by rw [ef]; exact hz) fun x hx => by
    obtain ⟨ρ2, js, h1, h2, h3, h4⟩ := hb x hx
    exact ⟨ρ2, js, h1, h2, et_yes, fun _ => ⟨h3, h4⟩⟩
  rwa [ef] at this
/-- no tests -/
theorem ev_lc2M {α β γ : Type} {wi wi1 : TI} {g g1 : TG} {vs vs1 : List Nat} (toD : γ → D) (xs : List α) (e : α → D) (ys : α → List β) (e1 : α → β → D) (f : α → β → γ) (hi : EvI K S wi ρ (xs.map e))
    (hz : (List.flatMap (fun x => List.map (f x) (ys x)) xs).length ≤ 16000000)
    (hb : ∀ x, x ∈ xs → ∃ ρ2 js, GtD K S g (wipeE ρ vs) (e x) ρ2 js ∧ (∀ j ∈ js, j ∈ vs) ∧ EvI K S wi1 ρ2 ((ys x).map (e1 x)) ∧ ∀ y, y ∈ ys x → ∃ ρ3 js1, GtD K S g1 (wipeE ρ2 vs1) (e1 x y) ρ3 js1 ∧ (∀ j ∈ js1, j ∈ vs1) ∧ EvD K S te ρ3 (toD (f x y))) :
    EvO K S (tLc2 wi g tYes wi1 g1 tYes te vs vs1) ρ (oL toD (List.flatMap (fun x => List.map (f x) (ys x)) xs)) := by
  have ef : ∀ x, (ys x).filter ((fun _ _ => true : α → β → Bool) x) = ys x := fun x => List.filter_eq_self.mpr (by simp)
  have := ev_lc2Q (te := te) toD xs e ys e1 (fun _ _ => true) f hi (by simp only [ef]; exact hz) fun x hx => by
    obtain ⟨ρ2, js, h1, h2, h3, h4⟩ := hb x hx
    exact ⟨ρ2, js, h1, h2, h3, fun y hy => by
      obtain ⟨ρ3, js1, q1, q2, q3⟩ := h4 y hy
      exact ⟨ρ3, js1, q1, q2, et_yes, fun _ => q3⟩⟩
  simp only [ef] at this
  exact this
end
end DL

set_option Elab.async false
set_option linter.all false
set_option maxRecDepth 100000
set_option maxHeartbeats 2000000
/-! VA: what is to be shown of a def, in plain words (loops told by recursion) -/
namespace DL
open PySem PySem.Spec PyProof.Rows L2
/-- a loop: body x s next break; behind it K -/
def wpFor {α σ : Type} (body : α → σ → (σ → Prop) → (σ → Prop) → Prop) : List α → σ → (σ → Prop) → Prop
  | [], s, K => K s
  | x :: xs, s, K => body x s (fun s' => wpFor body xs s' K) K
/-- a while: step s next end; so many turns at most -/
def wpWhile {σ : Type} (step : σ → (σ → Prop) → (σ → Prop) → Prop) : Nat → σ → (σ → Prop) → Prop
  | 0, _, _ => False
  | n + 1, s, K => step s (fun s' => wpWhile step n s' K) K
theorem wpFor_ind {α σ : Type} {body : α → σ → (σ → Prop) → (σ → Prop) → Prop} {K : σ → Prop} (I : List α → σ → Prop) (h1 : ∀ x xs s N, I (x :: xs) s → (∀ s', I xs s' → N s') → body x s N K) (h0 : ∀ s, I [] s → K s) :
    ∀ (xs : List α) (s : σ), I xs s → wpFor body xs s K
  | [], s, h => h0 s h
  | x :: xs, s, h => h1 x xs s _ h fun s' h' => wpFor_ind I h1 h0 xs s' h'
/-- I of the items that are done, the item, what is left -/
theorem wpFor_inv {α σ : Type} {body : α → σ → (σ → Prop) → (σ → Prop) → Prop} {K : σ → Prop} (all : List α) (I : List α → σ → Prop) (s : σ) (hI : I [] s) (h1 : ∀ don x rest s N, all = don ++ x :: rest → I don s → (∀ s', I (don ++ [x]) s' → N s') → body x s N K) (h0 : ∀ s, I all s → K s) :
    wpFor body all s K := by
  have key : ∀ (xs don : List α) (s : σ), all = don ++ xs → I don s → wpFor body xs s K := by
    intro xs
    induction xs with
    | nil => intro don s e h; rw [List.append_nil] at e; subst e; exact h0 s h
    | cons x xs ih => intro don s e h; exact h1 don x xs s _ e h fun s' h' => ih (don ++ [x]) s' (by rw [e]; simp) h'
  exact key all [] s rfl hI
/-- a loop that does one step g at each item -/
theorem wpFor_fold {α σ : Type} {body : α → σ → (σ → Prop) → (σ → Prop) → Prop} {K : σ → Prop} (g : σ → α → σ) (P : List α → σ → Prop) (all : List α) (s : σ) (hP : P [] s) (h1 : ∀ don x rest s N, all = don ++ x :: rest → P don s → (P (don ++ [x]) (g s x) → N (g s x)) → body x s N K) (h0 : P all (all.foldl g s) → K (all.foldl g s)) (hs : ∀ don x s, P don s → P (don ++ [x]) (g s x)) :
    wpFor body all s K := by
  refine wpFor_inv all (fun don s' => s' = don.foldl g s ∧ P don s') s ⟨rfl, hP⟩ (fun don x rest s' N e ⟨e1, p⟩ n => ?_) fun s' ⟨e1, p⟩ => ?_
  · exact h1 don x rest s' N e p fun q => n _ ⟨by rw [List.foldl_append, ← e1]; rfl, q⟩
  · subst e1; exact h0 p
theorem wpWhile_inv {σ : Type} {step : σ → (σ → Prop) → (σ → Prop) → Prop} {K : σ → Prop} (I : σ → Prop) (m : σ → Nat) (h : ∀ s N, I s → (∀ s', I s' → m s' < m s → N s') → step s N K) : ∀ (n : Nat) (s : σ), I s → m s < n → wpWhile step n s K
  | 0, s, _, h0 => absurd h0 (Nat.not_lt_zero _)
  | n + 1, s, hs, hn => h s _ hs fun s' hs' hm => wpWhile_inv I m h n s' hs' (by omega)
theorem wpWhile_ex {σ : Type} {step : σ → (σ → Prop) → (σ → Prop) → Prop} {K : σ → Prop} (I : σ → Prop) (m : σ → Nat) (s : σ) (hs : I s) (h : ∀ s N, I s → (∀ s', I s' → m s' < m s → N s') → step s N K) : ∃ n, wpWhile step n s K := ⟨m s + 1, wpWhile_inv I m h _ s hs (Nat.lt_succ_self _)⟩
/-- None or a value -/
def encQ {α : Type} (f : α → D) : Option α → D
  | none => .none
  | some x => f x
def encU (_ : Unit) : D := .none
/-- the size of a thing that is shown: the rule for repr -/
abbrev Sx (d : D) : Prop := Sz 16000000 d
abbrev Sxi (d : D) : Prop := Sz 500 d
abbrev p5 {α β γ δ ε : Type} (f : α → D) (g : β → D) (h : γ → D) (k : δ → D) (l : ε → D) (x : α × β × γ × δ × ε) : D := .tuple [f x.1, g x.2.1, h x.2.2.1, k x.2.2.2.1, l x.2.2.2.2]
abbrev p1 {α : Type} (f : α → D) (x : α) : D := .tuple [f x]
end DL
namespace DL
open PySem PySem.Spec PyProof.Rows L2
abbrev y1 {α : Type} (f : α → D) (x : α) : D := .list [f x]
abbrev y2 {α β : Type} (f : α → D) (g : β → D) (x : α × β) : D := .list [f x.1, g x.2]
abbrev y3 {α β γ : Type} (f : α → D) (g : β → D) (h : γ → D) (x : α × β × γ) : D := .list [f x.1, g x.2.1, h x.2.2]
abbrev y4 {α β γ δ : Type} (f : α → D) (g : β → D) (h : γ → D) (k : δ → D) (x : α × β × γ × δ) : D := .list [f x.1, g x.2.1, h x.2.2.1, k x.2.2.2]
abbrev y5 {α β γ δ ε : Type} (f : α → D) (g : β → D) (h : γ → D) (k : δ → D) (l : ε → D) (x : α × β × γ × δ × ε) : D := .list [f x.1, g x.2.1, h x.2.2.1, k x.2.2.2.1, l x.2.2.2.2]
def ltB (a b : Bool) : Bool := !a && b
/-- an item of a pair by its place -/
def pix {α : Type} (p : α × α) (k : Int) : α := if k = 0 then p.1 else p.2
/-- order of tuples of one kind -/
def ltT {α : Type} [DecidableEq α] (lt : α → α → Bool) : List α → List α → Bool
  | [], [] => false
  | [], _ :: _ => true
  | _ :: _, [] => false
  | x :: xs, y :: ys => if x = y then ltT lt xs ys else lt x y
end DL
namespace DL
open PySem PySem.Spec PyProof.Rows L2
/-- an item of a triple by its place -/
def pix3 {α : Type} (p : α × α × α) (k : Int) : α := if k = 0 then p.1 else if k = 1 then p.2.1 else p.2.2
/-- data of any kind -/
abbrev encD (d : D) : D := d
/-- a list or a tuple -/
abbrev sK {α : Type} (f : α → D) (x : Bool × List α) : D := seqD x.1 (x.2.map f)
def dInt : D → Int
  | .int i => i
  | _ => 0
def dTup : D → List D
  | .tuple xs => xs
  | .list xs => xs
  | _ => []
instance : Inhabited PyData := ⟨.none⟩
def IsI (d : D) : Prop := ∃ i, d = .int i
def IsT (d : D) : Prop := ∃ xs, d = .tuple xs
def NoD (d : D) : Prop := ∀ kvs, d ≠ .dict kvs
end DL
namespace DL
open PySem PySem.Spec PyProof.Rows L2
/-- the value that is there -/
def qv {α : Type} [Inhabited α] (x : Option α) : α := x.getD default
end DL
namespace DL
open PySem PySem.Spec PyProof.Rows L2
/-- is it among them -/
abbrev memD {α : Type} [DecidableEq α] (x : α) (xs : List α) : Bool := decide (x ∈ xs)
def ixOf {α : Type} [DecidableEq α] (x : α) (xs : List α) : Nat := xs.findIdx fun y => decide (y = x)
/-! dicts: rows of keys and values, each key once -/
section
variable {α β : Type}
abbrev dM (f : α → D) (g : β → D) (m : List (α × β)) : D := .dict (m.map fun p => (f p.1, g p.2))
/-- keys that are tuples: a mark ahead -/
abbrev dT (f : α → D) (g : β → D) (m : List (α × β)) : D := .dict ((.none, .none) :: m.map fun p => (f p.1, g p.2))
variable [DecidableEq α]
def dget (m : List (α × β)) (k : α) : Option β := (m.find? fun p => decide (p.1 = k)).map (·.2)
def dhas (m : List (α × β)) (k : α) : Bool := (dget m k).isSome
def dgd [Inhabited β] (m : List (α × β)) (k : α) : β := (dget m k).getD default
def dgetD (m : List (α × β)) (k : α) (v : β) : β := (dget m k).getD v
def dput (m : List (α × β)) (k : α) (v : β) : List (α × β) := if (m.any fun p => decide (p.1 = k)) = true then m.map (fun p => if p.1 = k then (p.1, v) else p) else m ++ [(k, v)]
def dcat (m ps : List (α × β)) : List (α × β) := ps.foldl (fun m p => dput m p.1 p.2) m
end
def mxO {α : Type} [Inhabited α] (lt : α → α → Bool) : List α → α
  | [] => default
  | x :: xs => xs.foldl (fun a y => if lt a y = true then y else a) x
def mnO {α : Type} [Inhabited α] (lt : α → α → Bool) : List α → α
  | [] => default
  | x :: xs => xs.foldl (fun a y => if lt y a = true then y else a) x
end DL
namespace DL
open PySem PySem.Spec PyProof.Rows L2
def dStr : D → Str
  | .str x => x
  | _ => ""
def dBool : D → Bool
  | .bool b => b
  | _ => false
def dInts (d : D) : List Int := (dTup d).map dInt
end DL
namespace DL
open PySem PySem.Spec PyProof.Rows L2
/-- no dict, but an empty one -/
def NoE (d : D) : Prop := (∀ kvs, d ≠ .dict kvs) ∨ d = .dict []
/-! data that repr shows: no lists beside a dict -/
mutual
def layT : D → Bool
  | .none => true
  | .bool _ => true
  | .int _ => true
  | .str x => PyData.strOk x
  | .list _ => false
  | .tuple xs => layTs xs
  | .dict kvs => kvs.isEmpty
def layTs : List D → Bool
  | [] => true
  | x :: xs => layT x && layTs xs
end
def ShE (n : Nat) (d : D) : Prop := (d.canLay0 = true ∨ layT d = true) ∧ d.depth ≤ n
end DL
namespace DL
open PySem PySem.Spec PyProof.Rows L2
abbrev y6 {t0 t1 t2 t3 t4 t5 : Type} (f0 : t0 → D) (f1 : t1 → D) (f2 : t2 → D) (f3 : t3 → D) (f4 : t4 → D) (f5 : t5 → D) (x : t0 × t1 × t2 × t3 × t4 × t5) : D := .list [f0 x.1, f1 x.2.1, f2 x.2.2.1, f3 x.2.2.2.1, f4 x.2.2.2.2.1, f5 x.2.2.2.2.2]
abbrev y7 {t0 t1 t2 t3 t4 t5 t6 : Type} (f0 : t0 → D) (f1 : t1 → D) (f2 : t2 → D) (f3 : t3 → D) (f4 : t4 → D) (f5 : t5 → D) (f6 : t6 → D) (x : t0 × t1 × t2 × t3 × t4 × t5 × t6) : D := .list [f0 x.1, f1 x.2.1, f2 x.2.2.1, f3 x.2.2.2.1, f4 x.2.2.2.2.1, f5 x.2.2.2.2.2.1, f6 x.2.2.2.2.2.2]
abbrev y8 {t0 t1 t2 t3 t4 t5 t6 t7 : Type} (f0 : t0 → D) (f1 : t1 → D) (f2 : t2 → D) (f3 : t3 → D) (f4 : t4 → D) (f5 : t5 → D) (f6 : t6 → D) (f7 : t7 → D) (x : t0 × t1 × t2 × t3 × t4 × t5 × t6 × t7) : D := .list [f0 x.1, f1 x.2.1, f2 x.2.2.1, f3 x.2.2.2.1, f4 x.2.2.2.2.1, f5 x.2.2.2.2.2.1, f6 x.2.2.2.2.2.2.1, f7 x.2.2.2.2.2.2.2]
abbrev y9 {t0 t1 t2 t3 t4 t5 t6 t7 t8 : Type} (f0 : t0 → D) (f1 : t1 → D) (f2 : t2 → D) (f3 : t3 → D) (f4 : t4 → D) (f5 : t5 → D) (f6 : t6 → D) (f7 : t7 → D) (f8 : t8 → D) (x : t0 × t1 × t2 × t3 × t4 × t5 × t6 × t7 × t8) : D := .list [f0 x.1, f1 x.2.1, f2 x.2.2.1, f3 x.2.2.2.1, f4 x.2.2.2.2.1, f5 x.2.2.2.2.2.1, f6 x.2.2.2.2.2.2.1, f7 x.2.2.2.2.2.2.2.1, f8 x.2.2.2.2.2.2.2.2]
abbrev y10 {t0 t1 t2 t3 t4 t5 t6 t7 t8 t9 : Type} (f0 : t0 → D) (f1 : t1 → D) (f2 : t2 → D) (f3 : t3 → D) (f4 : t4 → D) (f5 : t5 → D) (f6 : t6 → D) (f7 : t7 → D) (f8 : t8 → D) (f9 : t9 → D) (x : t0 × t1 × t2 × t3 × t4 × t5 × t6 × t7 × t8 × t9) : D := .list [f0 x.1, f1 x.2.1, f2 x.2.2.1, f3 x.2.2.2.1, f4 x.2.2.2.2.1, f5 x.2.2.2.2.2.1, f6 x.2.2.2.2.2.2.1, f7 x.2.2.2.2.2.2.2.1, f8 x.2.2.2.2.2.2.2.2.1, f9 x.2.2.2.2.2.2.2.2.2]
abbrev y11 {t0 t1 t2 t3 t4 t5 t6 t7 t8 t9 t10 : Type} (f0 : t0 → D) (f1 : t1 → D) (f2 : t2 → D) (f3 : t3 → D) (f4 : t4 → D) (f5 : t5 → D) (f6 : t6 → D) (f7 : t7 → D) (f8 : t8 → D) (f9 : t9 → D) (f10 : t10 → D) (x : t0 × t1 × t2 × t3 × t4 × t5 × t6 × t7 × t8 × t9 × t10) : D := .list [f0 x.1, f1 x.2.1, f2 x.2.2.1, f3 x.2.2.2.1, f4 x.2.2.2.2.1, f5 x.2.2.2.2.2.1, f6 x.2.2.2.2.2.2.1, f7 x.2.2.2.2.2.2.2.1, f8 x.2.2.2.2.2.2.2.2.1, f9 x.2.2.2.2.2.2.2.2.2.1, f10 x.2.2.2.2.2.2.2.2.2.2]
abbrev y12 {t0 t1 t2 t3 t4 t5 t6 t7 t8 t9 t10 t11 : Type} (f0 : t0 → D) (f1 : t1 → D) (f2 : t2 → D) (f3 : t3 → D) (f4 : t4 → D) (f5 : t5 → D) (f6 : t6 → D) (f7 : t7 → D) (f8 : t8 → D) (f9 : t9 → D) (f10 : t10 → D) (f11 : t11 → D) (x : t0 × t1 × t2 × t3 × t4 × t5 × t6 × t7 × t8 × t9 × t10 × t11) : D := .list [f0 x.1, f1 x.2.1, f2 x.2.2.1, f3 x.2.2.2.1, f4 x.2.2.2.2.1, f5 x.2.2.2.2.2.1, f6 x.2.2.2.2.2.2.1, f7 x.2.2.2.2.2.2.2.1, f8 x.2.2.2.2.2.2.2.2.1, f9 x.2.2.2.2.2.2.2.2.2.1, f10 x.2.2.2.2.2.2.2.2.2.2.1, f11 x.2.2.2.2.2.2.2.2.2.2.2]
end DL

set_option Elab.async false
set_option linter.all false
set_option maxRecDepth 100000
set_option maxHeartbeats 2000000
/-! VL: plain lemmas for many laws: sums, places, orders -/
namespace PL
open PySem PySem.Spec PyProof.Rows L2 DL
/-! ### sums -/
theorem perm_sum {xs ys : List Int} (h : xs.Perm ys) : xs.sum = ys.sum := by
  induction h with
  | nil => rfl
  | cons a h ih => simp [ih]
  | swap a b l => simp only [List.sum_cons]; omega
  | trans h1 h2 ih1 ih2 => exact ih1.trans ih2
theorem sum_nn {xs : List Int} (h : ∀ x ∈ xs, 0 ≤ x) : 0 ≤ xs.sum := by
  induction xs with
  | nil => simp
  | cons x xs ih =>
    have h1 := h x (by simp)
    have h2 := ih fun y hy => h y (by simp [hy])
    rw [List.sum_cons]
    omega
theorem sum_le {α : Type} {f g : α → Int} {xs : List α} (h : ∀ x ∈ xs, f x ≤ g x) : (xs.map f).sum ≤ (xs.map g).sum := by
  induction xs with
  | nil => simp
  | cons x xs ih =>
    have h1 := h x (by simp)
    have h2 := ih fun y hy => h y (by simp [hy])
    simp only [List.map_cons, List.sum_cons]
    omega
theorem sum_addf {α : Type} {f g : α → Int} {xs : List α} : (xs.map fun x => f x + g x).sum = (xs.map f).sum + (xs.map g).sum := by
  induction xs with
  | nil => simp
  | cons x xs ih => simp only [List.map_cons, List.sum_cons, ih]; omega
theorem sum_mulf {α : Type} {f : α → Int} {c : Int} {xs : List α} : (xs.map fun x => c * f x).sum = c * (xs.map f).sum := by
  induction xs with
  | nil => simp
  | cons x xs ih => simp only [List.map_cons, List.sum_cons, ih, Int.mul_add]
theorem sum_zero {α : Type} {f : α → Int} {xs : List α} (h : ∀ x ∈ xs, f x = 0) : (xs.map f).sum = 0 := by
  induction xs with
  | nil => simp
  | cons x xs ih => simp [h x (by simp), ih fun y hy => h y (by simp [hy])]
theorem sum_lenB {B : Int} (hB : 0 ≤ B) : ∀ {xs : List Int}, (∀ x ∈ xs, x ≤ B) → xs.sum ≤ xs.length * B
  | [], _ => by simp
  | x :: xs, h => by
    have h1 := h x (by simp)
    have h2 := sum_lenB hB (xs := xs) fun y hy => h y (by simp [hy])
    rw [List.sum_cons, List.length_cons, Int.natCast_add, Int.add_mul]
    omega
theorem sum_mem_le {xs : List Int} (h : ∀ x ∈ xs, 0 ≤ x) {y : Int} (hy : y ∈ xs) : y ≤ xs.sum := by
  induction xs with
  | nil => simp at hy
  | cons x xs ih =>
    have h1 := h x (by simp)
    have h2 := sum_nn (xs := xs) fun z hz => h z (by simp [hz])
    rw [List.sum_cons]
    rcases List.mem_cons.mp hy with rfl | hy
    · omega
    · have := ih (fun z hz => h z (by simp [hz])) hy
      omega
/-- the sum over the numbers below n -/
def sm (n : Nat) (f : Nat → Int) : Int := ((List.range n).map f).sum
theorem sm_congr {n : Nat} {f g : Nat → Int} (h : ∀ i, i < n → f i = g i) : sm n f = sm n g := by
  unfold sm
  rw [List.map_congr_left fun i hi => h i (List.mem_range.mp hi)]
theorem sm_succ (n : Nat) (f : Nat → Int) : sm (n + 1) f = sm n f + f n := by
  unfold sm
  rw [List.range_succ, List.map_append, List.sum_append]
  simp
theorem sm_addf {n : Nat} {f g : Nat → Int} : sm n (fun i => f i + g i) = sm n f + sm n g := sum_addf
theorem sm_le {n : Nat} {f g : Nat → Int} (h : ∀ i, i < n → f i ≤ g i) : sm n f ≤ sm n g := sum_le fun i hi => h i (List.mem_range.mp hi)
theorem sm_nn {n : Nat} {f : Nat → Int} (h : ∀ i, i < n → 0 ≤ f i) : 0 ≤ sm n f := sum_nn fun x hx => by
  obtain ⟨i, hi, rfl⟩ := List.mem_map.mp hx
  exact h i (List.mem_range.mp hi)
theorem sm_zero {n : Nat} {f : Nat → Int} (h : ∀ i, i < n → f i = 0) : sm n f = 0 := sum_zero fun i hi => h i (List.mem_range.mp hi)
theorem sm_one {n k : Nat} {f : Nat → Int} (hk : k < n) (h : ∀ i, i < n → i ≠ k → f i = 0) : sm n f = f k := by
  induction n with
  | zero => omega
  | succ n ih =>
    rw [sm_succ]
    by_cases e : k = n
    · subst e
      rw [sm_zero fun i hi => h i (by omega) (by omega)]
      omega
    · rw [ih (by omega) fun i hi => h i (by omega), h n (by omega) (Ne.symm e)]
      omega
/-! ### places -/
theorem gi_at {α : Type} [Inhabited α] {xs : List α} {i : Nat} (h : i < xs.length) : gi xs (i : Int) = xs[i] := by
  rw [gi_eq (by omega) (by omega)]; rfl
theorem gi_map {α β : Type} [Inhabited α] [Inhabited β] {xs : List α} {f : α → β} {i : Nat} (h : i < xs.length) : gi (xs.map f) (i : Int) = f (gi xs i) := by
  rw [gi_at (by simpa using h), gi_at h, List.getElem_map]
theorem gi_range {β : Type} [Inhabited β] {n : Nat} {f : Nat → β} {i : Nat} (h : i < n) : gi ((List.range n).map f) (i : Int) = f i := by
  rw [gi_at (by simpa using h), List.getElem_map, List.getElem_range]
theorem map_gi {α : Type} [Inhabited α] (xs : List α) : (List.range xs.length).map (fun i : Nat => gi xs i) = xs := by
  apply List.ext_getElem
  · simp
  · intro i h1 h2
    rw [List.getElem_map, List.getElem_range, gi_at (by omega)]
theorem map_gi2 {α β : Type} [Inhabited α] (xs : List α) (f : α → β) : (List.range xs.length).map (fun i : Nat => f (gi xs i)) = xs.map f := by
  have := congrArg (List.map f) (map_gi xs)
  rw [List.map_map] at this
  exact this
theorem sum_gi {xs : List Int} {n : Nat} (h : xs.length = n) : sm n (fun i => gi xs i) = xs.sum := by
  subst h
  unfold sm
  rw [map_gi]
theorem sum_gif {α : Type} [Inhabited α] {xs : List α} {n : Nat} (h : xs.length = n) (f : α → Int) : sm n (fun i => f (gi xs i)) = (xs.map f).sum := by
  subst h
  unfold sm
  rw [map_gi2]
theorem gi_set_same {α : Type} [Inhabited α] {xs : List α} {i : Nat} {v : α} (h : i < xs.length) : gi (xs.set i v) (i : Int) = v := by
  rw [gi_at (by simpa using h), List.getElem_set_self]
theorem gi_set_ne {α : Type} [Inhabited α] {xs : List α} {i j : Nat} {v : α} (hj : j < xs.length) (h : i ≠ j) : gi (xs.set i v) (j : Int) = gi xs j := by
  rw [gi_at (by simpa using hj), gi_at hj, List.getElem_set_ne h]
theorem zip_range {α : Type} [Inhabited α] (xs : List α) : xs.zipIdx = (List.range xs.length).map fun k : Nat => (gi xs (k : Int), k) := by
  apply List.ext_getElem
  · simp
  · intro i h1 h2
    rw [List.getElem_zipIdx, List.getElem_map, List.getElem_range, gi_at (by simpa using h1)]
    simp
theorem zip_gi {α β : Type} [Inhabited α] [Inhabited β] (xs : List α) (ys : List β) (h : ys.length = xs.length) : xs.zip ys = (List.range xs.length).map fun k : Nat => (gi xs (k : Int), gi ys (k : Int)) := by
  apply List.ext_getElem
  · simp [h]
  · intro i h1 h2
    have hi : i < xs.length := by simp at h2; exact h2
    rw [List.getElem_zip, List.getElem_map, List.getElem_range, gi_at hi, gi_at (by omega)]
/-- the numbers below n -/
def idx (n : Nat) : List Int := (List.range n).map fun i : Nat => (i : Int)
theorem mem_idx {n : Nat} {j : Int} : j ∈ idx n ↔ 0 ≤ j ∧ j < (n : Int) := by
  unfold idx
  constructor
  · intro h
    obtain ⟨k, hk, rfl⟩ := List.mem_map.mp h
    have := List.mem_range.mp hk
    omega
  · intro h
    exact List.mem_map.mpr ⟨j.toNat, List.mem_range.mpr (by omega), by omega⟩
theorem idx_len {n : Nat} : (idx n).length = n := by simp [idx]
theorem idx_nodup (n : Nat) : (idx n).Nodup := by
  unfold idx
  refine List.Pairwise.map _ (fun a b h => ?_) (List.nodup_range (n := n))
  omega
theorem sum_idx {n : Nat} (f : Int → Int) : ((idx n).map f).sum = sm n fun i => f i := by
  unfold idx sm
  rw [List.map_map]
  rfl
/-! ### sorted -/
theorem srt_perm {α : Type} (lt : α → α → Bool) (xs : List α) : (srt lt xs).Perm xs := List.mergeSort_perm _ _
theorem srt_len {α : Type} (lt : α → α → Bool) (xs : List α) : (srt lt xs).length = xs.length := (srt_perm lt xs).length_eq
theorem srt_of_pw {α : Type} {lt : α → α → Bool} {xs : List α} (h : xs.Pairwise fun a b => lt b a = false) : srt lt xs = xs :=
  List.mergeSort_of_pairwise (h.imp fun {a b} h => by simp [h])
theorem srt_pw {α : Type} {lt : α → α → Bool} (tr : ∀ a b c, lt b a = false → lt c b = false → lt c a = false) (tot : ∀ a b, lt b a = false ∨ lt a b = false) (xs : List α) : (srt lt xs).Pairwise fun a b => lt b a = false := by
  have := List.pairwise_mergeSort (le := fun a b => !lt b a) (fun a b c h1 h2 => by simp only [Bool.not_eq_true'] at *; exact tr a b c h1 h2) (fun a b => by rcases tot a b with z | z <;> simp [z]) xs
  exact this.imp fun {a b} h => by simpa using h
theorem ltI_f {a b : Int} : ltI b a = false ↔ a ≤ b := by simp [ltI]
theorem srtI_pw (xs : List Int) : (srt ltI xs).Pairwise (· ≤ ·) :=
  (srt_pw (lt := ltI) (fun a b c h1 h2 => by rw [ltI_f] at *; omega) (fun a b => by rw [ltI_f, ltI_f]; omega) xs).imp fun {a b} h => ltI_f.mp h
theorem lt2_f {a b : Int × Int} : lt2 ltI ltI b a = false ↔ a.1 < b.1 ∨ (a.1 = b.1 ∧ a.2 ≤ b.2) := by
  unfold lt2 ltI
  split
  · rename_i h
    simp only [decide_eq_false_iff_not]
    omega
  · rename_i h
    simp only [decide_eq_false_iff_not]
    omega
theorem srt2_pw (xs : List (Int × Int)) : (srt (lt2 ltI ltI) xs).Pairwise fun a b => a.1 < b.1 ∨ (a.1 = b.1 ∧ a.2 ≤ b.2) :=
  (srt_pw (lt := lt2 ltI ltI) (fun a b c h1 h2 => by rw [lt2_f] at *; omega) (fun a b => by rw [lt2_f, lt2_f]; omega) xs).imp fun {a b} h => lt2_f.mp h
/-- a rising list is what sorting makes of any of its arrangements -/
theorem srtI_eq {xs ys : List Int} (h : ys.Pairwise (· ≤ ·)) (p : ys.Perm xs) : srt ltI xs = ys :=
  List.Perm.eq_of_pairwise (le := (· ≤ ·)) (fun a b _ _ h1 h2 => by omega) (srtI_pw xs) h ((srt_perm ltI xs).trans p.symm)
theorem srt2_eq {xs ys : List (Int × Int)} (h : ys.Pairwise fun a b => a.1 < b.1 ∨ (a.1 = b.1 ∧ a.2 ≤ b.2)) (p : ys.Perm xs) : srt (lt2 ltI ltI) xs = ys :=
  List.Perm.eq_of_pairwise (le := fun a b : Int × Int => a.1 < b.1 ∨ (a.1 = b.1 ∧ a.2 ≤ b.2)) (fun a b _ _ h1 h2 => by
    obtain ⟨a1, a2⟩ := a; obtain ⟨b1, b2⟩ := b
    simp only [Prod.mk.injEq] at *
    omega) (srt2_pw xs) h ((srt_perm _ xs).trans p.symm)
theorem map_ne {α β : Type} {f : α → β} {xs : List α} (h : xs ≠ []) : xs.map f ≠ [] := by simpa using h
theorem cut_from1 {α : Type} (x : α) (xs : List α) : cutD (x :: xs) (some (1 : Int)) none = xs := by
  rw [cut_drop (by decide)]; rfl
/-! ### tests that fail -/
theorem orF {a b : Bool} (ha : a = false) (hb : b = false) : (a || b) = false := by rw [ha, hb]; rfl
theorem neF {α : Type} [DecidableEq α] {x y : α} (h : x = y) : (!decide (x = y)) = false := by simp [h]
theorem eqT {α : Type} [DecidableEq α] {x y : α} (h : x = y) : decide (x = y) = true := by simp [h]
theorem ltF {x y : Int} (h : y ≤ x) : decide (x < y) = false := decide_eq_false (by omega)
theorem leF {x y : Int} (h : y < x) : decide (x ≤ y) = false := decide_eq_false (by omega)
theorem notF {a : Bool} (h : a = true) : (!a) = false := by rw [h]; rfl
theorem andF1 {a b : Bool} (h : a = false) : (a && b) = false := by rw [h]; rfl
theorem andF2 {a b : Bool} (h : b = false) : (a && b) = false := by rw [h]; cases a <;> rfl
/-- a test that fails is not met -/
theorem memT {α : Type} [DecidableEq α] {x : α} {xs : List α} (h : x ∈ xs) : memD x xs = true := decide_eq_true h
theorem memF {α : Type} [DecidableEq α] {x : α} {xs : List α} (h : x ∉ xs) : memD x xs = false := decide_eq_false h
theorem noT {a : Bool} {P : Prop} (h : a = false) (z : a = true) : P := by rw [h] at z; cases z
end PL

set_option Elab.async false
set_option linter.all false
set_option maxRecDepth 100000
set_option maxHeartbeats 2000000
namespace K51
open PySem PySem.Spec PyProof.Rows L2 DL
abbrev Jobs := List (Int × Int)
def inR (n : Nat) (o : List Int) : Prop := ∀ j ∈ o, 0 ≤ j ∧ j < (n : Int)
def flowStep (jobs : Jobs) (s : Int × Int × Int) (j : Int) : Int × Int × Int :=
  (s.1 + (gi jobs j).1, max s.2.1 (s.1 + (gi jobs j).1 + s.2.2), s.2.2 - (gi jobs j).2)
def sumB (jobs : Jobs) : Int := (jobs.map fun p => p.2).sum
def sumA (jobs : Jobs) : Int := (jobs.map fun p => p.1).sum
def flowSpan (jobs : Jobs) (o : List Int) : Int := (o.foldl (flowStep jobs) (0, 0, sumB jobs)).2.1
def spanStep (jobs : Jobs) (s : Int × Int) (j : Int) : Int × Int := (s.1 + (gi jobs j).1, max (s.1 + (gi jobs j).1) s.2 + (gi jobs j).2)
def lawSpan (jobs : Jobs) (o : List Int) : Int := max (o.foldl (spanStep jobs) (0, 0)).1 (o.foldl (spanStep jobs) (0, 0)).2
abbrev lt2I := lt2 ltI ltI
def ahead (jobs : Jobs) : List (Int × Int) := srt lt2I ((jobs.zipIdx.filter fun p => decide (p.1.1 < p.1.2)).map fun p => (p.1.1, (p.2 : Int)))
def behind (jobs : Jobs) : List (Int × Int) := srt lt2I ((jobs.zipIdx.filter fun p => decide (p.1.2 ≤ p.1.1)).map fun p => (-p.1.2, (p.2 : Int)))
def johnson (jobs : Jobs) : List Int := (ahead jobs ++ behind jobs).map fun p => p.2
def turned (jobs : Jobs) : Jobs := jobs.map fun p => (p.2, p.1)
/-! ### the plain law -/
section
variable {jobs : Jobs}
/-- no length is below 0 -/
def Pos (jobs : Jobs) : Prop := ∀ p ∈ jobs, 0 ≤ p.1 ∧ 0 ≤ p.2
abbrev ja (jobs : Jobs) (j : Int) : Int := (gi jobs j).1
abbrev jb (jobs : Jobs) (j : Int) : Int := (gi jobs j).2
theorem gi_pos (h : Pos jobs) (j : Int) : 0 ≤ ja jobs j ∧ 0 ≤ jb jobs j := by
  unfold ja jb gi
  rw [List.getD_eq_getElem?_getD]
  cases e : jobs[j.toNat]? with
  | none => exact ⟨Int.le_refl _, Int.le_refl _⟩
  | some p => exact h p (List.mem_of_getElem? e)
def sa (jobs : Jobs) (o : List Int) : Int := (o.map (ja jobs)).sum
def sb (jobs : Jobs) (o : List Int) : Int := (o.map (jb jobs)).sum
theorem sum_pos {α : Type} (f : α → Int) (h : ∀ x, 0 ≤ f x) : ∀ xs : List α, 0 ≤ (xs.map f).sum
  | [] => by simp
  | x :: xs => by rw [List.map_cons, List.sum_cons]; have := h x; have := sum_pos f h xs; omega
theorem sa_pos (h : Pos jobs) (o : List Int) : 0 ≤ sa jobs o := sum_pos _ (fun j => (gi_pos h j).1) o
theorem sb_pos (h : Pos jobs) (o : List Int) : 0 ≤ sb jobs o := sum_pos _ (fun j => (gi_pos h j).2) o
def R (jobs : Jobs) : List Int → Int
  | [] => 0
  | j :: o => max (ja jobs j + (jb jobs j + sb jobs o)) (ja jobs j + R jobs o)
theorem R_sb (h : Pos jobs) : ∀ o, sb jobs o ≤ R jobs o
  | [] => Int.le_refl _
  | j :: o => by
    have := gi_pos h j
    show jb jobs j + sb jobs o ≤ max _ _
    omega
theorem R_sa (h : Pos jobs) : ∀ o, sa jobs o ≤ R jobs o
  | [] => Int.le_refl _
  | j :: o => by
    have := R_sa h o
    show ja jobs j + sa jobs o ≤ max _ _
    omega
theorem span_fold (h : Pos jobs) : ∀ (o : List Int) (A C : Int), A ≤ C → (o.foldl (spanStep jobs) (A, C)).1 = A + sa jobs o ∧ (o.foldl (spanStep jobs) (A, C)).2 = max (C + sb jobs o) (A + R jobs o)
  | [], A, C, hc => by
    refine ⟨by simp [sa], ?_⟩
    show C = max (C + 0) (A + 0)
    omega
  | j :: o, A, C, hc => by
    have hp := gi_pos h j
    obtain ⟨h1, h2⟩ := span_fold h o (A + ja jobs j) (max (A + ja jobs j) C + jb jobs j) (by omega)
    have e : (j :: o).foldl (spanStep jobs) (A, C) = o.foldl (spanStep jobs) (A + ja jobs j, max (A + ja jobs j) C + jb jobs j) := rfl
    rw [e, h1, h2]
    refine ⟨by show _ = A + (ja jobs j + sa jobs o); omega, ?_⟩
    show _ = max (C + (jb jobs j + sb jobs o)) (A + max _ _)
    omega
theorem lawSpan_R (h : Pos jobs) (o : List Int) : lawSpan jobs o = R jobs o := by
  obtain ⟨h1, h2⟩ := span_fold h o 0 0 (Int.le_refl _)
  unfold lawSpan
  rw [h1, h2]
  have := R_sb h o
  have := R_sa h o
  omega
theorem flow_fold (h : Pos jobs) : ∀ (o : List Int) (F M : Int), F ≤ M → (o.foldl (flowStep jobs) (F, M, sb jobs o)).2.1 = max M (F + R jobs o)
  | [], F, M, hm => by show M = max M (F + 0); omega
  | j :: o, F, M, hm => by
    have hp := gi_pos h j
    have hs := sb_pos h o
    have e : (j :: o).foldl (flowStep jobs) (F, M, sb jobs (j :: o)) = o.foldl (flowStep jobs) (F + ja jobs j, max M (F + ja jobs j + (jb jobs j + sb jobs o)), sb jobs o) := by
      rw [List.foldl_cons]
      congr 1
      show (_, _, jb jobs j + sb jobs o - jb jobs j) = _
      rw [show jb jobs j + sb jobs o - jb jobs j = sb jobs o by omega]
      rfl
    rw [e, flow_fold h o _ _ (by omega)]
    show _ = max M (F + max _ _)
    omega
theorem perm_sum {xs ys : List Int} (h : xs.Perm ys) : xs.sum = ys.sum := by
  induction h with
  | nil => rfl
  | cons x _ ih => rw [List.sum_cons, List.sum_cons, ih]
  | swap x y l => simp only [List.sum_cons]; omega
  | trans _ _ h1 h2 => exact h1.trans h2
theorem sum_gi {α : Type} [Inhabited α] (xs : List α) (f : α → Int) : (((List.range xs.length).map fun i : Nat => (i : Int)).map fun j => f (gi xs j)).sum = (xs.map f).sum := by
  congr 1
  rw [List.map_map]
  apply List.ext_getElem
  · simp
  · intro i h1 h2
    simp only [List.getElem_map, List.getElem_range, Function.comp_apply]
    rw [gi_eq (by simp at h1; omega) (by omega)]
    rfl
/-- an order of all of them -/
def Ord (jobs : Jobs) (o : List Int) : Prop := o.Perm ((List.range jobs.length).map fun i : Nat => (i : Int))
theorem Ord.sb {o : List Int} (h : Ord jobs o) : K51.sb jobs o = sumB jobs := by
  unfold K51.sb sumB
  rw [perm_sum (h.map (jb jobs)), ← sum_gi jobs fun p => p.2]
theorem Ord.sa {o : List Int} (h : Ord jobs o) : K51.sa jobs o = sumA jobs := by
  unfold K51.sa sumA
  rw [perm_sum (h.map (ja jobs)), ← sum_gi jobs fun p => p.1]
theorem flowSpan_R (h : Pos jobs) {o : List Int} (ho : Ord jobs o) : flowSpan jobs o = R jobs o := by
  unfold flowSpan
  rw [← ho.sb, flow_fold h o 0 0 (Int.le_refl _)]
  have := R_sb h o
  have := sb_pos h o
  omega
/-- the ways through an order -/
theorem R_ge : ∀ (l : List Int) (j : Int) (r : List Int), sa jobs l + ja jobs j + (jb jobs j + sb jobs r) ≤ R jobs (l ++ j :: r)
  | [], j, r => by
    show 0 + ja jobs j + _ ≤ max _ _
    omega
  | i :: l, j, r => by
    have := R_ge l j r
    show ja jobs i + sa jobs l + ja jobs j + _ ≤ max _ (ja jobs i + R jobs (l ++ j :: r))
    omega
theorem R_is (h : Pos jobs) : ∀ o : List Int, o ≠ [] → ∃ l j r, o = l ++ j :: r ∧ R jobs o = sa jobs l + ja jobs j + (jb jobs j + sb jobs r)
  | [], h => absurd rfl h
  | [i], _ => ⟨[], i, [], rfl, by
    have := gi_pos h i
    show max (ja jobs i + (jb jobs i + 0)) (ja jobs i + 0) = 0 + ja jobs i + (jb jobs i + 0)
    omega⟩
  | i :: k :: o, _ => by
    obtain ⟨l, j, r, e, q⟩ := R_is h (k :: o) (by simp)
    by_cases c : ja jobs i + R jobs (k :: o) ≤ ja jobs i + (jb jobs i + sb jobs (k :: o))
    · refine ⟨[], i, k :: o, rfl, ?_⟩
      show max (ja jobs i + (jb jobs i + sb jobs (k :: o))) (ja jobs i + R jobs (k :: o)) = 0 + ja jobs i + _
      omega
    · refine ⟨i :: l, j, r, by rw [e]; rfl, ?_⟩
      show max (ja jobs i + (jb jobs i + sb jobs (k :: o))) (ja jobs i + R jobs (k :: o)) = ja jobs i + sa jobs l + ja jobs j + _
      omega
theorem split_first {P : Int → Prop} (d : ∀ x, Decidable (P x)) : ∀ o : List Int, (∃ x ∈ o, P x) → ∃ l m r, o = l ++ m :: r ∧ P m ∧ ∀ i ∈ l, ¬ P i
  | [], h => by obtain ⟨x, hx, _⟩ := h; simp at hx
  | x :: o, h => by
    by_cases p : P x
    · exact ⟨[], x, o, rfl, p, by simp⟩
    · obtain ⟨l, m, r, e, q, n⟩ := split_first d o (by
        obtain ⟨y, hy, py⟩ := h
        rcases List.mem_cons.mp hy with rfl | hy
        · exact absurd py p
        · exact ⟨y, hy, py⟩)
      refine ⟨x :: l, m, r, by rw [e]; rfl, q, fun i hi => ?_⟩
      rcases List.mem_cons.mp hi with rfl | hi
      · exact p
      · exact n i hi
theorem split_last {P : Int → Prop} (d : ∀ x, Decidable (P x)) (o : List Int) (h : ∃ x ∈ o, P x) : ∃ l m r, o = l ++ m :: r ∧ P m ∧ ∀ i ∈ r, ¬ P i := by
  obtain ⟨l, m, r, e, q, n⟩ := split_first d o.reverse (by obtain ⟨x, hx, p⟩ := h; exact ⟨x, by simpa using hx, p⟩)
  refine ⟨r.reverse, m, l.reverse, ?_, q, fun i hi => n i (by simpa using hi)⟩
  have := congrArg List.reverse e
  simpa using this
theorem sum_le {f g : Int → Int} : ∀ {o : List Int}, (∀ i ∈ o, f i ≤ g i) → (o.map f).sum ≤ (o.map g).sum
  | [], _ => by simp
  | i :: o, h => by
    have := h i (by simp)
    have := sum_le (o := o) fun k hk => h k (by simp [hk])
    simp only [List.map_cons, List.sum_cons]
    omega
/-- weights told by a part l of an order, another by the rest -/
theorem sum_parts {f g : Int → Int} {l r : List Int} {m : Int} (nd : (l ++ m :: r).Nodup) : ((l ++ m :: r).map fun i => if i ∈ l then f i else g i).sum = (l.map f).sum + g m + (r.map g).sum := by
  rw [List.nodup_append] at nd
  obtain ⟨n1, n2, n3⟩ := nd
  rw [List.map_append, List.sum_append, List.map_cons, List.sum_cons]
  rw [List.map_congr_left (g := f) fun i hi => if_pos hi, if_neg (fun z => n3 m z m (by simp) rfl), List.map_congr_left (l := r) (g := g) fun i hi => if_neg fun z => n3 i z i (by simp [hi]) rfl]
  omega
theorem sum_parts2 {f g : Int → Int} {l r : List Int} {m : Int} (nd : (l ++ m :: r).Nodup) : ((l ++ m :: r).map fun i => if i ∈ r then g i else f i).sum = (l.map f).sum + f m + (r.map g).sum := by
  rw [List.nodup_append] at nd
  obtain ⟨n1, n2, n3⟩ := nd
  rw [List.map_append, List.sum_append, List.map_cons, List.sum_cons]
  rw [List.map_congr_left (g := f) fun i hi => if_neg fun z => n3 i hi i (by simp [z]) rfl, if_neg (fun z => (List.nodup_cons.mp n2).1 z), List.map_congr_left (l := r) (g := g) fun i hi => if_pos hi]
  omega
/-- i may stand ahead of j -/
structure Rel (jobs : Jobs) (i j : Int) : Prop where
  a : ja jobs j < jb jobs j → ja jobs i < jb jobs i ∧ ja jobs i ≤ ja jobs j
  b : jb jobs i ≤ ja jobs i → jb jobs j ≤ ja jobs j ∧ jb jobs j ≤ jb jobs i
theorem best (h : Pos jobs) {J o : List Int} (hJ : J.Pairwise (Rel jobs)) (nd : J.Nodup) (hp : o.Perm J) : R jobs J ≤ R jobs o := by
  by_cases ne : J = []
  · subst ne
    have := R_sa h o
    have := sa_pos h o
    show 0 ≤ _
    omega
  obtain ⟨L, j, Rr, e, q⟩ := R_is h J ne
  subst e
  have pw := hJ
  rw [List.pairwise_append] at pw
  obtain ⟨_, p2, p3⟩ := pw
  have pL : ∀ i ∈ L, Rel jobs i j := fun i hi => p3 i hi j (by simp)
  have pR : ∀ i ∈ Rr, Rel jobs j i := fun i hi => (List.pairwise_cons.mp p2).1 i hi
  have mem : ∀ i ∈ o, i ∈ L ∨ i = j ∨ i ∈ Rr := fun i hi => by
    have := hp.mem_iff.mp hi
    simpa using this
  rw [q]
  by_cases ah : ja jobs j < jb jobs j
  · obtain ⟨l, m, r, e, pm, nm⟩ := split_first (P := fun i => (i = j ∨ i ∈ Rr) ∧ ja jobs j ≤ ja jobs i) (fun _ => inferInstance) o ⟨j, hp.mem_iff.mpr (by simp), .inl rfl, Int.le_refl _⟩
    subst e
    have v := R_ge (jobs := jobs) l m r
    have ndo := hp.nodup_iff.mpr nd
    have s1 := sum_parts (f := ja jobs) (g := jb jobs) nd
    have s2 := sum_parts (f := ja jobs) (g := jb jobs) ndo
    have s3 := perm_sum (hp.map fun i => if i ∈ L then ja jobs i else jb jobs i)
    have s4 : ((l ++ m :: r).map fun i => if i ∈ L then ja jobs i else jb jobs i).sum ≤ ((l ++ m :: r).map fun i => if i ∈ l then ja jobs i else jb jobs i).sum := sum_le fun i hi => by
      by_cases c : i ∈ L
      · rw [if_pos c]
        have := ((pL i c).a ah).1
        split <;> omega
      · rw [if_neg c]
        by_cases c2 : i ∈ l
        · rw [if_pos c2]
          have hn := nm i c2
          rcases mem i hi with z | z | z
          · exact absurd z c
          · subst z
            exact absurd ⟨.inl rfl, Int.le_refl _⟩ hn
          · by_cases ahi : ja jobs i < jb jobs i
            · exact absurd ⟨.inr z, ((pR i z).a ahi).2⟩ hn
            · omega
        · rw [if_neg c2]
          exact Int.le_refl _
    have := pm.2
    unfold sa sb at *
    omega
  · obtain ⟨l, m, r, e, pm, nm⟩ := split_last (P := fun i => (i = j ∨ i ∈ L) ∧ jb jobs j ≤ jb jobs i) (fun _ => inferInstance) o ⟨j, hp.mem_iff.mpr (by simp), .inl rfl, Int.le_refl _⟩
    subst e
    have v := R_ge (jobs := jobs) l m r
    have ndo := hp.nodup_iff.mpr nd
    have s1 := sum_parts2 (f := ja jobs) (g := jb jobs) nd
    have s2 := sum_parts2 (f := ja jobs) (g := jb jobs) ndo
    have s3 := perm_sum (hp.map fun i => if i ∈ Rr then jb jobs i else ja jobs i)
    have s4 : ((l ++ m :: r).map fun i => if i ∈ Rr then jb jobs i else ja jobs i).sum ≤ ((l ++ m :: r).map fun i => if i ∈ r then jb jobs i else ja jobs i).sum := sum_le fun i hi => by
      by_cases c : i ∈ Rr
      · rw [if_pos c]
        have := ((pR i c).b (by omega)).1
        split <;> omega
      · rw [if_neg c]
        by_cases c2 : i ∈ r
        · rw [if_pos c2]
          have hn := nm i c2
          rcases mem i hi with z | z | z
          · by_cases ahi : ja jobs i < jb jobs i
            · omega
            · exact absurd ⟨.inr z, ((pL i z).b (by omega)).2⟩ hn
          · subst z
            exact absurd ⟨.inl rfl, Int.le_refl _⟩ hn
          · exact absurd z c
        · rw [if_neg c2]
          exact Int.le_refl _
    have := pm.2
    unfold sa sb at *
    omega
theorem R_turn_le (h : Pos jobs) (o : List Int) : R jobs o ≤ R (turned jobs) o.reverse := by
  by_cases ne : o = []
  · subst ne; exact Int.le_refl _
  · obtain ⟨l, j, r, e, q⟩ := R_is h o ne
    have v := R_ge (jobs := turned jobs) r.reverse j l.reverse
    have e2 : o.reverse = r.reverse ++ j :: l.reverse := by rw [e]; simp
    rw [e2, q]
    have ta : ∀ j, ja (turned jobs) j = jb jobs j := fun j => gi_turn2 j
    have tb : ∀ j, jb (turned jobs) j = ja jobs j := fun j => gi_turn1 j
    have h1 : sa (turned jobs) r.reverse = sb jobs r := by
      unfold sa sb
      rw [List.map_congr_left fun j _ => ta j]
      exact perm_sum ((List.reverse_perm r).map _)
    have h2 : sb (turned jobs) l.reverse = sa jobs l := by
      unfold sa sb
      rw [List.map_congr_left fun j _ => tb j]
      exact perm_sum ((List.reverse_perm l).map _)
    rw [h1, h2, ta, tb] at v
    omega
where
  gi_turn1 (j : Int) : (gi (turned jobs) j).2 = (gi jobs j).1 := by
    unfold turned gi
    rw [List.getD_eq_getElem?_getD, List.getD_eq_getElem?_getD, List.getElem?_map]
    cases jobs[j.toNat]? <;> rfl
  gi_turn2 (j : Int) : (gi (turned jobs) j).1 = (gi jobs j).2 := by
    unfold turned gi
    rw [List.getD_eq_getElem?_getD, List.getD_eq_getElem?_getD, List.getElem?_map]
    cases jobs[j.toNat]? <;> rfl
theorem turned_pos (h : Pos jobs) : Pos (turned jobs) := fun p hp => by
  obtain ⟨q, hq, rfl⟩ := List.mem_map.mp hp
  exact (h q hq).symm
theorem turned_turned : turned (turned jobs) = jobs := by
  unfold turned
  rw [List.map_map]
  exact List.map_id _
theorem turned_len : (turned jobs).length = jobs.length := by simp [turned]
theorem R_turn (h : Pos jobs) (o : List Int) : R (turned jobs) o.reverse = R jobs o := by
  refine Int.le_antisymm ?_ (R_turn_le h o)
  have := R_turn_le (turned_pos h) o.reverse
  rwa [turned_turned, List.reverse_reverse] at this
theorem Ord.turn {o : List Int} (h : Ord jobs o) : Ord (turned jobs) o.reverse := by
  unfold Ord
  rw [turned_len]
  exact (List.reverse_perm o).trans h
theorem Ord.turn' {o : List Int} (h : Ord (turned jobs) o) : Ord jobs o.reverse := by
  have := h.turn
  rwa [turned_turned] at this
/-! the told order -/
theorem lt2I_le {a b : Int × Int} : (!lt2I b a) = true ↔ a.1 < b.1 ∨ (a.1 = b.1 ∧ a.2 ≤ b.2) := by
  unfold lt2I lt2 ltI
  split
  · rename_i e
    simp only [Bool.not_eq_true', decide_eq_false_iff_not]
    omega
  · rename_i e
    simp only [Bool.not_eq_true', decide_eq_false_iff_not]
    omega
theorem srt_pw (xs : List (Int × Int)) : (srt lt2I xs).Pairwise fun a b => a.1 ≤ b.1 := by
  unfold srt
  have := List.pairwise_mergeSort (le := fun a b : Int × Int => !lt2I b a) (fun a b c h1 h2 => by rw [lt2I_le] at *; omega) (fun a b => by rw [Bool.or_eq_true, lt2I_le, lt2I_le]; omega) xs
  exact this.imp fun {a b} h => by rw [lt2I_le] at h; omega
theorem srt_perm {α : Type} (lt : α → α → Bool) (xs : List α) : (srt lt xs).Perm xs := List.mergeSort_perm _ _
theorem zip_range (jobs : Jobs) : jobs.zipIdx = (List.range jobs.length).map fun k : Nat => (gi jobs (k : Int), k) := by
  apply List.ext_getElem
  · simp
  · intro i h1 h2
    rw [List.getElem_zipIdx, List.getElem_map, List.getElem_range, gi_eq (by simp at h1; omega) (by omega)]
    simp
theorem ahead_law (jobs : Jobs) : srt lt2I (((List.range jobs.length).filter fun k : Nat => decide ((gi jobs (k : Int)).1 < (gi jobs (k : Int)).2)).map fun k : Nat => ((gi jobs (k : Int)).1, (k : Int))) = ahead jobs := by
  unfold ahead
  rw [zip_range, List.filter_map, List.map_map]
  rfl
theorem behind_law (jobs : Jobs) : srt lt2I (((List.range jobs.length).filter fun k : Nat => decide ((gi jobs (k : Int)).2 ≤ (gi jobs (k : Int)).1)).map fun k : Nat => (0 - (gi jobs (k : Int)).2, (k : Int))) = behind jobs := by
  unfold behind
  rw [zip_range, List.filter_map, List.map_map]
  congr 1
  refine List.map_congr_left fun k _ => ?_
  simp
theorem ahead_mem {p : Int × Int} (h : p ∈ ahead jobs) : p.1 = ja jobs p.2 ∧ ja jobs p.2 < jb jobs p.2 := by
  rw [← ahead_law] at h
  have h := (srt_perm _ _).mem_iff.mp h
  obtain ⟨k, hk, rfl⟩ := List.mem_map.mp h
  have := (List.mem_filter.mp hk).2
  exact ⟨rfl, of_decide_eq_true this⟩
theorem behind_mem {p : Int × Int} (h : p ∈ behind jobs) : p.1 = - jb jobs p.2 ∧ jb jobs p.2 ≤ ja jobs p.2 := by
  rw [← behind_law] at h
  have h := (srt_perm _ _).mem_iff.mp h
  obtain ⟨k, hk, rfl⟩ := List.mem_map.mp h
  have := (List.mem_filter.mp hk).2
  exact ⟨Int.zero_sub _, of_decide_eq_true this⟩
theorem pw_mem {α : Type} {Q : α → α → Prop} {P : α → Prop} : ∀ {xs : List α}, xs.Pairwise Q → (∀ x ∈ xs, P x) → xs.Pairwise fun a b => Q a b ∧ P a ∧ P b
  | [], _, _ => .nil
  | x :: xs, h, m => by
    cases h with
    | cons h1 h2 => exact .cons (fun y hy => ⟨h1 y hy, m x (by simp), m y (by simp [hy])⟩) (pw_mem h2 fun y hy => m y (by simp [hy]))
theorem johnson_pw (jobs : Jobs) : (johnson jobs).Pairwise (Rel jobs) := by
  unfold johnson
  rw [List.pairwise_map, List.pairwise_append]
  refine ⟨(pw_mem (srt_pw _) fun p hp => ahead_mem (jobs := jobs) hp).imp fun {p q} h => ?_, (pw_mem (srt_pw _) fun p hp => behind_mem (jobs := jobs) hp).imp fun {p q} h => ?_, fun p hp q hq => ?_⟩
  · obtain ⟨h1, ⟨h2, h3⟩, h4, h5⟩ := h
    exact ⟨fun _ => ⟨h3, by omega⟩, fun z => absurd h3 (by omega)⟩
  · obtain ⟨h1, ⟨h2, h3⟩, h4, h5⟩ := h
    exact ⟨fun z => absurd h5 (by omega), fun _ => ⟨h5, by omega⟩⟩
  · have h1 := ahead_mem hp
    have h2 := behind_mem hq
    exact ⟨fun z => absurd h2.2 (by omega), fun z => absurd h1.2 (by omega)⟩
theorem zip_snd_range (jobs : Jobs) : (jobs.zipIdx.map fun p => (p.2 : Int)) = (List.range jobs.length).map fun i : Nat => (i : Int) := by
  rw [zip_range, List.map_map]
  rfl
theorem perm_johnson (jobs : Jobs) : Ord jobs (johnson jobs) := by
  unfold Ord johnson ahead behind
  rw [← zip_snd_range]
  refine List.Perm.trans (((srt_perm _ _).append (srt_perm _ _)).map _) ?_
  rw [List.map_append, List.map_map, List.map_map]
  have e : (jobs.zipIdx.filter fun p => decide (p.1.2 ≤ p.1.1)) = jobs.zipIdx.filter fun p => !decide (p.1.1 < p.1.2) := by
    congr 1
    funext p
    rw [Bool.eq_iff_iff]
    simp
  rw [e]
  have := (List.filter_append_perm (fun p : (Int × Int) × Nat => decide (p.1.1 < p.1.2)) jobs.zipIdx).map fun p => (p.2 : Int)
  rw [List.map_append] at this
  exact this
theorem range_nodup (n : Nat) : ((List.range n).map fun i : Nat => (i : Int)).Nodup := by
  have := List.nodup_range (n := n)
  rw [List.Nodup, List.pairwise_map]
  exact this.imp fun {a b} h => by omega
theorem Ord.nodup {o : List Int} (h : Ord jobs o) : o.Nodup := h.nodup_iff.mpr (range_nodup _)
theorem johnson_best (h : Pos jobs) {o : List Int} (ho : Ord jobs o) : R jobs (johnson jobs) ≤ R jobs o :=
  best h (johnson_pw jobs) (perm_johnson jobs).nodup (ho.trans (perm_johnson jobs).symm)
theorem Ord.inR {o : List Int} (h : Ord jobs o) : K51.inR jobs.length o := fun j hj => by
  obtain ⟨i, hi, rfl⟩ := List.mem_map.mp (h.mem_iff.mp hj)
  have := List.mem_range.mp hi
  omega
theorem Ord.len {o : List Int} (h : Ord jobs o) : o.length = jobs.length := by have := h.length_eq; simpa using this
theorem johnson_turn (h : Pos jobs) : R (turned jobs) (johnson (turned jobs)) = R jobs (johnson jobs) := by
  have h1 := johnson_best (turned_pos h) (perm_johnson jobs).turn
  rw [R_turn h] at h1
  have h2 := johnson_best h (perm_johnson (turned jobs)).turn'
  have h3 := R_turn (turned_pos h) (johnson (turned jobs))
  rw [turned_turned] at h3
  omega
/-! all orders -/
def ordNext (n : Nat) (o : List Int) : List (List Int) := ((List.range n).filter fun a : Nat => !decide ((a : Int) ∈ o)).map fun a : Nat => o ++ [(a : Int)]
def ordStep (n : Nat) (found : List (List Int)) : List (List Int) := found.flatMap (ordNext n)
def ordersK (n : Nat) : Nat → List (List Int)
  | 0 => [[]]
  | k + 1 => ordStep n (ordersK n k)
theorem mem_orders (n : Nat) : ∀ (k : Nat) (o : List Int), o ∈ ordersK n k ↔ o.length = k ∧ o.Nodup ∧ inR n o
  | 0, o => by
    show o ∈ [[]] ↔ _
    constructor
    · intro h
      have : o = [] := by simpa using h
      subst this
      exact ⟨rfl, .nil, fun j hj => by simp at hj⟩
    · rintro ⟨h, _⟩
      have : o = [] := List.length_eq_zero_iff.mp h
      simp [this]
  | k + 1, o => by
    show o ∈ (ordersK n k).flatMap (ordNext n) ↔ _
    rw [List.mem_flatMap]
    constructor
    · rintro ⟨l, hl, ho⟩
      obtain ⟨h1, h2, h3⟩ := (mem_orders n k l).mp hl
      obtain ⟨a, ha, rfl⟩ := List.mem_map.mp ho
      obtain ⟨ha1, ha2⟩ := List.mem_filter.mp ha
      have ha1 := List.mem_range.mp ha1
      have ha2 : ¬ (a : Int) ∈ l := by simpa using ha2
      refine ⟨by simp [h1], ?_, fun j hj => ?_⟩
      · rw [List.nodup_append]
        exact ⟨h2, by simp, fun x hx y hy => by
          have : y = (a : Int) := by simpa using hy
          subst this
          intro z
          exact ha2 (z ▸ hx)⟩
      · rcases List.mem_append.mp hj with z | z
        · exact h3 j z
        · have : j = (a : Int) := by simpa using z
          omega
    · rintro ⟨h1, h2, h3⟩
      have ne : o ≠ [] := fun z => by subst z; simp at h1
      have e := List.dropLast_concat_getLast ne
      have hr := h3 (o.getLast ne) (List.getLast_mem ne)
      have nd := h2
      rw [← e, List.nodup_append] at nd
      refine ⟨o.dropLast, (mem_orders n k _).mpr ⟨by rw [List.length_dropLast]; omega, nd.1, fun j hj => h3 j (List.dropLast_sublist o |>.subset hj)⟩, ?_⟩
      refine List.mem_map.mpr ⟨(o.getLast ne).toNat, List.mem_filter.mpr ⟨List.mem_range.mpr (by omega), ?_⟩, ?_⟩
      · have : (((o.getLast ne).toNat : Nat) : Int) = o.getLast ne := by omega
        rw [this]
        simp only [Bool.not_eq_true', decide_eq_false_iff_not]
        exact fun z => nd.2.2 _ z _ (by simp) rfl
      · have : (((o.getLast ne).toNat : Nat) : Int) = o.getLast ne := by omega
        rw [this]
        exact e
theorem sub_len {α : Type} [BEq α] [LawfulBEq α] : ∀ (a b : List α), a.Nodup → (∀ x ∈ a, x ∈ b) → a.length ≤ b.length
  | [], b, _, _ => Nat.zero_le _
  | x :: a, b, nd, s => by
    have hx := s x (by simp)
    have nd := List.nodup_cons.mp nd
    have := sub_len a (b.erase x) nd.2 fun y hy => (List.mem_erase_of_ne fun (z : y = x) => nd.1 (z ▸ hy)).mpr (s y (by simp [hy]))
    rw [List.length_erase_of_mem hx] at this
    have := List.length_pos_of_mem hx
    rw [List.length_cons]
    omega
theorem sub_perm {α : Type} [BEq α] [LawfulBEq α] : ∀ (b a : List α), a.Nodup → (∀ x ∈ a, x ∈ b) → b.length ≤ a.length → a.Perm b
  | [], a, _, s, _ => by
    cases a with
    | nil => exact .nil
    | cons x a => exact absurd (s x (by simp)) (by simp)
  | y :: b, a, nd, s, hl => by
    by_cases hy : y ∈ a
    · refine (List.perm_cons_erase hy).trans (List.Perm.cons y (sub_perm b (a.erase y) (nd.erase y) (fun x hx => ?_) ?_))
      · have h1 := s x (List.mem_of_mem_erase hx)
        rcases List.mem_cons.mp h1 with rfl | h1
        · exact absurd hx (fun z => by rw [List.Nodup.mem_erase_iff nd] at z; exact z.1 rfl)
        · exact h1
      · rw [List.length_erase_of_mem hy]
        rw [List.length_cons] at hl
        omega
    · have := sub_len a b nd fun x hx => by
        rcases List.mem_cons.mp (s x hx) with rfl | h
        · exact absurd hx hy
        · exact h
      rw [List.length_cons] at hl
      omega
theorem ord_iff (o : List Int) : o ∈ ordersK jobs.length jobs.length ↔ Ord jobs o := by
  rw [mem_orders]
  constructor
  · rintro ⟨h1, h2, h3⟩
    refine sub_perm _ _ h2 (fun x hx => ?_) (by simp [h1])
    have := h3 x hx
    exact List.mem_map.mpr ⟨x.toNat, List.mem_range.mpr (by omega), by omega⟩
  · intro h
    exact ⟨h.len, h.nodup, h.inR⟩
/-! bars, sums -/
def flowBar (jobs : Jobs) : Int := max (max (sumA jobs + mnI (jobs.map fun p => p.2)) (sumB jobs + mnI (jobs.map fun p => p.1))) (mxI (jobs.map fun p => p.1 + p.2))
theorem bars_eq (ne : jobs ≠ []) : mxI ([sumA jobs + mnI (jobs.map fun p => p.2), sumB jobs + mnI (jobs.map fun p => p.1)] ++ jobs.map fun p => p.1 + p.2) = flowBar jobs := by
  have ne2 : (jobs.map fun p => p.1 + p.2) ≠ [] := by simpa using ne
  have hm := mxI_mem ne2
  have hg := mxI_ge (ns := jobs.map fun p => p.1 + p.2)
  unfold flowBar
  generalize hM : mxI (jobs.map fun p => p.1 + p.2) = M at hm hg ⊢
  generalize sumA jobs + mnI (jobs.map fun p => p.2) = x
  generalize sumB jobs + mnI (jobs.map fun p => p.1) = y
  refine mxI_is ?_ fun z hz => ?_
  · rcases Int.le_total (max x y) M with h | h
    · rw [Int.max_eq_right h]
      exact List.mem_append.mpr (.inr hm)
    · rw [Int.max_eq_left h]
      rcases Int.le_total x y with h2 | h2
      · rw [Int.max_eq_right h2]; simp
      · rw [Int.max_eq_left h2]; simp
  · rcases List.mem_append.mp hz with h | h
    · have : z = x ∨ z = y := by simpa using h
      omega
    · have := hg z h
      omega
theorem gi_memJ {j : Int} (h : 0 ≤ j) (h2 : j < jobs.length) : gi jobs j ∈ jobs := gi_memI h2 h
theorem bar_le (h : Pos jobs) (ne : jobs ≠ []) {o : List Int} (ho : Ord jobs o) : flowBar jobs ≤ R jobs o := by
  have one : o ≠ [] := fun z => by
    have := ho.len
    rw [z] at this
    exact ne (List.length_eq_zero_iff.mp this.symm)
  have hin := ho.inR
  have sA := ho.sa
  have sB := ho.sb
  have b1 : sumA jobs + mnI (jobs.map fun p => p.2) ≤ R jobs o := by
    have e := List.dropLast_concat_getLast one
    have v := R_ge (jobs := jobs) o.dropLast (o.getLast one) []
    rw [e] at v
    have hr := hin _ (List.getLast_mem one)
    have m := mnI_le (ns := jobs.map fun p => p.2) (jb jobs (o.getLast one)) (List.mem_map.mpr ⟨_, gi_memJ hr.1 hr.2, rfl⟩)
    have : K51.sa jobs o = K51.sa jobs o.dropLast + ja jobs (o.getLast one) := by
      conv => lhs; rw [← e]
      unfold K51.sa
      simp
    have z : K51.sb jobs [] = 0 := rfl
    omega
  have b2 : sumB jobs + mnI (jobs.map fun p => p.1) ≤ R jobs o := by
    cases o with
    | nil => exact absurd rfl one
    | cons j r =>
      have v := R_ge (jobs := jobs) [] j r
      have hr := hin j (by simp)
      have m := mnI_le (ns := jobs.map fun p => p.1) (ja jobs j) (List.mem_map.mpr ⟨_, gi_memJ hr.1 hr.2, rfl⟩)
      have z : K51.sa jobs [] = 0 := rfl
      have : K51.sb jobs (j :: r) = jb jobs j + K51.sb jobs r := rfl
      simp only [List.nil_append] at v
      omega
  have b3 : mxI (jobs.map fun p => p.1 + p.2) ≤ R jobs o := by
    have ne2 : (jobs.map fun p => p.1 + p.2) ≠ [] := by simpa using ne
    obtain ⟨p, hp, e⟩ := List.mem_map.mp (mxI_mem ne2)
    rw [← e]
    obtain ⟨i, hi, ei⟩ := List.getElem_of_mem hp
    have hm : (i : Int) ∈ o := ho.mem_iff.mpr (List.mem_map.mpr ⟨i, List.mem_range.mpr hi, rfl⟩)
    obtain ⟨l, r, eo⟩ := List.append_of_mem hm
    have v := R_ge (jobs := jobs) l i r
    rw [← eo] at v
    have g : gi jobs (i : Int) = p := by rw [gi_eq (by omega) (by omega)]; exact ei
    have h1 := sa_pos h l
    have h2 := sb_pos h r
    unfold ja jb at v
    rw [g] at v
    omega
  unfold flowBar
  omega
theorem sums_eq (h : Pos jobs) {o : List Int} : mxI (((List.range o.length).map fun k : Nat => ((o.take (k + 1)).map (ja jobs)).sum + ((o.drop k).map (jb jobs)).sum) ++ [0]) = R jobs o := by
  have hs := R_sb h o
  have hp := sb_pos h o
  refine mxI_is ?_ fun z hz => ?_
  · by_cases ne : o = []
    · subst ne; simp [R]
    · obtain ⟨l, j, r, e, q⟩ := R_is h o ne
      refine List.mem_append.mpr (.inl (List.mem_map.mpr ⟨l.length, List.mem_range.mpr (by rw [e]; simp), ?_⟩))
      rw [q, e]
      have h1 : (l ++ j :: r).take (l.length + 1) = l ++ [j] := by
        rw [show l ++ j :: r = (l ++ [j]) ++ r by simp, List.take_left' (by simp)]
      have h2 : (l ++ j :: r).drop l.length = j :: r := List.drop_left' rfl
      rw [h1, h2]
      unfold sa sb
      simp
  · rcases List.mem_append.mp hz with hz | hz
    · obtain ⟨k, hk, rfl⟩ := List.mem_map.mp hz
      have hk := List.mem_range.mp hk
      have e : o = o.take k ++ o[k] :: o.drop (k + 1) := by
        rw [← List.drop_eq_getElem_cons hk, List.take_append_drop]
      have v := R_ge (jobs := jobs) (o.take k) o[k] (o.drop (k + 1))
      rw [← e] at v
      have h1 : o.take (k + 1) = o.take k ++ [o[k]] := by rw [List.take_succ_eq_append_getElem hk]
      have h2 : o.drop k = o[k] :: o.drop (k + 1) := List.drop_eq_getElem_cons hk
      rw [h1, h2]
      unfold sa sb at v
      simp only [List.map_append, List.sum_append, List.map_cons, List.sum_cons, List.map_nil, List.sum_nil]
      omega
    · have : z = 0 := by simpa using hz
      omega
theorem least_eq (h : Pos jobs) : mnI ((ordersK jobs.length jobs.length).map (lawSpan jobs)) = R jobs (johnson jobs) := by
  refine mnI_is (List.mem_map.mpr ⟨johnson jobs, (ord_iff _).mpr (perm_johnson jobs), lawSpan_R h _⟩) fun y hy => ?_
  obtain ⟨o, ho, rfl⟩ := List.mem_map.mp hy
  rw [lawSpan_R h]
  exact johnson_best h ((ord_iff o).mp ho)
end
end K51

set_option Elab.async false
set_option linter.all false
set_option maxRecDepth 100000
set_option maxHeartbeats 2000000
namespace K03
open PySem PySem.Spec PyProof.Rows L2 DL PL
abbrev Pc := Int × Int × Int × Int
abbrev Jobs := List (Int × Int)
def dur (p : Pc) : Int := p.2.2.2 - p.2.2.1
def Seq (plan : List Pc) : Prop := plan.Pairwise fun p q => p.2.2.2 ≤ q.2.2.1
/-- pieces one after another are not longer together than the hours from s to T -/
theorem dur_le {T : Int} : ∀ (plan : List Pc) (s : Int), s ≤ T → Seq plan → (∀ p ∈ plan, s ≤ p.2.2.1 ∧ p.2.2.1 ≤ p.2.2.2 ∧ p.2.2.2 ≤ T) → (plan.map dur).sum ≤ T - s
  | [], s, h, _, _ => by simp; omega
  | p :: plan, s, h, hs, hp => by
    obtain ⟨h1, h2⟩ := List.pairwise_cons.mp hs
    have hp0 := hp p (by simp)
    have := dur_le plan p.2.2.2 hp0.2.2 h2 fun q hq => by
      have := hp q (by simp [hq])
      exact ⟨h1 q hq, this.2⟩
    rw [List.map_cons, List.sum_cons]
    unfold dur at *
    omega
/-- the hours of the jobs of a kind -/
theorem dur_parts {n : Nat} (S : Nat → Bool) : ∀ plan : List Pc, (∀ p ∈ plan, 0 ≤ p.1 ∧ p.1 < n) →
    ((plan.filter fun p => S p.1.toNat).map dur).sum = sm n fun i => if S i then ((plan.filter fun p => decide (p.1 = (i : Int))).map dur).sum else 0
  | [], _ => by rw [sm_zero fun i _ => by simp]; simp
  | p :: plan, h => by
    have ih := dur_parts (n := n) S plan fun q hq => h q (by simp [hq])
    have hp := h p (by simp)
    have e : (sm n fun i => if S i then (((p :: plan).filter fun p => decide (p.1 = (i : Int))).map dur).sum else 0) =
        (sm n fun i => if i = p.1.toNat then (if S i then dur p else 0) else 0) + sm n fun i => if S i then ((plan.filter fun p => decide (p.1 = (i : Int))).map dur).sum else 0 := by
      rw [← sm_addf]
      refine sm_congr fun i hi => ?_
      by_cases c : i = p.1.toNat
      · have e : decide (p.1 = (i : Int)) = true := by rw [decide_eq_true_eq]; omega
        rw [if_pos c, List.filter_cons_of_pos (p := fun p : Pc => decide (p.1 = (i : Int))) e, List.map_cons, List.sum_cons]
        cases S i <;> simp
      · have e : ¬ decide (p.1 = (i : Int)) = true := by rw [decide_eq_true_eq]; omega
        rw [if_neg c, List.filter_cons_of_neg (p := fun p : Pc => decide (p.1 = (i : Int))) e, Int.zero_add]
    rw [e, sm_one (k := p.1.toNat) (by omega) (fun i _ ne => by rw [if_neg ne]), if_pos rfl, ← ih]
    by_cases hS : S p.1.toNat = true
    · rw [List.filter_cons_of_pos (p := fun p : Pc => S p.1.toNat) hS, if_pos hS, List.map_cons, List.sum_cons]
    · rw [List.filter_cons_of_neg (p := fun p : Pc => S p.1.toNat) hS, if_neg hS, Int.zero_add]
/-- the latest end of a job's pieces -/
def endOf (plan : List Pc) (m : Int) (j : Int) : Int := plan.foldl (fun m p => if p.1 = j then max m p.2.2.2 else m) m
theorem endOf_ge : ∀ (plan : List Pc) (m j : Int), m ≤ endOf plan m j ∧ ∀ p ∈ plan, p.1 = j → p.2.2.2 ≤ endOf plan m j
  | [], m, j => ⟨Int.le_refl _, by simp⟩
  | p :: plan, m, j => by
    obtain ⟨h1, h2⟩ := endOf_ge plan (if p.1 = j then max m p.2.2.2 else m) j
    refine ⟨?_, fun q hq e => ?_⟩
    · refine Int.le_trans ?_ h1
      split <;> omega
    · rcases List.mem_cons.mp hq with rfl | hq
      · refine Int.le_trans ?_ h1
        rw [if_pos e]
        omega
      · exact h2 q hq e
theorem endOf_le {B : Int} : ∀ (plan : List Pc) (m j : Int), m ≤ B → (∀ p ∈ plan, p.2.2.2 ≤ B) → endOf plan m j ≤ B
  | [], m, j, h, _ => h
  | p :: plan, m, j, h, hp => endOf_le plan _ j (by have := hp p (by simp); show (if p.1 = j then max m p.2.2.2 else m) ≤ B; split <;> omega) fun q hq => hp q (by simp [hq])
def endStep (s : List Int) (p : Pc) : List Int := s.set p.1.toNat (max (gi s p.1) p.2.2.2)
theorem ends_gi : ∀ (plan : List Pc) (s : List Int), (∀ p ∈ plan, 0 ≤ p.1 ∧ p.1 < s.length) → (plan.foldl endStep s).length = s.length ∧ ∀ j : Nat, j < s.length → gi (plan.foldl endStep s) (j : Int) = endOf plan (gi s j) j
  | [], s, _ => ⟨rfl, fun _ _ => rfl⟩
  | p :: plan, s, h => by
    have hp := h p (by simp)
    obtain ⟨h1, h2⟩ := ends_gi plan (endStep s p) fun q hq => by simp only [endStep, List.length_set]; exact h q (by simp [hq])
    have hl : (endStep s p).length = s.length := by simp [endStep]
    refine ⟨by rw [List.foldl_cons, h1, hl], fun j hj => ?_⟩
    rw [List.foldl_cons, h2 j (by omega)]
    show _ = endOf plan _ _
    congr 1
    show gi (endStep s p) (j : Int) = if p.1 = (j : Int) then max (gi s j) p.2.2.2 else gi s j
    unfold endStep
    by_cases c : p.1 = (j : Int)
    · rw [if_pos c, c]
      have : ((j : Int)).toNat = j := by omega
      rw [this, gi_set_same hj]
    · rw [if_neg c, gi_set_ne hj (by omega)]
def endsOf (n : Int) (plan : List Pc) : List Int := plan.foldl endStep (List.replicate n.toNat 0)
theorem gi_rep {n j : Nat} (h : j < n) : gi (List.replicate n (0 : Int)) (j : Int) = 0 := by
  rw [gi_at (by simpa using h)]; simp
structure PlanOk (ls : List Int) (plan : List Pc) : Prop where
  jb : ∀ p ∈ plan, 0 ≤ p.1 ∧ p.1 < ls.length
  hd : ∀ p ∈ plan, p.2.1 = 0
  tm : ∀ p ∈ plan, 0 ≤ p.2.2.1 ∧ p.2.2.1 < p.2.2.2
  sq : Seq plan
  du : ∀ i : Nat, i < ls.length → ((plan.filter fun p => decide (p.1 = (i : Int))).map dur).sum = gi ls i
section
variable {ls : List Int} {plan : List Pc}
theorem ends_len (h : PlanOk ls plan) : (endsOf ls.length plan).length = ls.length := by
  have := (ends_gi plan (List.replicate ls.length 0) (fun p hp => by simpa using h.jb p hp)).1
  simpa [endsOf] using this
theorem ends_at (h : PlanOk ls plan) {j : Nat} (hj : j < ls.length) : gi (endsOf ls.length plan) (j : Int) = endOf plan 0 j := by
  have := (ends_gi plan (List.replicate ls.length 0) (fun p hp => by simpa using h.jb p hp)).2 j (by simpa using hj)
  rw [gi_rep hj] at this
  simpa [endsOf] using this
/-- all that ends by the end of j stands ahead of it -/
theorem end_ge (h : PlanOk ls plan) {j : Nat} (hj : j < ls.length) : (sm ls.length fun i => if endOf plan 0 i ≤ endOf plan 0 j then gi ls i else 0) ≤ endOf plan 0 j := by
  have e := dur_parts (n := ls.length) (fun i => decide (endOf plan 0 i ≤ endOf plan 0 j)) plan h.jb
  have e2 : (sm ls.length fun i => if (decide (endOf plan 0 i ≤ endOf plan 0 j)) = true then ((plan.filter fun p => decide (p.1 = (i : Int))).map dur).sum else 0) = sm ls.length fun i => if endOf plan 0 i ≤ endOf plan 0 j then gi ls i else 0 := by
    refine sm_congr fun i hi => ?_
    rw [h.du i hi]
    simp
  rw [e2] at e
  rw [← e]
  have := dur_le (T := endOf plan 0 j) (plan.filter fun p => decide (endOf plan 0 p.1.toNat ≤ endOf plan 0 j)) 0 (endOf_ge plan 0 j).1 (h.sq.filter _) fun p hp => by
    obtain ⟨h1, h2⟩ := List.mem_filter.mp hp
    have h3 := h.tm p h1
    have h4 := h.jb p h1
    have h5 := (endOf_ge plan 0 p.1).2 p h1 rfl
    have h6 : ((p.1.toNat : Nat) : Int) = p.1 := by omega
    rw [h6] at h2
    have h2 : endOf plan 0 p.1 ≤ endOf plan 0 j := by simpa using h2
    omega
  omega
/-- the hours of the plan together -/
theorem span_ge (h : PlanOk ls plan) {T : Int} (h0 : 0 ≤ T) (hT : ∀ p ∈ plan, p.2.2.2 ≤ T) : ls.sum ≤ T := by
  have e := dur_parts (n := ls.length) (fun _ => true) plan h.jb
  have e2 : (sm ls.length fun i => if true = true then ((plan.filter fun p => decide (p.1 = (i : Int))).map dur).sum else 0) = ls.sum := by
    rw [← sum_gi (xs := ls) rfl]
    refine sm_congr fun i hi => ?_
    rw [if_pos rfl, h.du i hi]
  rw [e2] at e
  have := dur_le (T := T) (plan.filter fun _ => true) 0 h0 (h.sq.filter _) fun p hp => by
    have h1 := (List.mem_filter.mp hp).1
    have h3 := h.tm p h1
    have := hT p h1
    omega
  omega
end
/-! ### the least worth -/
def pairs (f : Int × Int → Int × Int → Int) : Jobs → Int
  | [] => 0
  | x :: xs => (xs.map (f x)).sum + pairs f xs
theorem pairs_perm {f : Int × Int → Int × Int → Int} (sy : ∀ x y, f x y = f y x) {xs ys : Jobs} (h : xs.Perm ys) : pairs f xs = pairs f ys := by
  induction h with
  | nil => rfl
  | cons a h ih =>
    simp only [pairs, ih]
    rw [perm_sum (h.map (f a))]
  | swap a b l =>
    simp only [pairs, List.map_cons, List.sum_cons, sy a b]
    omega
  | trans h1 h2 ih1 ih2 => exact ih1.trans ih2
def mnF (x y : Int × Int) : Int := min (x.1 * y.2) (y.1 * x.2)
theorem mnF_sy (x y : Int × Int) : mnF x y = mnF y x := Int.min_comm _ _
def leastW (jobs : Jobs) : Int := (jobs.map fun p => p.1 * p.2).sum + pairs mnF jobs
/-- jobs with their ends: each is worth the hours of all that end no later -/
theorem worth_ge : ∀ L : List ((Int × Int) × Int), (∀ x ∈ L, 0 ≤ x.1.1 ∧ 0 ≤ x.1.2) →
    leastW (L.map fun x => x.1) ≤ (L.map fun y => y.1.2 * (L.map fun x => if x.2 ≤ y.2 then x.1.1 else 0).sum).sum
  | [], _ => by simp [leastW, pairs]
  | z :: L, h => by
    have ih := worth_ge L fun x hx => h x (by simp [hx])
    have hz := h z (by simp)
    unfold leastW at *
    simp only [List.map_cons, List.sum_cons, pairs, if_pos (Int.le_refl _)]
    have e1 : (L.map fun y => y.1.2 * ((if z.2 ≤ y.2 then z.1.1 else 0) + (L.map fun x => if x.2 ≤ y.2 then x.1.1 else 0).sum)).sum = (L.map fun y => y.1.2 * (if z.2 ≤ y.2 then z.1.1 else 0)).sum + (L.map fun y => y.1.2 * (L.map fun x => if x.2 ≤ y.2 then x.1.1 else 0).sum).sum := by
      rw [← sum_addf]
      congr 1
      refine List.map_congr_left fun y _ => ?_
      rw [Int.mul_add]
    rw [e1]
    have e2 : z.1.2 * (z.1.1 + (L.map fun x => if x.2 ≤ z.2 then x.1.1 else 0).sum) = z.1.1 * z.1.2 + (L.map fun x => z.1.2 * (if x.2 ≤ z.2 then x.1.1 else 0)).sum := by
      rw [Int.mul_add, sum_mulf, Int.mul_comm]
    rw [e2]
    have e3 : ((L.map fun x => x.1).map (mnF z.1)).sum ≤ (L.map fun x => z.1.2 * (if x.2 ≤ z.2 then x.1.1 else 0) + x.1.2 * (if z.2 ≤ x.2 then z.1.1 else 0)).sum := by
      rw [List.map_map]
      refine sum_le fun y hy => ?_
      have hy := h y (by simp [hy])
      have p1 : 0 ≤ z.1.2 * y.1.1 := Int.mul_nonneg hz.2 hy.1
      have p2 : 0 ≤ y.1.2 * z.1.1 := Int.mul_nonneg hy.2 hz.1
      show min (z.1.1 * y.1.2) (y.1.1 * z.1.2) ≤ _
      have c1 : z.1.1 * y.1.2 = y.1.2 * z.1.1 := Int.mul_comm _ _
      have c2 : y.1.1 * z.1.2 = z.1.2 * y.1.1 := Int.mul_comm _ _
      rw [c1, c2]
      by_cases a : y.2 ≤ z.2
      · rw [if_pos a]
        split <;> omega
      · rw [if_neg a, if_pos (by omega)]
        omega
    rw [sum_addf] at e3
    omega
/-! ### orders -/
def seqPlan (l : Int → Int) : List Int → Int → List Pc
  | [], _ => []
  | j :: o, h => (j, 0, h, h + l j) :: seqPlan l o (h + l j)
def planStep (l : Int → Int) (s : List Pc × Int) (j : Int) : List Pc × Int := (s.1 ++ [(j, 0, s.2, s.2 + l j)], s.2 + l j)
theorem planStep_fold (l : Int → Int) : ∀ (o : List Int) (s : List Pc × Int), (o.foldl (planStep l) s).1 = s.1 ++ seqPlan l o s.2
  | [], s => by simp [seqPlan]
  | j :: o, s => by
    rw [List.foldl_cons, planStep_fold l o]
    simp [planStep, seqPlan]
theorem seqPlan_mem (l : Int → Int) : ∀ (o : List Int) (h : Int) (p : Pc), p ∈ seqPlan l o h → p.1 ∈ o
  | [], h, p, hp => by simp [seqPlan] at hp
  | j :: o, h, p, hp => by
    simp only [seqPlan, List.mem_cons] at hp
    rcases hp with rfl | hp
    · simp
    · simp [seqPlan_mem l o _ p hp]
theorem endOf_out (l : Int → Int) {a : Int} : ∀ (o : List Int) (h m : Int), a ∉ o → endOf (seqPlan l o h) m a = m
  | [], h, m, _ => rfl
  | j :: o, h, m, ha => by
    have : j ≠ a := fun e => ha (by simp [e])
    show endOf (seqPlan l o (h + l j)) (if j = a then _ else m) a = m
    rw [if_neg this]
    exact endOf_out l o _ m fun z => ha (by simp [z])
/-- the end of a in an order: the hours of those ahead and its own -/
theorem endOf_seq (l : Int → Int) {a : Int} : ∀ (x y : List Int) (h m : Int), (x ++ a :: y).Nodup → m ≤ h → (∀ j ∈ x ++ a :: y, 0 ≤ l j) → endOf (seqPlan l (x ++ a :: y) h) m a = h + (x.map l).sum + l a
  | [], y, h, m, nd, hm, hl => by
    have nd := List.nodup_cons.mp nd
    show endOf (seqPlan l y (h + l a)) (if a = a then max m (h + l a) else m) a = _
    rw [if_pos rfl, endOf_out l y _ _ nd.1]
    have := hl a (by simp)
    simp
    omega
  | j :: x, y, h, m, nd, hm, hl => by
    obtain ⟨n1, n2⟩ := List.nodup_cons.mp nd
    have : j ≠ a := fun e => n1 (by simp [e])
    show endOf (seqPlan l (x ++ a :: y) (h + l j)) (if j = a then _ else m) a = _
    have h0 := hl j (by simp)
    rw [if_neg this, endOf_seq l x y _ m n2 (by omega) fun i hi => hl i (List.mem_cons_of_mem _ hi)]
    simp
    omega
/-- all ends of an order together -/
def tri : List Int → Int
  | [] => 0
  | x :: xs => (xs.length + 1) * x + tri xs
theorem ends_sum (l : Int → Int) : ∀ (o : List Int) (h : Int) (m : Int → Int), o.Nodup → (∀ j ∈ o, m j ≤ h) → (∀ j ∈ o, 0 ≤ l j) → (o.map fun a => endOf (seqPlan l o h) (m a) a).sum = o.length * h + tri (o.map l)
  | [], h, m, _, _, _ => by simp [tri]
  | j :: o, h, m, nd, hm, hl => by
    obtain ⟨n1, n2⟩ := List.nodup_cons.mp nd
    have h0 := hl j (by simp)
    have ih := ends_sum l o (h + l j) m n2 (fun i hi => by have := hm i (by simp [hi]); omega) fun i hi => hl i (by simp [hi])
    have e1 : endOf (seqPlan l (j :: o) h) (m j) j = h + l j := by
      have := endOf_seq l (a := j) [] o h (m j) (by simpa using nd) (hm j (by simp)) hl
      simpa using this
    have e2 : (o.map fun a => endOf (seqPlan l (j :: o) h) (m a) a) = o.map fun a => endOf (seqPlan l o (h + l j)) (m a) a := by
      refine List.map_congr_left fun a ha => ?_
      have : j ≠ a := fun e => n1 (by rw [e]; exact ha)
      show endOf (seqPlan l o (h + l j)) (if j = a then _ else m a) a = _
      rw [if_neg this]
    rw [List.map_cons, List.sum_cons, e1, e2, ih, List.map_cons, tri, List.length_cons, List.length_map, Int.natCast_add, Int.add_mul, Int.mul_add, Int.add_mul]
    omega
theorem tri_zip : ∀ (xs : List Int) (c : Nat), (xs.zipIdx c |>.map fun x => ((xs.length + c : Int) - (x.2 : Int)) * x.1).sum = tri xs
  | [], c => by simp [tri]
  | x :: xs, c => by
    have ih := tri_zip xs (c + 1)
    rw [List.zipIdx_cons, List.map_cons, List.sum_cons, tri, List.length_cons]
    have e : (xs.zipIdx (c + 1) |>.map fun y => (((xs.length + 1 : Nat) : Int) + c - (y.2 : Int)) * y.1) = (xs.zipIdx (c + 1) |>.map fun y => ((xs.length + (c + 1 : Nat) : Int) - (y.2 : Int)) * y.1) := by
      refine List.map_congr_left fun y _ => ?_
      congr 1
      omega
    have e2 : (((xs.length + 1 : Nat) : Int) + (c : Int) - (c : Int)) = xs.length + 1 := by omega
    rw [e, ih, e2]
theorem sum_const {α : Type} (c : Int) : ∀ xs : List α, (xs.map fun _ => c).sum = xs.length * c
  | [] => by simp
  | x :: xs => by rw [List.map_cons, List.sum_cons, sum_const c xs, List.length_cons, Int.natCast_add, Int.add_mul]; omega
theorem tri_least : ∀ xs : List Int, xs.Pairwise (· ≤ ·) → leastW (xs.map fun x => (x, 1)) = tri xs
  | [], _ => by simp [leastW, pairs, tri]
  | x :: xs, h => by
    obtain ⟨h1, h2⟩ := List.pairwise_cons.mp h
    have ih := tri_least xs h2
    unfold leastW at *
    simp only [List.map_cons, List.sum_cons, pairs, tri]
    have e : ((xs.map fun x => (x, (1 : Int))).map (mnF (x, 1))).sum = xs.length * x := by
      rw [List.map_map]
      have : (xs.map (mnF (x, 1) ∘ fun x => (x, (1 : Int)))) = xs.map fun _ => x := by
        refine List.map_congr_left fun y hy => ?_
        have := h1 y hy
        show min (x * 1) (y * 1) = x
        omega
      rw [this, sum_const]
    rw [e, Int.add_mul]
    omega
/-! ### shortest first -/
theorem filter_less {α : Type} {p q : α → Bool} : ∀ {xs : List α}, (∀ x, p x = true → q x = true) → (xs.filter p).length ≤ (xs.filter q).length
  | [], _ => by simp
  | x :: xs, h => by
    have ih := filter_less (xs := xs) h
    rw [List.filter_cons, List.filter_cons]
    by_cases c : p x = true
    · rw [if_pos c, if_pos (h x c)]; simp; exact ih
    · rw [if_neg c]
      split
      · simp; omega
      · exact ih
theorem filter_lt {α : Type} {p q : α → Bool} {y : α} : ∀ {xs : List α}, (∀ x, p x = true → q x = true) → y ∈ xs → q y = true → p y = false → (xs.filter p).length < (xs.filter q).length
  | [], _, hy, _, _ => by simp at hy
  | x :: xs, h, hy, hq, hp => by
    rw [List.filter_cons, List.filter_cons]
    rcases List.mem_cons.mp hy with rfl | hy
    · rw [if_neg (by simp [hp]), if_pos hq]
      have := filter_less (xs := xs) h
      simp
      omega
    · have ih := filter_lt (xs := xs) h hy hq hp
      by_cases c : p x = true
      · rw [if_pos c, if_pos (h x c)]; simp; exact ih
      · rw [if_neg c]
        split
        · simp; omega
        · exact ih
end K03

set_option Elab.async false
set_option linter.all false
set_option maxRecDepth 100000
set_option maxHeartbeats 2000000
/-! M17: worths of orders, exchanged blocks; orders that keep aheads; rows of keys -/
namespace PL
open PySem PySem.Spec PyProof.Rows L2 DL K03
/-! ### worth of an order, told from its begin -/
def wr (l w : Int → Int) : List Int → Int → Int
  | [], _ => 0
  | a :: o, h => (h + l a) * w a + wr l w o (h + l a)
section
variable (l w : Int → Int)
theorem wr_app : ∀ (x y : List Int) (h : Int), wr l w (x ++ y) h = wr l w x h + wr l w y (h + (x.map l).sum)
  | [], y, h => by simp [wr]
  | a :: x, y, h => by
    rw [List.cons_append, wr, wr, wr_app x y, List.map_cons, List.sum_cons, Int.add_assoc h]
    omega
theorem wr_shift : ∀ (x : List Int) (h d : Int), wr l w x (h + d) = wr l w x h + d * (x.map w).sum
  | [], h, d => by simp [wr]
  | a :: x, h, d => by
    have e : h + d + l a = h + l a + d := by omega
    rw [wr, wr, e, wr_shift x, List.map_cons, List.sum_cons, Int.add_mul (h + l a), Int.mul_add d]
    omega
theorem wr_exch (A B C E : List Int) (h : Int) : wr l w (((A ++ C) ++ B) ++ E) h - wr l w (A ++ (B ++ (C ++ E))) h = (B.map w).sum * (C.map l).sum - (C.map w).sum * (B.map l).sum := by
  simp only [List.append_assoc, wr_app, wr_shift l w B _ (C.map l).sum, wr_shift l w C _ (B.map l).sum]
  have e : h + (A.map l).sum + (C.map l).sum + (B.map l).sum = h + (A.map l).sum + (B.map l).sum + (C.map l).sum := by omega
  rw [e, Int.mul_comm (C.map l).sum, Int.mul_comm (B.map l).sum]
  omega
theorem wr_rev : ∀ o : List Int, wr w l o.reverse 0 = wr l w o 0
  | [] => rfl
  | a :: o => by
    have e : (o.reverse.map w).sum = (o.map w).sum := perm_sum ((List.reverse_perm o).map w)
    rw [List.reverse_cons, wr_app, wr_rev o, wr, wr, wr, wr_shift l w o 0 (l a), e, Int.zero_add, Int.add_mul, Int.zero_add, Int.mul_comm (l a) (w a), Int.mul_comm (l a)]
    omega
theorem wr_fold : ∀ (o : List Int) (h f : Int), (o.foldl (fun (s : Int × Int) a => (s.1 + l a, s.2 + (s.1 + l a) * w a)) (h, f)).2 = f + wr l w o h
  | [], h, f => by simp [wr]
  | a :: o, h, f => by
    rw [List.foldl_cons, wr_fold o, wr]
    dsimp only
    omega
theorem wr_ends : ∀ (o : List Int) (h m : Int), o.Nodup → m ≤ h → (∀ j ∈ o, 0 ≤ l j) → (o.map fun a => w a * endOf (seqPlan l o h) m a).sum = wr l w o h
  | [], h, m, _, _, _ => by simp [wr]
  | j :: o, h, m, nd, hm, hl => by
    obtain ⟨n1, n2⟩ := List.nodup_cons.mp nd
    have h0 := hl j (by simp)
    have ih := wr_ends o (h + l j) m n2 (by omega) fun i hi => hl i (by simp [hi])
    have e1 : endOf (seqPlan l (j :: o) h) m j = h + l j := by
      have := endOf_seq l (a := j) [] o h m (by simpa using nd) hm hl
      simpa using this
    have e2 : (o.map fun a => w a * endOf (seqPlan l (j :: o) h) m a) = o.map fun a => w a * endOf (seqPlan l o (h + l j)) m a := by
      refine List.map_congr_left fun a ha => ?_
      have : j ≠ a := fun e => n1 (by rw [e]; exact ha)
      show w a * endOf (seqPlan l o (h + l j)) (if j = a then _ else m) a = _
      rw [if_neg this]
    rw [List.map_cons, List.sum_cons, e1, e2, ih, wr, Int.mul_comm]
end
/-! ### orders of all -/
def OrdP (n : Nat) (o : List Int) : Prop := o.Perm (idx n)
theorem OrdP.mem {n : Nat} {o : List Int} (h : OrdP n o) {j : Int} : j ∈ o ↔ 0 ≤ j ∧ j < n := h.mem_iff.trans mem_idx
theorem OrdP.len {n : Nat} {o : List Int} (h : OrdP n o) : o.length = n := by rw [h.length_eq, idx_len]
theorem OrdP.nodup {n : Nat} {o : List Int} (h : OrdP n o) : o.Nodup := h.nodup_iff.mpr (idx_nodup n)
theorem OrdP.rev {n : Nat} {o : List Int} (h : OrdP n o) : OrdP n o.reverse := (List.reverse_perm o).trans h
theorem nodup_sub_len : ∀ {xs ys : List Int}, xs.Nodup → (∀ x ∈ xs, x ∈ ys) → xs.length ≤ ys.length
  | [], _, _, _ => by simp
  | x :: xs, ys, nd, h => by
    obtain ⟨n1, n2⟩ := List.nodup_cons.mp nd
    have hx := h x (by simp)
    have := nodup_sub_len (ys := ys.erase x) n2 fun y hy => (List.mem_erase_of_ne (fun e => n1 (by rw [← e]; exact hy))).mpr (h y (by simp [hy]))
    have hl := List.length_erase_of_mem hx
    have := List.length_pos_of_mem hx
    simp only [List.length_cons]
    omega
theorem ordP_of {n : Nat} {o : List Int} (nd : o.Nodup) (hm : ∀ j ∈ o, 0 ≤ j ∧ j < n) (hl : o.length = n) : OrdP n o := by
  refine List.Perm.symm ?_
  have : ∀ {xs ys : List Int}, xs.Nodup → ys.Nodup → (∀ x ∈ xs, x ∈ ys) → ys.length ≤ xs.length → xs.Perm ys := by
    intro xs
    induction xs with
    | nil => intro ys _ _ _ h; cases ys with | nil => exact .nil | cons _ _ => simp at h
    | cons x xs ih =>
      intro ys nx ny h hl
      obtain ⟨n1, n2⟩ := List.nodup_cons.mp nx
      have hx := h x (by simp)
      have hp := List.perm_cons_erase hx
      refine (List.Perm.cons x (ih n2 (ny.erase x) (fun y hy => (List.mem_erase_of_ne (fun e => n1 (by rw [← e]; exact hy))).mpr (h y (by simp [hy]))) ?_)).trans hp.symm
      have := List.length_erase_of_mem hx
      simp only [List.length_cons] at hl
      omega
  exact (this nd (idx_nodup n) (fun x hx => mem_idx.mpr (hm x hx)) (by rw [idx_len]; omega)).symm
section
variable {ls : List Int} {o : List Int}
theorem ord_ends_at (ho : OrdP ls.length o) {j : Nat} (hj : j < ls.length) : gi (endsOf ls.length (seqPlan (gi ls) o 0)) (j : Int) = endOf (seqPlan (gi ls) o 0) 0 j := by
  have := (ends_gi (seqPlan (gi ls) o 0) (List.replicate ls.length 0) (fun p hp => by
    have := ho.mem.mp (seqPlan_mem _ _ _ p hp)
    simpa using this)).2 j (by simpa using hj)
  rw [gi_rep hj] at this
  simpa [endsOf] using this
theorem ord_ends_len (ho : OrdP ls.length o) : (endsOf ls.length (seqPlan (gi ls) o 0)).length = ls.length := by
  have := (ends_gi (seqPlan (gi ls) o 0) (List.replicate ls.length 0) (fun p hp => by
    have := ho.mem.mp (seqPlan_mem _ _ _ p hp)
    simpa using this)).1
  simpa [endsOf] using this
end
/-! ### one ahead of another in an order -/
def Bef (o : List Int) (a b : Int) : Prop := ∃ p q : Nat, o[p]? = some a ∧ o[q]? = some b ∧ p < q
theorem Bef.mem {o : List Int} {a b : Int} (h : Bef o a b) : a ∈ o ∧ b ∈ o := by
  obtain ⟨p, q, h1, h2, _⟩ := h
  exact ⟨List.mem_of_getElem? h1, List.mem_of_getElem? h2⟩
theorem Bef.rev {o : List Int} {a b : Int} (h : Bef o a b) : Bef o.reverse b a := by
  obtain ⟨p, q, h1, h2, h3⟩ := h
  have hp := (List.getElem?_eq_some_iff.mp h1).1
  have hq := (List.getElem?_eq_some_iff.mp h2).1
  refine ⟨o.length - 1 - q, o.length - 1 - p, ?_, ?_, by omega⟩
  · rw [List.getElem?_reverse (by omega)]
    have : o.length - 1 - (o.length - 1 - q) = q := by omega
    rw [this]; exact h2
  · rw [List.getElem?_reverse (by omega)]
    have : o.length - 1 - (o.length - 1 - p) = p := by omega
    rw [this]; exact h1
theorem Bef.app {o : List Int} {a b c : Int} (h : Bef o a b) : Bef (o ++ [c]) a b := by
  obtain ⟨p, q, h1, h2, h3⟩ := h
  have hp := (List.getElem?_eq_some_iff.mp h1).1
  have hq := (List.getElem?_eq_some_iff.mp h2).1
  exact ⟨p, q, by rw [List.getElem?_append_left hp]; exact h1, by rw [List.getElem?_append_left hq]; exact h2, h3⟩
theorem Bef.last {o : List Int} {a b : Int} (h : a ∈ o) : Bef (o ++ [b]) a b := by
  obtain ⟨p, hp, e⟩ := List.getElem_of_mem h
  exact ⟨p, o.length, by rw [List.getElem?_append_left hp, List.getElem?_eq_getElem hp, e], by simp, hp⟩
/-- the first one that is not in s: all ahead of it are -/
theorem first_free {o s : List Int} {aheads : List (Int × Int)} (nd : o.Nodup) (h : ∀ p ∈ aheads, Bef o p.1 p.2) (hx : ∃ x ∈ o, x ∉ s) : ∃ x ∈ o, x ∉ s ∧ ∀ p ∈ aheads, p.2 = x → p.1 ∈ s := by
  obtain ⟨x, hxo, hxs⟩ := hx
  have hlt : o.findIdx (fun y => decide (y ∉ s)) < o.length := List.findIdx_lt_length_of_exists ⟨x, hxo, by simp [hxs]⟩
  have hi := List.findIdx_getElem (xs := o) (p := fun y => decide (y ∉ s)) (w := hlt)
  refine ⟨_, List.getElem_mem hlt, by simpa using hi, fun p hp e => ?_⟩
  obtain ⟨a, b, h1, h2, h3⟩ := h p hp
  obtain ⟨hb, eb⟩ := List.getElem?_eq_some_iff.mp h2
  obtain ⟨ha, ea⟩ := List.getElem?_eq_some_iff.mp h1
  have : b = o.findIdx (fun y => decide (y ∉ s)) := (List.getElem_inj nd).mp (eb.trans e)
  have := List.not_of_lt_findIdx (p := fun y => decide (y ∉ s)) (xs := o) (i := a) (by omega)
  rw [ea] at this
  simpa using this
/-! ### rows of keys -/
section
variable {α β : Type} [DecidableEq α]
theorem dput_new {m : List (α × β)} {k : α} {v : β} (h : k ∉ m.map (·.1)) : dput m k v = m ++ [(k, v)] := by
  unfold dput
  rw [if_neg]
  simp only [List.any_eq_true, decide_eq_true_eq]
  rintro ⟨p, hp, e⟩
  exact h (List.mem_map.mpr ⟨p, hp, e⟩)
theorem dcat_app : ∀ (ps m : List (α × β)), (m ++ ps).map (·.1) |>.Nodup → dcat m ps = m ++ ps
  | [], m, _ => by simp [dcat]
  | p :: ps, m, h => by
    have e : dcat m (p :: ps) = dcat (dput m p.1 p.2) ps := rfl
    rw [e, dput_new, dcat_app ps (m ++ [(p.1, p.2)]) (by simpa using h)]
    · simp
    · intro hm
      rw [List.map_append, List.map_cons] at h
      exact (List.nodup_append.mp h).2.2 _ hm _ (by simp) rfl
theorem dcat_nodup {ps : List (α × β)} (h : (ps.map (·.1)).Nodup) : dcat [] ps = ps := dcat_app ps [] h
theorem dget_at {m : List (α × β)} {k : α} {v : β} (nd : (m.map (·.1)).Nodup) (h : (k, v) ∈ m) : dget m k = some v := by
  induction m with
  | nil => simp at h
  | cons p m ih =>
    rw [List.map_cons, List.nodup_cons] at nd
    rcases List.mem_cons.mp h with e | h
    · subst e; simp [dget]
    · have : p.1 ≠ k := fun e => nd.1 (by rw [e]; exact List.mem_map.mpr ⟨_, h, rfl⟩)
      have e2 : dget (p :: m) k = dget m k := by simp [dget, this]
      rw [e2]
      exact ih nd.2 h
end
theorem cut_len {α : Type} {xs : List α} {lo hi : Option Int} : (cutD xs lo hi).length ≤ xs.length := by
  unfold DL.cutD
  rw [List.length_take, List.length_drop]
  omega
/-- an order in four parts -/
theorem cut4 {α : Type} (o : List α) {i j k : Int} (h0 : 0 ≤ i) (h1 : i ≤ j) (h2 : j ≤ k) : o = cutD o none (some i) ++ (cutD o (some i) (some j) ++ (cutD o (some j) (some k) ++ cutD o (some k) none)) := by
  rw [cut_take h0, cut_mid h0 (by omega), cut_mid (by omega) (by omega), cut_drop (by omega)]
  have e1 : (o.take k.toNat).drop j.toNat ++ o.drop k.toNat = o.drop j.toNat := by
    have := List.take_append_drop k.toNat o
    have e : o.drop j.toNat = (o.take k.toNat ++ o.drop k.toNat).drop j.toNat := by rw [this]
    rw [e, List.drop_append, List.length_take]
    by_cases hk : k.toNat ≤ o.length
    · have : j.toNat - min k.toNat o.length = 0 := by omega
      rw [this, List.drop_zero]
    · rw [List.drop_eq_nil_of_le (as := o) (i := k.toNat) (by omega)]
      simp
  have e2 : (o.take j.toNat).drop i.toNat ++ o.drop j.toNat = o.drop i.toNat := by
    have := List.take_append_drop j.toNat o
    have e : o.drop i.toNat = (o.take j.toNat ++ o.drop j.toNat).drop i.toNat := by rw [this]
    rw [e, List.drop_append, List.length_take]
    by_cases hk : j.toNat ≤ o.length
    · have : i.toNat - min j.toNat o.length = 0 := by omega
      rw [this, List.drop_zero]
    · rw [List.drop_eq_nil_of_le (as := o) (i := j.toNat) (by omega)]
      simp
  rw [e1, e2, List.take_append_drop]
end PL

set_option Elab.async false
set_option linter.all false
set_option maxRecDepth 100000
set_option maxHeartbeats 2000000
/-! M87: three rooms: wide spans, spans -/
namespace K87
open PySem PySem.Spec PyProof.Rows L2 DL PL
abbrev J3 := List (Int × Int × Int)
section
variable {jobs : J3}
abbrev xa (jobs : J3) (j : Int) : Int := (gi jobs j).1
abbrev xb (jobs : J3) (j : Int) : Int := (gi jobs j).2.1
abbrev xc (jobs : J3) (j : Int) : Int := (gi jobs j).2.2
theorem gi_mapD {α β : Type} [Inhabited α] [Inhabited β] {f : α → β} (hf : f default = default) (xs : List α) (j : Int) : gi (xs.map f) j = f (gi xs j) := by
  unfold gi
  rw [List.getD_eq_getElem?_getD, List.getD_eq_getElem?_getD, List.getElem?_map]
  cases xs[j.toNat]? with
  | none => exact hf.symm
  | some _ => rfl
def Pos3 (jobs : J3) : Prop := ∀ p ∈ jobs, 0 ≤ p.1 ∧ 0 ≤ p.2.1 ∧ 0 ≤ p.2.2
theorem gi_pos3 (h : Pos3 jobs) (j : Int) : 0 ≤ xa jobs j ∧ 0 ≤ xb jobs j ∧ 0 ≤ xc jobs j := by
  unfold xa xb xc gi
  rw [List.getD_eq_getElem?_getD]
  cases e : jobs[j.toNat]? with
  | none => exact ⟨Int.le_refl _, Int.le_refl _, Int.le_refl _⟩
  | some p => exact h p (List.mem_of_getElem? e)
def sc (jobs : J3) (o : List Int) : Int := (o.map (xc jobs)).sum
def Wd (jobs : J3) : List Int → Int
  | [] => 0
  | j :: o => max (xa jobs j + xb jobs j + xc jobs j + sc jobs o) (xa jobs j + Wd jobs o)
def prs (jobs : J3) : List (Int × Int) := jobs.map fun x => (x.1 + x.2.1, x.2.1 + x.2.2)
theorem prs_gi (j : Int) : gi (prs jobs) j = (xa jobs j + xb jobs j, xb jobs j + xc jobs j) := gi_mapD (f := fun x : Int × Int × Int => (x.1 + x.2.1, x.2.1 + x.2.2)) rfl jobs j
theorem prs_pos (h : Pos3 jobs) : K51.Pos (prs jobs) := fun p hp => by
  obtain ⟨q, hq, rfl⟩ := List.mem_map.mp hp
  have := h q hq
  dsimp only
  omega
theorem R_Wd : ∀ o : List Int, K51.R (prs jobs) o = Wd jobs o + (o.map (xb jobs)).sum
  | [] => rfl
  | j :: o => by
    have e : K51.sb (prs jobs) o = (o.map (xb jobs)).sum + sc jobs o := by
      unfold K51.sb sc
      rw [← sum_addf]
      refine congrArg List.sum (List.map_congr_left fun i _ => ?_)
      show (gi (prs jobs) i).2 = _
      rw [prs_gi]
    have ea : K51.ja (prs jobs) j = xa jobs j + xb jobs j := by show (gi (prs jobs) j).1 = _; rw [prs_gi]
    have eb : K51.jb (prs jobs) j = xb jobs j + xc jobs j := by show (gi (prs jobs) j).2 = _; rw [prs_gi]
    rw [K51.R, Wd, R_Wd o, e, ea, eb, List.map_cons, List.sum_cons]
    omega
theorem Wd_sc (h : Pos3 jobs) : ∀ o, sc jobs o ≤ Wd jobs o
  | [] => Int.le_refl _
  | j :: o => by
    have := gi_pos3 h j
    show xc jobs j + sc jobs o ≤ max _ _
    omega
theorem sc_nn (h : Pos3 jobs) (o : List Int) : 0 ≤ sc jobs o := sum_nn fun x hx => by obtain ⟨j, _, rfl⟩ := List.mem_map.mp hx; exact (gi_pos3 h j).2.2
theorem Wd_ge : ∀ (l : List Int) (j : Int) (r : List Int), (l.map (xa jobs)).sum + (xa jobs j + xb jobs j + xc jobs j + sc jobs r) ≤ Wd jobs (l ++ j :: r)
  | [], j, r => by
    show (0 : Int) + _ ≤ max _ _
    omega
  | i :: l, j, r => by
    have := Wd_ge l j r
    show xa jobs i + (l.map (xa jobs)).sum + _ ≤ max _ (_ + Wd jobs (l ++ j :: r))
    omega
theorem Wd_is (h : Pos3 jobs) : ∀ o : List Int, o ≠ [] → ∃ l j r, o = l ++ j :: r ∧ Wd jobs o = (l.map (xa jobs)).sum + (xa jobs j + xb jobs j + xc jobs j + sc jobs r)
  | [], ne => absurd rfl ne
  | j :: o, _ => by
    by_cases c : xa jobs j + Wd jobs o ≤ xa jobs j + xb jobs j + xc jobs j + sc jobs o
    · exact ⟨[], j, o, rfl, by rw [Wd]; simp; omega⟩
    · have hp := gi_pos3 h j
      have ho : o ≠ [] := fun e => by subst e; simp [Wd, sc] at c; omega
      obtain ⟨l, i, r, e, q⟩ := Wd_is h o ho
      refine ⟨j :: l, i, r, by rw [e]; rfl, ?_⟩
      rw [Wd, List.map_cons, List.sum_cons]
      omega
theorem Wd_nn (h : Pos3 jobs) (o : List Int) : 0 ≤ Wd jobs o := Int.le_trans (sc_nn h o) (Wd_sc h o)
def tord (jobs : J3) : List Int := K51.johnson (prs jobs)
theorem prs_len : (prs jobs).length = jobs.length := by simp [prs]
theorem tord_ord (jobs : J3) : OrdP jobs.length (tord jobs) := by
  have := K51.perm_johnson (prs jobs)
  unfold K51.Ord at this
  rw [prs_len] at this
  exact this
theorem wide_best (h : Pos3 jobs) {o : List Int} (ho : OrdP jobs.length o) : Wd jobs (tord jobs) ≤ Wd jobs o := by
  have h1 := K51.johnson_best (prs_pos h) (o := o) (by unfold K51.Ord; rw [prs_len]; exact ho)
  rw [R_Wd, R_Wd] at h1
  have e : ((K51.johnson (prs jobs)).map (xb jobs)).sum = (o.map (xb jobs)).sum := perm_sum (((tord_ord jobs).trans ho.symm).map _)
  unfold tord
  omega
def wayL (jobs : J3) (o : List Int) (u v : Int) : Int :=
  ((((DL.cutD o none (some (u + 1))).map (xa jobs)).sum + ((DL.cutD o (some u) (some (v + 1))).map (xb jobs)).sum) + ((DL.cutD o (some v) none).map (xc jobs)).sum)
theorem way_split (l : List Int) (j : Int) (r : List Int) : wayL jobs (l ++ j :: r) (l.length : Int) (l.length : Int) = (l.map (xa jobs)).sum + (xa jobs j + xb jobs j + xc jobs j + sc jobs r) := by
  unfold wayL
  have e1 : ((l.length : Int) + 1).toNat = l.length + 1 := by omega
  have t1 : (l ++ j :: r).take (l.length + 1) = l ++ [j] := by
    rw [List.take_append, List.take_of_length_le (by omega)]
    simp
  rw [cut_take (by omega), cut_mid (by omega) (by omega), cut_drop (by omega), e1, t1, Int.toNat_natCast]
  simp only [List.drop_left, List.map_append, List.sum_append, List.map_cons, List.map_nil, List.sum_cons, List.sum_nil, sc]
  omega
theorem ways_eq (h : Pos3 jobs) (o : List Int) : mxI (((0 : Int) :: (((List.range o.length).map fun k : Nat => wayL jobs o (k : Int) (k : Int)) ++ [])) : List Int) = Wd jobs o := by
  have key : ∀ k : Nat, k < o.length → wayL jobs o (k : Int) (k : Int) ≤ Wd jobs o := fun k hk => by
    have e : o = o.take k ++ o[k] :: o.drop (k + 1) := by rw [← List.drop_eq_getElem_cons hk, List.take_append_drop]
    have hl : (o.take k).length = k := by rw [List.length_take]; omega
    have := way_split (jobs := jobs) (o.take k) o[k] (o.drop (k + 1))
    rw [hl, ← e] at this
    rw [this]
    have q := Wd_ge (jobs := jobs) (o.take k) o[k] (o.drop (k + 1))
    rwa [← e] at q
  refine mxI_is ?_ fun y hy => ?_
  · by_cases ne : o = []
    · subst ne; simp [Wd]
    · obtain ⟨l, j, r, e, q⟩ := Wd_is h o ne
      refine List.mem_cons_of_mem _ (List.mem_append_left _ (List.mem_map.mpr ⟨l.length, List.mem_range.mpr (by rw [e]; simp), ?_⟩))
      rw [q, e]
      exact way_split l j r
  · rcases List.mem_cons.mp hy with rfl | hy
    · exact Wd_nn h o
    · rw [List.append_nil] at hy
      obtain ⟨k, hk, rfl⟩ := List.mem_map.mp hy
      exact key k (List.mem_range.mp hk)
abbrev wStep (jobs : J3) (s : Int × Int) (j : Int) : Int × Int := (s.1 + xa jobs j, max s.2 (s.1 + xa jobs j + xb jobs j) + xc jobs j)
theorem wide_fold (h : Pos3 jobs) : ∀ (o : List Int) (F L : Int), F ≤ L → (o.foldl (wStep jobs) (F, L)).2 = max (L + sc jobs o) (F + Wd jobs o)
  | [], F, L, hc => by
    show L = max (L + 0) (F + 0)
    omega
  | j :: o, F, L, hc => by
    have hp := gi_pos3 h j
    rw [List.foldl_cons, wide_fold h o _ _ (by omega), Wd]
    show _ = max (L + (xc jobs j + sc jobs o)) _
    omega
theorem wide_law (h : Pos3 jobs) (o : List Int) : (o.foldl (wStep jobs) (0, 0)).2 = Wd jobs o := by
  rw [wide_fold h o 0 0 (by omega)]
  have := Wd_sc h o
  omega
end
/-! ### ends in a room -/
section
variable (ls : List Int) (cm : Int → Int)
def run : List Int → Int → List (Int × Int)
  | [], _ => []
  | j :: o, h => (j, max h (cm j) + gi ls j) :: run o (max h (cm j) + gi ls j)
def hrs (o : List Int) (h : Int) : Int := o.foldl (fun h j => max h (cm j) + gi ls j) h
theorem run_keys : ∀ (o : List Int) (h : Int), (run ls cm o h).map (·.1) = o
  | [], _ => rfl
  | j :: o, h => by rw [run, List.map_cons, run_keys o]
theorem run_snoc : ∀ (o : List Int) (h x : Int), run ls cm (o ++ [x]) h = run ls cm o h ++ [(x, max (hrs ls cm o h) (cm x) + gi ls x)]
  | [], _, _ => rfl
  | j :: o, h, x => by
    rw [List.cons_append, run, run_snoc o]
    rfl
theorem hrs_snoc (o : List Int) (h x : Int) : hrs ls cm (o ++ [x]) h = max (hrs ls cm o h) (cm x) + gi ls x := by
  unfold hrs
  rw [List.foldl_append]
  rfl
theorem run_at : ∀ (l : List Int) (u : Int) (r : List Int) (h : Int), (u, hrs ls cm (l ++ [u]) h) ∈ run ls cm (l ++ u :: r) h
  | [], u, r, h => by rw [List.nil_append, run]; exact List.mem_cons_self ..
  | j :: l, u, r, h => by rw [List.cons_append, run]; exact List.mem_cons_of_mem _ (run_at l u r _)
theorem hrs_ge : ∀ (o : List Int) (h : Int), h + (o.map (gi ls)).sum ≤ hrs ls cm o h
  | [], h => by simp [hrs]
  | j :: o, h => by
    have := hrs_ge o (max h (cm j) + gi ls j)
    rw [List.map_cons, List.sum_cons]
    show _ ≤ hrs ls cm o (max h (cm j) + gi ls j)
    omega
theorem hrs_split (l : List Int) (u : Int) (r : List Int) (h : Int) : cm u + gi ls u + (r.map (gi ls)).sum ≤ hrs ls cm (l ++ u :: r) h := by
  have e : l ++ u :: r = (l ++ [u]) ++ r := by simp
  have e2 : hrs ls cm ((l ++ [u]) ++ r) h = hrs ls cm r (hrs ls cm (l ++ [u]) h) := by unfold hrs; rw [List.foldl_append]
  rw [e, e2]
  have := hrs_ge ls cm r (hrs ls cm (l ++ [u]) h)
  rw [hrs_snoc] at this ⊢
  omega
theorem run_dgd {o : List Int} (nd : o.Nodup) {l r : List Int} {u h : Int} (e : o = l ++ u :: r) : dgd (run ls cm o h) u = hrs ls cm (l ++ [u]) h := by
  have := dget_at (m := run ls cm o h) (k := u) (v := hrs ls cm (l ++ [u]) h) (by rw [run_keys]; exact nd) (by rw [e]; exact run_at ls cm l u r h)
  unfold dgd
  rw [this]
  rfl
theorem run_has {o : List Int} {u h : Int} (hu : u ∈ o) (nd : o.Nodup) : dhas (run ls cm o h) u = true := by
  obtain ⟨l, r, e⟩ := List.append_of_mem hu
  have := dget_at (m := run ls cm o h) (k := u) (v := hrs ls cm (l ++ [u]) h) (by rw [run_keys]; exact nd) (by rw [e]; exact run_at ls cm l u r h)
  unfold dhas
  rw [this]
  rfl
end
section
variable {jobs : J3}
abbrev col (jobs : J3) (k : Int) : List Int := jobs.map fun x => pix3 x k
theorem pix3_def (k : Int) : pix3 (default : Int × Int × Int) k = default := by
  unfold pix3
  split
  · rfl
  · split <;> rfl
theorem col_gi (k j : Int) : gi (col jobs k) j = pix3 (gi jobs j) k := gi_mapD (f := fun x : Int × Int × Int => pix3 x k) (pix3_def k) jobs j
def come0 (n : Nat) : List (Int × Int) := (List.range n).map fun k : Nat => ((k : Int), (0 : Int))
def rms (jobs : J3) (os : List Int × List Int × List Int) : List (List (Int × Int)) :=
  let r0 := run (col jobs 0) (dgd (come0 jobs.length)) os.1 0
  let r1 := run (col jobs 1) (dgd r0) os.2.1 0
  [r0, r1, run (col jobs 2) (dgd r1) os.2.2 0]
def spanOf (jobs : J3) (os : List Int × List Int × List Int) : Int := mxI ([(0 : Int)] ++ (gi (rms jobs os) (2 : Int)).map (·.2))
theorem span_ge (h : Pos3 jobs) {o : List Int} (ho : OrdP jobs.length o) : Wd jobs o ≤ spanOf jobs (o, o, o) := by
  have nd := ho.nodup
  by_cases ne : o = []
  · subst ne
    exact mxI_ge _ (by simp [Wd])
  · obtain ⟨l, u, r, e, q⟩ := Wd_is h o ne
    -- the last one's end
    obtain ⟨a, ha⟩ : ∃ a, o = o.dropLast ++ [a] := ⟨o.getLast ne, (List.dropLast_concat_getLast ne).symm⟩
    have hv : ∀ (ls : List Int) (cm : Int → Int), hrs ls cm o 0 ∈ ([(0 : Int)] ++ (run ls cm o 0).map (·.2)) := fun ls cm => by
      refine List.mem_append_right _ (List.mem_map.mpr ⟨(a, hrs ls cm o 0), ?_, rfl⟩)
      have := run_at ls cm o.dropLast a [] 0
      rwa [← ha] at this
    refine Int.le_trans ?_ (mxI_ge _ (hv (col jobs 2) (dgd (run (col jobs 1) (dgd (run (col jobs 0) (dgd (come0 jobs.length)) o 0)) o 0))))
    have h3 := hrs_split (col jobs 2) (dgd (run (col jobs 1) (dgd (run (col jobs 0) (dgd (come0 jobs.length)) o 0)) o 0)) l u r 0
    rw [← e, run_dgd _ _ nd e] at h3
    have h2 := hrs_split (col jobs 1) (dgd (run (col jobs 0) (dgd (come0 jobs.length)) o 0)) l u [] 0
    rw [run_dgd _ _ nd e] at h2
    have h1 := hrs_ge (col jobs 0) (dgd (come0 jobs.length)) (l ++ [u]) 0
    have c0 : ∀ j, gi (col jobs 0) j = xa jobs j := fun j => col_gi 0 j
    have c1 : ∀ j, gi (col jobs 1) j = xb jobs j := fun j => col_gi 1 j
    have c2 : ∀ j, gi (col jobs 2) j = xc jobs j := fun j => col_gi 2 j
    have e1 : ((l ++ [u]).map (gi (col jobs 0))).sum = (l.map (xa jobs)).sum + xa jobs u := by
      rw [List.map_congr_left fun j _ => c0 j, List.map_append, List.sum_append]
      simp
    have e3 : (r.map (gi (col jobs 2))).sum = sc jobs r := by
      rw [List.map_congr_left fun j _ => c2 j]
      rfl
    rw [e1] at h1
    rw [c1] at h2
    rw [c2, e3] at h3
    simp only [List.map_nil, List.sum_nil] at h2
    omega
end
end K87

set_option Elab.async false
set_option linter.all false
set_option maxRecDepth 100000
set_option maxHeartbeats 2000000
/-! M88: three rooms in one order; small middles; rows of ends -/
namespace K87
open PySem PySem.Spec PyProof.Rows L2 DL PL
section
variable {jobs : J3}
def T3 (jobs : J3) (s : Int × Int × Int) (j : Int) : Int × Int × Int :=
  (s.1 + xa jobs j, max s.2.1 (s.1 + xa jobs j) + xb jobs j, max s.2.2 (max s.2.1 (s.1 + xa jobs j) + xb jobs j) + xc jobs j)
def hr3 (jobs : J3) (o : List Int) : Int × Int × Int := o.foldl (T3 jobs) (0, 0, 0)
theorem hr3_snoc (o : List Int) (j : Int) : hr3 jobs (o ++ [j]) = T3 jobs (hr3 jobs o) j := by
  unfold hr3
  rw [List.foldl_append]
  rfl
theorem dgd_zero : ∀ (m : List (Int × Int)) (j : Int), (∀ p ∈ m, p.2 = 0) → dgd m j = 0
  | [], j, _ => rfl
  | p :: m, j, h => by
    have ih := dgd_zero m j fun q hq => h q (by simp [hq])
    by_cases e : p.1 = j
    · have : dget (p :: m) j = some p.2 := by simp [dget, e]
      unfold dgd
      rw [this, h p (by simp)]
      rfl
    · have : dget (p :: m) j = dget m j := by simp [dget, e]
      unfold dgd
      rw [this]
      exact ih
theorem come0_dgd (n : Nat) (j : Int) : dgd (come0 n) j = 0 := dgd_zero _ _ fun p hp => by
  obtain ⟨k, _, rfl⟩ := List.mem_map.mp hp
  rfl
abbrev r0 (jobs : J3) (o : List Int) := run (col jobs 0) (dgd (come0 jobs.length)) o 0
abbrev r1 (jobs : J3) (o : List Int) := run (col jobs 1) (dgd (r0 jobs o)) o 0
abbrev r2 (jobs : J3) (o : List Int) := run (col jobs 2) (dgd (r1 jobs o)) o 0
theorem hrs_T3 (h : Pos3 jobs) {o : List Int} (nd : o.Nodup) : ∀ k, k ≤ o.length → 0 ≤ (hr3 jobs (o.take k)).1 ∧ hrs (col jobs 0) (dgd (come0 jobs.length)) (o.take k) 0 = (hr3 jobs (o.take k)).1 ∧
    hrs (col jobs 1) (dgd (r0 jobs o)) (o.take k) 0 = (hr3 jobs (o.take k)).2.1 ∧ hrs (col jobs 2) (dgd (r1 jobs o)) (o.take k) 0 = (hr3 jobs (o.take k)).2.2
  | 0, _ => ⟨Int.le_refl _, rfl, rfl, rfl⟩
  | k + 1, hk => by
    obtain ⟨i0, i1, i2, i3⟩ := hrs_T3 h nd k (by omega)
    have e : o.take (k + 1) = o.take k ++ [o[k]] := by rw [List.take_succ_eq_append_getElem]
    have es : o = o.take k ++ o[k] :: o.drop (k + 1) := by rw [← List.drop_eq_getElem_cons (by omega), List.take_append_drop]
    have hp := gi_pos3 h o[k]
    have c0 : gi (col jobs 0) o[k] = xa jobs o[k] := col_gi 0 _
    have c1 : gi (col jobs 1) o[k] = xb jobs o[k] := col_gi 1 _
    have c2 : gi (col jobs 2) o[k] = xc jobs o[k] := col_gi 2 _
    have n1 : hrs (col jobs 0) (dgd (come0 jobs.length)) (o.take k ++ [o[k]]) 0 = (hr3 jobs (o.take k)).1 + xa jobs o[k] := by
      rw [hrs_snoc, i1, come0_dgd, c0]
      omega
    have d0 : dgd (r0 jobs o) o[k] = (hr3 jobs (o.take k)).1 + xa jobs o[k] := by
      rw [← n1]
      exact run_dgd _ _ nd es
    have n2 : hrs (col jobs 1) (dgd (r0 jobs o)) (o.take k ++ [o[k]]) 0 = max (hr3 jobs (o.take k)).2.1 ((hr3 jobs (o.take k)).1 + xa jobs o[k]) + xb jobs o[k] := by
      rw [hrs_snoc, i2, d0, c1]
    have d1 : dgd (r1 jobs o) o[k] = max (hr3 jobs (o.take k)).2.1 ((hr3 jobs (o.take k)).1 + xa jobs o[k]) + xb jobs o[k] := by
      rw [← n2]
      exact run_dgd _ _ nd es
    have n3 : hrs (col jobs 2) (dgd (r1 jobs o)) (o.take k ++ [o[k]]) 0 = max (hr3 jobs (o.take k)).2.2 (max (hr3 jobs (o.take k)).2.1 ((hr3 jobs (o.take k)).1 + xa jobs o[k]) + xb jobs o[k]) + xc jobs o[k] := by
      rw [hrs_snoc, i3, d1, c2]
    rw [e, hr3_snoc, n1, n2, n3]
    exact ⟨by show 0 ≤ _ + _; omega, rfl, rfl, rfl⟩
theorem vals_le {ls : List Int} (cm : Int → Int) (h : ∀ j, 0 ≤ gi ls j) : ∀ (o : List Int) (t : Int), ∀ v ∈ (run ls cm o t).map (·.2), v ≤ hrs ls cm o t
  | [], t, v, hv => by simp [run] at hv
  | j :: o, t, v, hv => by
    rw [run, List.map_cons] at hv
    show v ≤ hrs ls cm o (max t (cm j) + gi ls j)
    rcases List.mem_cons.mp hv with rfl | hv
    · have h1 := hrs_ge ls cm o (max t (cm j) + gi ls j)
      have h2 : 0 ≤ (o.map (gi ls)).sum := sum_nn fun x hx => by obtain ⟨i, _, rfl⟩ := List.mem_map.mp hx; exact h i
      show max t (cm j) + gi ls j ≤ _
      omega
    · exact vals_le cm h o _ v hv
theorem T3_nn (h : Pos3 jobs) : ∀ (o : List Int) (s : Int × Int × Int), 0 ≤ s.2.2 → 0 ≤ (o.foldl (T3 jobs) s).2.2
  | [], s, hs => hs
  | j :: o, s, hs => by
    rw [List.foldl_cons]
    have := gi_pos3 h j
    exact T3_nn h o _ (by show 0 ≤ max _ _ + _; omega)
theorem span_hr3 (h : Pos3 jobs) {o : List Int} (nd : o.Nodup) : spanOf jobs (o, o, o) = (hr3 jobs o).2.2 := by
  have q := (hrs_T3 h nd o.length (Nat.le_refl _)).2.2.2
  rw [List.take_length] at q
  rw [← q]
  have c2 : ∀ j, 0 ≤ gi (col jobs 2) j := fun j => by rw [col_gi]; exact (gi_pos3 h j).2.2
  show mxI ([(0 : Int)] ++ (r2 jobs o).map (·.2)) = _
  refine mxI_is ?_ fun y hy => ?_
  · by_cases ne : o = []
    · subst ne; simp [run, hrs]
    · have ha : o = o.dropLast ++ [o.getLast ne] := (List.dropLast_concat_getLast ne).symm
      refine List.mem_append_right _ (List.mem_map.mpr ⟨(o.getLast ne, hrs (col jobs 2) (dgd (r1 jobs o)) o 0), ?_, rfl⟩)
      have := run_at (col jobs 2) (dgd (r1 jobs o)) o.dropLast (o.getLast ne) [] 0
      rwa [← ha] at this
  · rcases List.mem_append.mp hy with hy | hy
    · rw [List.mem_singleton] at hy
      rw [hy, q]
      exact T3_nn h o _ (Int.le_refl _)
    · exact vals_le _ c2 o 0 y hy
/-! ### small middles -/
def SmM (jobs : J3) : Prop := (∀ p ∈ jobs, ∀ q ∈ jobs, q.2.1 ≤ p.1) ∨ (∀ p ∈ jobs, ∀ q ∈ jobs, q.2.1 ≤ p.2.2)
theorem small_foldA (h : Pos3 jobs) (sm : ∀ p ∈ jobs, ∀ q ∈ jobs, q.2.1 ≤ p.1) : ∀ (o : List Int) (s : Int × Int × Int), (∀ j ∈ o, 0 ≤ j ∧ j < jobs.length) → (∀ j ∈ o, s.2.1 ≤ s.1 + xa jobs j) →
    (o.foldl (T3 jobs) s).2.2 = (o.foldl (wStep jobs) (s.1, s.2.2)).2
  | [], s, _, _ => rfl
  | j :: o, s, hr, hi => by
    have hj := hi j (by simp)
    have hp := gi_pos3 h j
    have mj := gi_memI (xs := jobs) (hr j (by simp)).2 (hr j (by simp)).1
    rw [List.foldl_cons, List.foldl_cons, small_foldA h sm o _ (fun i hi => hr i (by simp [hi])) fun i hio => ?_]
    · show (List.foldl _ (s.1 + xa jobs j, max s.2.2 (max s.2.1 (s.1 + xa jobs j) + xb jobs j) + xc jobs j) o).2 = (List.foldl _ (s.1 + xa jobs j, max s.2.2 (s.1 + xa jobs j + xb jobs j) + xc jobs j) o).2
      have : max s.2.2 (max s.2.1 (s.1 + xa jobs j) + xb jobs j) = max s.2.2 (s.1 + xa jobs j + xb jobs j) := by omega
      rw [this]
    · have mi := gi_memI (xs := jobs) (hr i (by simp [hio])).2 (hr i (by simp [hio])).1
      show max s.2.1 (s.1 + xa jobs j) + xb jobs j ≤ s.1 + xa jobs j + xa jobs i
      have s1 : xb jobs j ≤ xa jobs i := sm _ mi _ mj
      omega
theorem small_foldC (h : Pos3 jobs) (sm : ∀ p ∈ jobs, ∀ q ∈ jobs, q.2.1 ≤ p.2.2) : ∀ (o : List Int) (s : Int × Int × Int), (∀ j ∈ o, 0 ≤ j ∧ j < jobs.length) → (∀ j ∈ o, s.2.1 + xb jobs j ≤ max s.2.2 (s.1 + xa jobs j + xb jobs j)) →
    (o.foldl (T3 jobs) s).2.2 = (o.foldl (wStep jobs) (s.1, s.2.2)).2
  | [], s, _, _ => rfl
  | j :: o, s, hr, hi => by
    have hj := hi j (by simp)
    have hp := gi_pos3 h j
    have mj := gi_memI (xs := jobs) (hr j (by simp)).2 (hr j (by simp)).1
    rw [List.foldl_cons, List.foldl_cons, small_foldC h sm o _ (fun i hi => hr i (by simp [hi])) fun i hio => ?_]
    · show (List.foldl _ (s.1 + xa jobs j, max s.2.2 (max s.2.1 (s.1 + xa jobs j) + xb jobs j) + xc jobs j) o).2 = (List.foldl _ (s.1 + xa jobs j, max s.2.2 (s.1 + xa jobs j + xb jobs j) + xc jobs j) o).2
      have : max s.2.2 (max s.2.1 (s.1 + xa jobs j) + xb jobs j) = max s.2.2 (s.1 + xa jobs j + xb jobs j) := by omega
      rw [this]
    · have mi := gi_memI (xs := jobs) (hr i (by simp [hio])).2 (hr i (by simp [hio])).1
      show max s.2.1 (s.1 + xa jobs j) + xb jobs j + xb jobs i ≤ max (max s.2.2 (max s.2.1 (s.1 + xa jobs j) + xb jobs j) + xc jobs j) (s.1 + xa jobs j + xa jobs i + xb jobs i)
      have s1 : xb jobs i ≤ xc jobs j := sm _ mj _ mi
      omega
theorem small_span (h : Pos3 jobs) (sm : SmM jobs) {o : List Int} (ho : OrdP jobs.length o) : spanOf jobs (o, o, o) = Wd jobs o := by
  rw [span_hr3 h ho.nodup, ← wide_law h]
  rcases sm with sm | sm
  · exact small_foldA h sm o (0, 0, 0) (fun j hj => ho.mem.mp hj) fun j _ => by show (0 : Int) ≤ 0 + _; have := gi_pos3 h j; omega
  · exact small_foldC h sm o (0, 0, 0) (fun j hj => ho.mem.mp hj) fun j _ => by show (0 : Int) + _ ≤ max 0 (0 + _ + _); have := gi_pos3 h j; omega
/-- the middles' bar, as a truth -/
def smB (jobs : J3) : Bool := ((jobs.map fun x => decide (mxI ((0 : Int) :: (jobs.map (fun x => x.2.1) ++ [])) ≤ x.1)).all id) || ((jobs.map fun x => decide (mxI ((0 : Int) :: (jobs.map (fun x => x.2.1) ++ [])) ≤ x.2.2)).all id)
theorem smB_sm (h : smB jobs = true) : SmM jobs := by
  have mx : ∀ q ∈ jobs, q.2.1 ≤ mxI ((0 : Int) :: (jobs.map (fun x => x.2.1) ++ [])) := fun q hq => mxI_ge _ (List.mem_cons_of_mem _ (List.mem_append_left _ (List.mem_map.mpr ⟨q, hq, rfl⟩)))
  rcases Bool.or_eq_true_iff.mp h with h | h
  · refine .inl fun p hp q hq => Int.le_trans (mx q hq) ?_
    have := List.all_eq_true.mp h _ (List.mem_map.mpr ⟨p, hp, rfl⟩)
    exact of_decide_eq_true this
  · refine .inr fun p hp q hq => Int.le_trans (mx q hq) ?_
    have := List.all_eq_true.mp h _ (List.mem_map.mpr ⟨p, hp, rfl⟩)
    exact of_decide_eq_true this
theorem mxI_ext {xs ys : List Int} (ne : xs ≠ []) (h : ∀ y, y ∈ xs ↔ y ∈ ys) : mxI xs = mxI ys := by
  refine (mxI_is ((h _).mp (mxI_mem ne)) fun y hy => mxI_ge _ ((h y).mpr hy)).symm
/-! ### rows of ends -/
def arr (n : Nat) (m : List (Int × Int)) : List Int := (List.range n).map fun k : Nat => dgd m (k : Int)
theorem arr_gi {n : Nat} {m : List (Int × Int)} {j : Int} (h : 0 ≤ j ∧ j < n) : gi (arr n m) j = dgd m j := by
  have e : ((j.toNat : Nat) : Int) = j := by omega
  rw [← e]
  exact gi_range (by omega)
theorem arr_len {n : Nat} {m : List (Int × Int)} : (arr n m).length = n := by simp [arr]
theorem arr_nil {n : Nat} : arr n [] = List.replicate n 0 := by
  apply List.ext_getElem
  · simp [arr]
  · intro i h1 h2
    simp [arr, dgd, dget]
theorem arr_set {n : Nat} {m : List (Int × Int)} {x v : Int} (hx : 0 ≤ x ∧ x < n) (hn : x ∉ m.map (·.1)) : (arr n m).set x.toNat v = arr n (m ++ [(x, v)]) := by
  apply List.ext_getElem
  · simp [arr]
  · intro i h1 h2
    have key : ∀ j : Int, dgd (m ++ [(x, v)]) j = if j = x then v else dgd m j := fun j => by
      have : dget (m ++ [(x, v)]) j = if j = x then some v else dget m j := by
        clear h1 h2
        induction m with
        | nil => by_cases e : j = x <;> simp [dget, e, eq_comm]
        | cons p m ih =>
          rw [List.map_cons, List.mem_cons, not_or] at hn
          have ih := ih hn.2
          by_cases e : p.1 = j
          · have e2 : ¬ j = x := fun z => hn.1 (by rw [← z, e])
            rw [if_neg e2]
            simp [dget, e]
          · have q1 : dget (p :: m ++ [(x, v)]) j = dget (m ++ [(x, v)]) j := by simp [dget, e]
            have q2 : dget (p :: m) j = dget m j := by simp [dget, e]
            rw [q1, q2, ih]
      unfold dgd
      rw [this]
      split <;> rfl
    rw [List.getElem_set]
    simp only [arr, List.getElem_map, List.getElem_range, key]
    by_cases e : x.toNat = i
    · have : (i : Int) = x := by omega
      simp [e, this]
    · have : ¬ (i : Int) = x := by omega
      simp [e, this]
theorem dgd_vals {m : List (Int × Int)} (nd : (m.map (·.1)).Nodup) : (m.map (·.1)).map (dgd m) = m.map (·.2) := by
  rw [List.map_map]
  refine List.map_congr_left fun p hp => ?_
  show dgd m p.1 = _
  unfold dgd
  rw [dget_at nd (show (p.1, p.2) ∈ m from hp)]
  rfl
theorem arr_perm {n : Nat} {o : List Int} (ho : OrdP n o) {m : List (Int × Int)} (hk : m.map (·.1) = o) : (arr n m).Perm (m.map (·.2)) := by
  rw [← dgd_vals (by rw [hk]; exact ho.nodup), hk]
  have : arr n m = (idx n).map (dgd m) := by unfold arr idx; rw [List.map_map]; rfl
  rw [this]
  exact ho.symm.map _
theorem arr_span {os : List Int × List Int × List Int} (h3 : OrdP jobs.length os.2.2) : mxI (arr jobs.length (gi (rms jobs os) (2 : Int)) ++ [(0 : Int)]) = spanOf jobs os := by
  have hk : (gi (rms jobs os) (2 : Int)).map (·.1) = os.2.2 := run_keys _ _ _ _
  have hp := arr_perm h3 hk
  unfold spanOf
  refine mxI_ext (by simp) fun y => ?_
  rw [List.mem_append, List.mem_append, hp.mem_iff]
  exact Or.comm
end
end K87

set_option Elab.async false
set_option linter.all false
set_option maxRecDepth 100000
set_option maxHeartbeats 2000000
/-! M86: greatest ways -/
namespace K87
open PySem PySem.Spec PyProof.Rows L2 DL PL
section
variable {jobs : J3}
theorem snoc_ind {α : Type} {P : List α → Prop} (h0 : P []) (h1 : ∀ o j, P o → P (o ++ [j])) : ∀ o, P o := by
  have key : ∀ l : List α, P l.reverse := fun l => by
    induction l with
    | nil => exact h0
    | cons j l ih => rw [List.reverse_cons]; exact h1 _ _ ih
  intro o
  have := key o.reverse
  rwa [List.reverse_reverse] at this
def w2 (jobs : J3) (o : List Int) (u : Nat) : Int := ((o.take (u + 1)).map (xa jobs)).sum + ((o.drop u).map (xb jobs)).sum
def w3 (jobs : J3) (o : List Int) (u v : Nat) : Int := ((o.take (u + 1)).map (xa jobs)).sum + (((o.take (v + 1)).drop u).map (xb jobs)).sum + ((o.drop v).map (xc jobs)).sum
theorem wayL_w3 (o : List Int) (u v : Nat) : wayL jobs o (u : Int) (v : Int) = w3 jobs o u v := by
  unfold wayL w3
  rw [cut_take (by omega), cut_mid (by omega) (by omega), cut_drop (by omega)]
  have e1 : ((u : Int) + 1).toNat = u + 1 := by omega
  have e2 : ((v : Int) + 1).toNat = v + 1 := by omega
  rw [e1, e2, Int.toNat_natCast, Int.toNat_natCast]
theorem w2_old {o : List Int} {j : Int} {u : Nat} (h : u < o.length) : w2 jobs (o ++ [j]) u = w2 jobs o u + xb jobs j := by
  unfold w2
  rw [List.take_append_of_le_length (by omega), List.drop_append_of_le_length (by omega), List.map_append, List.sum_append]
  simp only [List.map_cons, List.map_nil, List.sum_cons, List.sum_nil]
  omega
theorem w2_new (o : List Int) (j : Int) : w2 jobs (o ++ [j]) o.length = (o.map (xa jobs)).sum + xa jobs j + xb jobs j := by
  unfold w2
  rw [List.take_of_length_le (by simp), List.drop_left]
  simp only [List.map_append, List.sum_append, List.map_cons, List.map_nil, List.sum_cons, List.sum_nil]
  omega
theorem w3_old {o : List Int} {j : Int} {u v : Nat} (huv : u ≤ v) (h : v < o.length) : w3 jobs (o ++ [j]) u v = w3 jobs o u v + xc jobs j := by
  unfold w3
  rw [List.take_append_of_le_length (by omega), List.take_append_of_le_length (by omega), List.drop_append_of_le_length (by omega : v ≤ o.length)]
  simp only [List.map_append, List.sum_append, List.map_cons, List.map_nil, List.sum_cons, List.sum_nil]
  omega
theorem w3_new {o : List Int} {j : Int} {u : Nat} (h : u ≤ o.length) : w3 jobs (o ++ [j]) u o.length = w2 jobs (o ++ [j]) u + xc jobs j := by
  unfold w3 w2
  rw [List.take_of_length_le (i := o.length + 1) (by simp), List.drop_left]
  simp only [List.map_cons, List.map_nil, List.sum_cons, List.sum_nil]
  omega
theorem ways_ind (h : Pos3 jobs) : ∀ o : List Int, ((hr3 jobs o).1 = (o.map (xa jobs)).sum) ∧
    ((∀ u, u < o.length → w2 jobs o u ≤ (hr3 jobs o).2.1) ∧ ((o = [] ∧ (hr3 jobs o).2.1 = 0) ∨ ∃ u, u < o.length ∧ w2 jobs o u = (hr3 jobs o).2.1)) ∧
    ((∀ u v, u ≤ v → v < o.length → w3 jobs o u v ≤ (hr3 jobs o).2.2) ∧ ((o = [] ∧ (hr3 jobs o).2.2 = 0) ∨ ∃ u v, u ≤ v ∧ v < o.length ∧ w3 jobs o u v = (hr3 jobs o).2.2)) := by
  refine snoc_ind ⟨rfl, ⟨fun u hu => by simp at hu, .inl ⟨rfl, rfl⟩⟩, fun u v _ hv => by simp at hv, .inl ⟨rfl, rfl⟩⟩ fun o j ⟨i1, ⟨i2, i3⟩, i4, i5⟩ => ?_
  have hp := gi_pos3 h j
  have ha : 0 ≤ (o.map (xa jobs)).sum := sum_nn fun x hx => by obtain ⟨i, _, rfl⟩ := List.mem_map.mp hx; exact (gi_pos3 h i).1
  rw [hr3_snoc]
  have e1 : (T3 jobs (hr3 jobs o) j).1 = (hr3 jobs o).1 + xa jobs j := rfl
  have e2 : (T3 jobs (hr3 jobs o) j).2.1 = max (hr3 jobs o).2.1 ((hr3 jobs o).1 + xa jobs j) + xb jobs j := rfl
  have e3 : (T3 jobs (hr3 jobs o) j).2.2 = max (hr3 jobs o).2.2 (T3 jobs (hr3 jobs o) j).2.1 + xc jobs j := rfl
  have n2 := w2_new (jobs := jobs) o j
  have hl : (o ++ [j]).length = o.length + 1 := by simp
  have up2 : ∀ u, u < (o ++ [j]).length → w2 jobs (o ++ [j]) u ≤ (T3 jobs (hr3 jobs o) j).2.1 := fun u hu => by
    by_cases c : u = o.length
    · subst c
      rw [n2, e2]
      omega
    · have c2 : u < o.length := by omega
      rw [w2_old c2, e2]
      have := i2 u c2
      omega
  have at2 : ∃ u, u < (o ++ [j]).length ∧ w2 jobs (o ++ [j]) u = (T3 jobs (hr3 jobs o) j).2.1 := by
    by_cases c : (hr3 jobs o).2.1 ≤ (hr3 jobs o).1 + xa jobs j
    · exact ⟨o.length, by omega, by rw [n2, e2]; omega⟩
    · rcases i3 with ⟨q1, q2⟩ | ⟨u, q1, q2⟩
      · exfalso
        rw [q1] at i1
        simp at i1
        omega
      · exact ⟨u, by omega, by rw [w2_old q1, e2]; omega⟩
  refine ⟨?_, ⟨up2, .inr at2⟩, fun u v huv hv => ?_, .inr ?_⟩
  · rw [e1, i1]
    simp
  · by_cases c : v = o.length
    · subst c
      rw [w3_new huv, e3]
      have := up2 u (by omega)
      omega
    · have c2 : v < o.length := by omega
      rw [w3_old huv c2, e3]
      have := i4 u v huv c2
      omega
  · by_cases c : (hr3 jobs o).2.2 ≤ (T3 jobs (hr3 jobs o) j).2.1
    · obtain ⟨u, q1, q2⟩ := at2
      exact ⟨u, o.length, by omega, by omega, by rw [w3_new (by omega), e3]; omega⟩
    · rcases i5 with ⟨q1, q2⟩ | ⟨u, v, q0, q1, q2⟩
      · exfalso
        have : 0 ≤ (T3 jobs (hr3 jobs o) j).2.1 := by
          obtain ⟨u, hu, eu⟩ := at2
          rw [← eu, q1]
          subst q1
          have : u = 0 := by simp at hu; exact hu
          subst this
          show 0 ≤ w2 jobs [j] 0
          simp [w2]
          omega
        omega
      · exact ⟨u, v, q0, by omega, by rw [w3_old q0 q1, e3]; omega⟩
theorem way_up (h : Pos3 jobs) {o : List Int} (nd : o.Nodup) {u v : Nat} (huv : u ≤ v) (hv : v < o.length) : w3 jobs o u v ≤ spanOf jobs (o, o, o) := by
  rw [span_hr3 h nd]
  exact (ways_ind h o).2.2.1 u v huv hv
theorem way_at (h : Pos3 jobs) {o : List Int} (nd : o.Nodup) (ne : o ≠ []) : ∃ u v, u ≤ v ∧ v < o.length ∧ w3 jobs o u v = spanOf jobs (o, o, o) := by
  rw [span_hr3 h nd]
  rcases (ways_ind h o).2.2.2 with ⟨q, _⟩ | q
  · exact absurd q ne
  · exact q
theorem span_nil (jobs : J3) : spanOf jobs ([], [], []) = 0 := rfl
theorem wide_up {o : List Int} {u : Nat} (hu : u < o.length) : w3 jobs o u u ≤ Wd jobs o := by
  have e : o = o.take u ++ o[u] :: o.drop (u + 1) := by rw [← List.drop_eq_getElem_cons hu, List.take_append_drop]
  have hl : (o.take u).length = u := by rw [List.length_take]; omega
  have := way_split (jobs := jobs) (o.take u) o[u] (o.drop (u + 1))
  rw [hl, ← e] at this
  rw [← wayL_w3, this]
  have q := Wd_ge (jobs := jobs) (o.take u) o[u] (o.drop (u + 1))
  rwa [← e] at q
theorem wide_at (h : Pos3 jobs) {o : List Int} (ne : o ≠ []) : ∃ u, u < o.length ∧ w3 jobs o u u = Wd jobs o := by
  obtain ⟨l, j, r, e, q⟩ := Wd_is h o ne
  refine ⟨l.length, by rw [e]; simp, ?_⟩
  rw [← wayL_w3, q, e]
  exact way_split l j r
theorem Wd_nil (jobs : J3) : Wd jobs [] = 0 := rfl
/-! ### longer jobs -/
theorem w3_le {jobs' : J3} (h : ∀ j, xa jobs j ≤ xa jobs' j ∧ xb jobs j ≤ xb jobs' j ∧ xc jobs j ≤ xc jobs' j) (o : List Int) (u v : Nat) : w3 jobs o u v ≤ w3 jobs' o u v := by
  unfold w3
  have h1 := PL.sum_le (xs := o.take (u + 1)) fun j _ => (h j).1
  have h2 := PL.sum_le (xs := (o.take (v + 1)).drop u) fun j _ => (h j).2.1
  have h3 := PL.sum_le (xs := o.drop v) fun j _ => (h j).2.2
  omega
theorem span_mono {jobs' : J3} (h : Pos3 jobs) (h' : Pos3 jobs') (hl : ∀ j, xa jobs j ≤ xa jobs' j ∧ xb jobs j ≤ xb jobs' j ∧ xc jobs j ≤ xc jobs' j) {o : List Int} (nd : o.Nodup) : spanOf jobs (o, o, o) ≤ spanOf jobs' (o, o, o) := by
  by_cases ne : o = []
  · subst ne; exact Int.le_refl _
  · obtain ⟨u, v, h1, h2, e⟩ := way_at h nd ne
    rw [← e]
    exact Int.le_trans (w3_le hl o u v) (way_up h' nd h1 h2)
theorem wide_mono {jobs' : J3} (h : Pos3 jobs) (hl : ∀ j, xa jobs j ≤ xa jobs' j ∧ xb jobs j ≤ xb jobs' j ∧ xc jobs j ≤ xc jobs' j) (o : List Int) : Wd jobs o ≤ Wd jobs' o := by
  by_cases ne : o = []
  · subst ne; exact Int.le_refl _
  · obtain ⟨u, h1, e⟩ := wide_at h ne
    rw [← e]
    exact Int.le_trans (w3_le hl o u u) (wide_up h1)
/-! ### longer middles -/
abbrev lateJ (jobs : J3) (more : Int) : J3 := jobs.map fun x => (x.1, (x.2.1 + more), x.2.2)
theorem gi_mapI {α β : Type} [Inhabited α] [Inhabited β] {f : α → β} {xs : List α} {j : Int} (h : 0 ≤ j ∧ j < xs.length) : gi (xs.map f) j = f (gi xs j) := by
  have e : j = ((j.toNat : Nat) : Int) := by omega
  rw [e]
  exact gi_map (by omega)
theorem late_at {more : Int} {j : Int} (h : 0 ≤ j ∧ j < jobs.length) : xa (lateJ jobs more) j = xa jobs j ∧ xb (lateJ jobs more) j = xb jobs j + more ∧ xc (lateJ jobs more) j = xc jobs j := by
  have e : gi (lateJ jobs more) j = ((gi jobs j).1, (gi jobs j).2.1 + more, (gi jobs j).2.2) := gi_mapI h
  exact ⟨congrArg (·.1) e, congrArg (·.2.1) e, congrArg (·.2.2) e⟩
theorem late_pos {more : Int} (h : Pos3 jobs) (hm : 0 ≤ more) : Pos3 (lateJ jobs more) := fun p hp => by
  obtain ⟨q, hq, rfl⟩ := List.mem_map.mp hp
  have := h q hq
  refine ⟨this.1, ?_, this.2.2⟩
  show 0 ≤ q.2.1 + more
  omega
theorem sum_more {f g : Int → Int} {m : Int} : ∀ {xs : List Int}, (∀ x ∈ xs, f x = g x + m) → (xs.map f).sum = (xs.map g).sum + xs.length * m
  | [], _ => by simp
  | x :: xs, h => by
    have ih := sum_more (xs := xs) fun y hy => h y (by simp [hy])
    rw [List.map_cons, List.map_cons, List.sum_cons, List.sum_cons, ih, h x (by simp), List.length_cons]
    rw [show ((xs.length + 1 : Nat) : Int) * m = xs.length * m + m by rw [Int.natCast_add, Int.add_mul]; simp]
    omega
theorem w3_late {more : Int} {o : List Int} (ho : ∀ j ∈ o, 0 ≤ j ∧ j < jobs.length) {u v : Nat} (huv : u ≤ v) (hv : v < o.length) : w3 (lateJ jobs more) o u v = w3 jobs o u v + ((v - u + 1 : Nat) : Int) * more := by
  unfold w3
  have e1 : (o.take (u + 1)).map (xa (lateJ jobs more)) = (o.take (u + 1)).map (xa jobs) := List.map_congr_left fun j hj => (late_at (ho j (List.mem_of_mem_take hj))).1
  have e3 : (o.drop v).map (xc (lateJ jobs more)) = (o.drop v).map (xc jobs) := List.map_congr_left fun j hj => (late_at (ho j (List.mem_of_mem_drop hj))).2.2
  have e2 := sum_more (f := xb (lateJ jobs more)) (g := xb jobs) (m := more) (xs := (o.take (v + 1)).drop u) fun j hj => (late_at (ho j (List.mem_of_mem_take (List.mem_of_mem_drop hj)))).2.1
  have hl : ((o.take (v + 1)).drop u).length = v - u + 1 := by rw [List.length_drop, List.length_take]; omega
  rw [e1, e3, e2, hl]
  omega
theorem mul_le {a b m : Int} (h : a ≤ b) (hm : 0 ≤ m) : a * m ≤ b * m := Int.mul_le_mul_of_nonneg_right h hm
theorem late_span {more : Int} (h : Pos3 jobs) (hm : 0 ≤ more) {o : List Int} (ho : OrdP jobs.length o) (ne : o ≠ []) :
    spanOf jobs (o, o, o) + more ≤ spanOf (lateJ jobs more) (o, o, o) ∧ spanOf (lateJ jobs more) (o, o, o) ≤ spanOf jobs (o, o, o) + (jobs.length : Int) * more := by
  have hin : ∀ j ∈ o, 0 ≤ j ∧ j < jobs.length := fun j hj => ho.mem.mp hj
  have h' := late_pos h hm
  constructor
  · obtain ⟨u, v, h1, h2, e⟩ := way_at h ho.nodup ne
    have q := way_up h' ho.nodup h1 h2
    rw [w3_late hin h1 h2] at q
    have := mul_le (a := 1) (b := ((v - u + 1 : Nat) : Int)) (by omega) hm
    omega
  · obtain ⟨u, v, h1, h2, e⟩ := way_at h' ho.nodup ne
    have q := way_up h ho.nodup h1 h2
    rw [w3_late hin h1 h2] at e
    have hl := ho.len
    have := mul_le (a := ((v - u + 1 : Nat) : Int)) (b := (jobs.length : Int)) (by omega) hm
    omega
theorem late_wide {more : Int} (h : Pos3 jobs) (hm : 0 ≤ more) {o : List Int} (ho : OrdP jobs.length o) (ne : o ≠ []) : Wd (lateJ jobs more) o = Wd jobs o + more := by
  have hin : ∀ j ∈ o, 0 ≤ j ∧ j < jobs.length := fun j hj => ho.mem.mp hj
  have h' := late_pos h hm
  obtain ⟨u, h1, e⟩ := wide_at h ne
  obtain ⟨v, h2, e2⟩ := wide_at h' ne
  have q := wide_up (jobs := lateJ jobs more) h1
  have q2 := wide_up (jobs := jobs) h2
  rw [w3_late hin (Nat.le_refl _) h1] at q
  rw [w3_late hin (Nat.le_refl _) h2] at e2
  rw [show ((u - u + 1 : Nat) : Int) = 1 by omega] at q
  rw [show ((v - v + 1 : Nat) : Int) = 1 by omega] at e2
  omega
/-! ### turned about -/
abbrev turnJ (jobs : J3) : J3 := jobs.map fun x => (x.2.2, x.2.1, x.1)
theorem turn_at (j : Int) : xa (turnJ jobs) j = xc jobs j ∧ xb (turnJ jobs) j = xb jobs j ∧ xc (turnJ jobs) j = xa jobs j := by
  have e : gi (turnJ jobs) j = ((gi jobs j).2.2, (gi jobs j).2.1, (gi jobs j).1) := gi_mapD (f := fun x : Int × Int × Int => (x.2.2, x.2.1, x.1)) rfl jobs j
  exact ⟨congrArg (·.1) e, congrArg (·.2.1) e, congrArg (·.2.2) e⟩
theorem turn_pos (h : Pos3 jobs) : Pos3 (turnJ jobs) := fun p hp => by
  obtain ⟨q, hq, rfl⟩ := List.mem_map.mp hp
  have := h q hq
  exact ⟨this.2.2, this.2.1, this.1⟩
theorem turn_turn (jobs : J3) : turnJ (turnJ jobs) = jobs := by
  show List.map _ (List.map _ jobs) = jobs
  rw [List.map_map]
  exact List.map_id' _
theorem sum_rev (f : Int → Int) (xs : List Int) : (xs.reverse.map f).sum = (xs.map f).sum := PL.perm_sum ((List.reverse_perm xs).map f)
theorem w3_turn {o : List Int} {u v : Nat} (huv : u ≤ v) (hv : v < o.length) : w3 (turnJ jobs) o.reverse u v = w3 jobs o (o.length - 1 - v) (o.length - 1 - u) := by
  unfold w3
  have e1 : xa (turnJ jobs) = xc jobs := funext fun j => (turn_at j).1
  have e2 : xb (turnJ jobs) = xb jobs := funext fun j => (turn_at j).2.1
  have e3 : xc (turnJ jobs) = xa jobs := funext fun j => (turn_at j).2.2
  rw [e1, e2, e3, List.take_reverse, List.take_reverse, List.drop_reverse, List.drop_reverse, sum_rev, sum_rev, sum_rev]
  have d1 : o.length - (u + 1) = o.length - 1 - u := by omega
  have d2 : o.length - v = o.length - 1 - v + 1 := by omega
  have d3 : ((o.drop (o.length - (v + 1))).length - u) = v + 1 - u := by rw [List.length_drop]; omega
  have d4 : (o.take (o.length - 1 - u + 1)).drop (o.length - 1 - v) = (o.drop (o.length - (v + 1))).take (v + 1 - u) := by
    rw [List.drop_take]
    congr 1
    · omega
    · congr 1; omega
  rw [d1, d2, d3, d4]
  omega
theorem nd_rev {o : List Int} (nd : o.Nodup) : o.reverse.Nodup := (List.reverse_perm o).nodup_iff.mpr nd
theorem turn_le (h : Pos3 jobs) {o : List Int} (nd : o.Nodup) : spanOf (turnJ jobs) (o.reverse, o.reverse, o.reverse) ≤ spanOf jobs (o, o, o) := by
  by_cases ne : o = []
  · subst ne; exact Int.le_refl _
  · have nr : o.reverse ≠ [] := by simpa using ne
    obtain ⟨u, v, h1, h2, e⟩ := way_at (turn_pos h) ((nd_rev nd)) nr
    rw [List.length_reverse] at h2
    rw [← e, w3_turn h1 h2]
    exact way_up h nd (by omega) (by omega)
theorem turn_span (h : Pos3 jobs) {o : List Int} (nd : o.Nodup) : spanOf (turnJ jobs) (o.reverse, o.reverse, o.reverse) = spanOf jobs (o, o, o) := by
  refine Int.le_antisymm (turn_le h nd) ?_
  have := turn_le (turn_pos h) ((nd_rev nd))
  rwa [turn_turn, List.reverse_reverse] at this
theorem turn_wide_le (h : Pos3 jobs) (o : List Int) : Wd (turnJ jobs) o.reverse ≤ Wd jobs o := by
  by_cases ne : o = []
  · subst ne; exact Int.le_refl _
  · have nr : o.reverse ≠ [] := by simpa using ne
    obtain ⟨u, h2, e⟩ := wide_at (turn_pos h) nr
    rw [List.length_reverse] at h2
    rw [← e, w3_turn (Nat.le_refl _) h2]
    exact wide_up (by omega)
theorem turn_wide (h : Pos3 jobs) (o : List Int) : Wd (turnJ jobs) o.reverse = Wd jobs o := by
  refine Int.le_antisymm (turn_wide_le h o) ?_
  have := turn_wide_le (turn_pos h) o.reverse
  rwa [turn_turn, List.reverse_reverse] at this
/-! ### the greatest way -/
def row (n u : Nat) : List (Int × Int) := (List.range (n - u)).map fun x : Nat => ((u : Int), (u : Int) + (x : Int))
def pairs (n : Nat) : List (Int × Int) := (List.range n).flatMap (row n)
def wayS (jobs : J3) (o : List Int) (s : Option (Int × Int × Int)) (p : Int × Int) : Option (Int × Int × Int) :=
  if (s.isNone || decide ((qv s).2.2 < wayL jobs o p.1 p.2)) = true then some (p.1, p.2, wayL jobs o p.1 p.2) else s
def lawWay (jobs : J3) (o : List Int) : Option (Int × Int × Int) := (pairs o.length).foldl (wayS jobs o) none
def negW (jobs : J3) (o : List Int) (p : Int × Int) : Int × Int × Int := (-(wayL jobs o p.1 p.2), p.1, p.2)
def plt (p q : Int × Int) : Prop := p.1 < q.1 ∨ (p.1 = q.1 ∧ p.2 < q.2)
theorem plt_tr {a b c : Int × Int} (h1 : plt a b) (h2 : plt b c) : plt a c := by
  unfold plt at *
  omega
theorem pairs_pw (n : Nat) : (pairs n).Pairwise plt := by
  unfold pairs
  rw [List.pairwise_flatMap]
  refine ⟨fun u _ => ?_, List.pairwise_lt_range.imp fun {a b} hab x hx y hy => ?_⟩
  · unfold row
    rw [List.pairwise_map]
    exact List.pairwise_lt_range.imp fun {a b} h => .inr ⟨rfl, by show (u : Int) + a < u + b; omega⟩
  · obtain ⟨i, _, rfl⟩ := List.mem_map.mp hx
    obtain ⟨k, _, rfl⟩ := List.mem_map.mp hy
    exact .inl (by show (a : Int) < b; omega)
theorem mem_pairs {n : Nat} {p : Int × Int} : p ∈ pairs n ↔ ∃ u v : Nat, u ≤ v ∧ v < n ∧ p = ((u : Int), (v : Int)) := by
  unfold pairs
  rw [List.mem_flatMap]
  constructor
  · rintro ⟨u, hu, hp⟩
    obtain ⟨x, hx, rfl⟩ := List.mem_map.mp hp
    have := List.mem_range.mp hx
    exact ⟨u, u + x, by omega, by omega, by simp⟩
  · rintro ⟨u, v, h1, h2, rfl⟩
    refine ⟨u, List.mem_range.mpr (by omega), List.mem_map.mpr ⟨v - u, List.mem_range.mpr (by omega), ?_⟩⟩
    congr 1
    omega
theorem min_fold (o : List Int) : ∀ (ps : List (Int × Int)) (a : Int × Int × Int), (∀ p ∈ ps, plt (a.1, a.2.1) p) → ps.Pairwise plt →
    ∃ r : Int × Int × Int, ps.foldl (wayS jobs o) (some a) = some r ∧ (ps.map (negW jobs o)).foldl (fun a y => if lt2 ltI (lt2 ltI ltI) y a = true then y else a) (-a.2.2, a.1, a.2.1) = (-r.2.2, r.1, r.2.1) ∧
      (r = a ∨ ∃ p ∈ ps, r = (p.1, p.2, wayL jobs o p.1 p.2)) ∧ a.2.2 ≤ r.2.2 ∧ ∀ p ∈ ps, wayL jobs o p.1 p.2 ≤ r.2.2
  | [], a, _, _ => ⟨a, rfl, rfl, .inl rfl, Int.le_refl _, by simp⟩
  | p :: ps, a, h, hp => by
    obtain ⟨hp1, hp2⟩ := List.pairwise_cons.mp hp
    have hap := h p (by simp)
    have ec : lt2 ltI (lt2 ltI ltI) (negW jobs o p) (-a.2.2, a.1, a.2.1) = decide (a.2.2 < wayL jobs o p.1 p.2) := by
      unfold negW lt2 ltI
      unfold plt at hap
      dsimp only at hap ⊢
      split
      · split
        · rw [decide_eq_false (by omega), decide_eq_false (by omega)]
        · rw [decide_eq_false (by omega), decide_eq_false (by omega)]
      · by_cases c : a.2.2 < wayL jobs o p.1 p.2
        · rw [decide_eq_true c, decide_eq_true (by omega)]
        · rw [decide_eq_false c, decide_eq_false (by omega)]
    rw [List.foldl_cons, List.map_cons, List.foldl_cons, ec]
    by_cases c : a.2.2 < wayL jobs o p.1 p.2
    · have es : wayS jobs o (some a) p = some (p.1, p.2, wayL jobs o p.1 p.2) := by
        unfold wayS
        rw [if_pos]
        show (false || decide (a.2.2 < _)) = true
        rw [decide_eq_true c]
        rfl
      obtain ⟨r, r1, r2, r3, r4, r5⟩ := min_fold o ps (p.1, p.2, wayL jobs o p.1 p.2) (fun q hq => hp1 q hq) hp2
      rw [es, if_pos (decide_eq_true c)]
      refine ⟨r, r1, r2, .inr ?_, by have r4 : wayL jobs o p.1 p.2 ≤ r.2.2 := r4; omega, fun q hq => ?_⟩
      · rcases r3 with r3 | ⟨q, hq, r3⟩
        · exact ⟨p, by simp, r3⟩
        · exact ⟨q, by simp [hq], r3⟩
      · rcases List.mem_cons.mp hq with rfl | hq
        · exact r4
        · exact r5 q hq
    · have es : wayS jobs o (some a) p = some a := by
        unfold wayS
        rw [if_neg]
        show ¬ (false || decide (a.2.2 < _)) = true
        rw [decide_eq_false c]
        simp
      obtain ⟨r, r1, r2, r3, r4, r5⟩ := min_fold o ps a (fun q hq => h q (by simp [hq])) hp2
      rw [es, if_neg (by simpa using c)]
      refine ⟨r, r1, r2, ?_, r4, fun q hq => ?_⟩
      · rcases r3 with r3 | ⟨q, hq, r3⟩
        · exact .inl r3
        · exact .inr ⟨q, by simp [hq], r3⟩
      · rcases List.mem_cons.mp hq with rfl | hq
        · omega
        · exact r5 q hq
theorem lawWay_is {o : List Int} (ne : o ≠ []) : ∃ r : Int × Int × Int, lawWay jobs o = some r ∧ mnO (lt2 ltI (lt2 ltI ltI)) ((pairs o.length).map (negW jobs o)) = (-r.2.2, r.1, r.2.1) ∧
    (∃ u v : Nat, u ≤ v ∧ v < o.length ∧ r = ((u : Int), (v : Int), w3 jobs o u v)) ∧ ∀ u v : Nat, u ≤ v → v < o.length → w3 jobs o u v ≤ r.2.2 := by
  have hm : (((0 : Nat) : Int), ((0 : Nat) : Int)) ∈ pairs o.length := mem_pairs.mpr ⟨0, 0, Nat.le_refl _, List.length_pos_iff.mpr ne, rfl⟩
  have pw := pairs_pw o.length
  unfold lawWay
  have mp : ∀ p ∈ pairs o.length, ∃ u v : Nat, u ≤ v ∧ v < o.length ∧ p = ((u : Int), (v : Int)) := fun p hp => mem_pairs.mp hp
  have mq : ∀ u v : Nat, u ≤ v → v < o.length → ((u : Int), (v : Int)) ∈ pairs o.length := fun u v h1 h2 => mem_pairs.mpr ⟨u, v, h1, h2, rfl⟩
  generalize pairs o.length = ps at hm pw mp mq ⊢
  cases ps with
  | nil => simp at hm
  | cons p ps =>
    obtain ⟨p1, p2⟩ := List.pairwise_cons.mp pw
    obtain ⟨r, r1, r2, r3, r4, r5⟩ := min_fold (jobs := jobs) o ps (p.1, p.2, wayL jobs o p.1 p.2) (fun q hq => p1 q hq) p2
    have key : ∀ q ∈ p :: ps, wayL jobs o q.1 q.2 ≤ r.2.2 := fun q hq => by
      rcases List.mem_cons.mp hq with rfl | hq
      · exact r4
      · exact r5 q hq
    refine ⟨r, r1, r2, ?_, fun u v h1 h2 => ?_⟩
    · have : ∃ q ∈ p :: ps, r = (q.1, q.2, wayL jobs o q.1 q.2) := by
        rcases r3 with r3 | ⟨q, hq, r3⟩
        · exact ⟨p, by simp, r3⟩
        · exact ⟨q, by simp [hq], r3⟩
      obtain ⟨q, hq, er⟩ := this
      obtain ⟨u, v, h1, h2, rfl⟩ := mp q hq
      exact ⟨u, v, h1, h2, by rw [er, wayL_w3]⟩
    · rw [← wayL_w3]
      exact key ((u : Int), (v : Int)) (mq u v h1 h2)
theorem lawWay_span (h : Pos3 jobs) {o : List Int} (nd : o.Nodup) (ne : o ≠ []) {r : Int × Int × Int} (e : lawWay jobs o = some r) : r.2.2 = spanOf jobs (o, o, o) := by
  obtain ⟨r', e', _, ⟨u, v, h1, h2, er⟩, hmax⟩ := lawWay_is (jobs := jobs) ne
  rw [e] at e'
  cases e'
  obtain ⟨u', v', h3, h4, e4⟩ := way_at h nd ne
  have q1 := hmax u' v' h3 h4
  have q2 := way_up h nd h1 h2
  have q3 : r.2.2 = w3 jobs o u v := congrArg (fun x : Int × Int × Int => x.2.2) er
  rw [q3] at q1 ⊢
  rw [e4] at q1
  exact Int.le_antisymm q2 q1
end
end K87

set_option Elab.async false
set_option linter.all false
set_option maxRecDepth 100000
set_option maxHeartbeats 2000000
/-! MD: data of any kind: shapes, sizes, what is shown -/
namespace PD
open PySem PySem.Spec PyProof.Rows L2 DL PL
/-! ### what is shown -/
theorem str_ext {a b : Str} (h : a.cps.toList = b.cps.toList) : a = b := by
  cases a; cases b
  simp only at h
  congr 1
  exact Array.toList_inj.mp h
theorem strOk_iff {x : Str} : PyData.strOk x = true ↔ ∀ c ∈ x.cps.toList, c < 0x110000 := by
  unfold PyData.strOk
  rw [← Array.all_toList, List.all_eq_true]
  simp
theorem ofString_small (s : String) : ∀ c ∈ (Str.ofString s).cps.toList, c < 0x110000 := fun c hc => by
  rw [signs_ofString] at hc
  obtain ⟨ch, _, rfl⟩ := List.mem_map.mp hc
  have := ch.valid
  have e : ch.val.toNat = ch.toNat := rfl
  rcases this with q | ⟨_, q⟩ <;> omega
theorem foldl_repr (q : Nat) : ∀ (l : List Nat) (acc : Array Nat), (l.foldl (fun out c => out ++ (Builtin.Str.reprChar q c).toArray) acc).toList = acc.toList ++ l.flatMap (Builtin.Str.reprChar q)
  | [], acc => by simp
  | c :: l, acc => by
    rw [List.foldl_cons, foldl_repr q l]
    simp
theorem repr_signs (x : Str) : (reprText x).cps.toList = reprQuote x :: (x.cps.toList.flatMap (Builtin.Str.reprChar (reprQuote x)) ++ [reprQuote x]) := by
  unfold reprText
  show ((x.cps.foldl (fun out c => out ++ (Builtin.Str.reprChar (reprQuote x) c).toArray) #[reprQuote x]).push (reprQuote x)).toList = _
  rw [Array.toList_push, ← Array.foldl_toList, foldl_repr]
  simp
theorem reprChar_or (q c : Nat) : Builtin.Str.reprChar q c = [c] ∨ 92 ∈ Builtin.Str.reprChar q c := by
  unfold Builtin.Str.reprChar
  simp only
  split
  · exact .inr (by simp)
  · split
    · exact .inr (by simp)
    · split
      · exact .inr (by simp)
      · split
        · exact .inr (by simp)
        · split
          · exact .inl rfl
          · split
            · exact .inr (by simp)
            · split <;> exact .inr (by simp)
theorem hex_small (w c : Nat) : ∀ z ∈ List.replicate w 48 ++ (Nat.toDigits 16 c).map Char.toNat, z < 0x110000 := fun z hz => by
  rcases List.mem_append.mp hz with hz | hz
  · have := (List.mem_replicate.mp hz).2
    omega
  · obtain ⟨ch, _, rfl⟩ := List.mem_map.mp hz
    have := ch.valid
    have e : ch.val.toNat = ch.toNat := rfl
    rcases this with q | ⟨_, q⟩ <;> omega
theorem reprChar_small {q c : Nat} (hc : c < 0x110000) : ∀ z ∈ Builtin.Str.reprChar q c, z < 0x110000 := fun z hz => by
  unfold Builtin.Str.reprChar at hz
  simp only at hz
  split at hz
  · simp at hz; omega
  · split at hz
    · simp at hz; omega
    · split at hz
      · simp at hz; omega
      · split at hz
        · simp at hz; omega
        · split at hz
          · simp at hz; omega
          · split at hz
            · rcases List.mem_append.mp hz with hz | hz
              · simp at hz; omega
              · exact hex_small _ _ z hz
            · split at hz
              · rcases List.mem_append.mp hz with hz | hz
                · simp at hz; omega
                · exact hex_small _ _ z hz
              · rcases List.mem_append.mp hz with hz | hz
                · simp at hz; omega
                · exact hex_small _ _ z hz
theorem quote_or (x : Str) : reprQuote x = 39 ∨ reprQuote x = 34 := by
  unfold reprQuote
  split
  · exact .inr rfl
  · exact .inl rfl
theorem join_small {ts : List Str} (h : ∀ t ∈ ts, ∀ c ∈ t.cps.toList, c < 0x110000) : ∀ c ∈ (Str.join ", " ts).cps.toList, c < 0x110000 := fun c hc => by
  rcases (mem_join _ c ts).mp hc with ⟨t, ht, hc⟩ | ⟨_, hc⟩
  · exact h t ht c hc
  · exact ofString_small _ c hc
mutual
theorem shown_small : ∀ d : D, d.canLay0 = true → ∀ c ∈ d.shown.cps.toList, c < 0x110000
  | .none, _, c, hc => by rw [PyData.shown_none] at hc; exact ofString_small _ c hc
  | .bool b, _, c, hc => by rw [PyData.shown_bool] at hc; cases b <;> exact ofString_small _ c hc
  | .int i, _, c, hc => by rw [PyData.shown_int] at hc; exact ofString_small _ c hc
  | .str x, h, c, hc => by
    have hx : PyData.strOk x = true := by simpa [PyData.canLay0] using h
    rw [PyData.shown_str, repr_signs] at hc
    have q := quote_or x
    rcases List.mem_cons.mp hc with hc | hc
    · omega
    · rcases List.mem_append.mp hc with hc | hc
      · obtain ⟨z, hz, hc⟩ := List.mem_flatMap.mp hc
        exact reprChar_small (strOk_iff.mp hx z hz) c hc
      · have := List.mem_singleton.mp hc
        omega
  | .list xs, h, c, hc => by
    have hx : PyData.canLayAll0 xs = true := by simpa [PyData.canLay0] using h
    rw [PyData.shown_list] at hc
    rcases mem_cps_append.mp hc with hc | hc
    · rcases mem_cps_append.mp hc with hc | hc
      · exact ofString_small _ c hc
      · exact join_small (shownAll_small xs hx) c hc
    · exact ofString_small _ c hc
  | .tuple xs, h, c, hc => by
    have hx : PyData.canLayAll0 xs = true := by simpa [PyData.canLay0] using h
    rw [PyData.shown_tuple] at hc
    rcases mem_cps_append.mp hc with hc | hc
    · rcases mem_cps_append.mp hc with hc | hc
      · exact ofString_small _ c hc
      · exact join_small (shownAll_small xs hx) c hc
    · exact ofString_small _ c hc
  | .dict kvs, h, _, _ => by simp [PyData.canLay0] at h
theorem shownAll_small : ∀ xs : List D, PyData.canLayAll0 xs = true → ∀ t ∈ PyData.shownAll xs, ∀ c ∈ t.cps.toList, c < 0x110000
  | [], _, t, ht => by rw [PyData.shownAll_nil] at ht; simp at ht
  | x :: xs, h, t, ht => by
    simp only [PyData.canLayAll0, Bool.and_eq_true] at h
    rw [PyData.shownAll_cons, List.mem_cons] at ht
    rcases ht with rfl | ht
    · exact shown_small x h.1
    · exact shownAll_small xs h.2 t ht
end
theorem shown_ok {d : D} (h : d.canLay0 = true) : PyData.strOk d.shown = true := strOk_iff.mpr (shown_small d h)
theorem flat_plain (q : Nat) : ∀ l : List Nat, 92 ∉ l.flatMap (Builtin.Str.reprChar q) → l.flatMap (Builtin.Str.reprChar q) = l
  | [], _ => rfl
  | c :: l, h => by
    rw [List.flatMap_cons] at h ⊢
    rcases reprChar_or q c with e | e
    · rw [e, flat_plain q l fun z => h (List.mem_append.mpr (.inr z))]
      rfl
    · exact absurd (List.mem_append.mpr (.inl e)) h
/-- what is shown as a plain text in quotes is that text -/
theorem shown_text {d : D} {w : List Nat} (hw : 92 ∉ w) (h : d.shown.cps.toList = 39 :: (w ++ [39])) : d = .str ⟨w.toArray⟩ := by
  have m39 : 39 ∈ d.shown.cps.toList := by rw [h]; simp
  cases d with
  | none => exact absurd m39 (shown_none_free (.inl (by decide)))
  | bool b => exact absurd m39 (shown_bool_free (.inl (by decide)) b)
  | int i => exact absurd m39 (shown_int_free (.inl (by decide)) i)
  | str x =>
    rw [PyData.shown_str, repr_signs] at h
    obtain ⟨h1, h2⟩ := List.cons.inj h
    rw [h1] at h2
    have h3 := List.append_cancel_right h2
    have h4 := flat_plain 39 x.cps.toList (by rw [h3]; exact hw)
    congr 1
    apply str_ext
    rw [← h4, h3]
  | list xs =>
    rw [PyData.shown_list, cps_toList_append, cps_toList_append, signs_lbrack] at h
    exact absurd (List.cons.inj h).1 (by decide)
  | tuple xs =>
    rw [PyData.shown_tuple, cps_toList_append, cps_toList_append, signs_lparen] at h
    exact absurd (List.cons.inj h).1 (by decide)
  | dict kvs =>
    rw [PyData.shown_dict, cps_toList_append, cps_toList_append, show ((("{" : String) : Str)).cps.toList = [123] by decide] at h
    exact absurd (List.cons.inj h).1 (by decide)
theorem shown_of_text {w : List Nat} (h : (PyData.str ⟨w.toArray⟩).shown.cps.toList = 39 :: (w ++ [39])) {x : Str} (hw : 92 ∉ w) {d : D} (hx : x.cps.toList = 39 :: (w ++ [39])) : d.shown = x ↔ d = .str ⟨w.toArray⟩ := by
  constructor
  · intro e
    exact shown_text hw (by rw [e, hx])
  · rintro rfl
    exact str_ext (by rw [h, hx])
/-! ### kinds -/
theorem nod {d : D} (h : d.canLay0 = true) : NoD d := fun kvs e => by subst e; simp [PyData.canLay0] at h
theorem isT_of {d : D} (h : isB "tuple" d = true) : IsT d := by
  cases d with
  | tuple xs => exact ⟨xs, rfl⟩
  | _ => simp [isB] at h
theorem isT_eq {d : D} (h : IsT d) : d = tM DL.encD (dTup d) := by
  obtain ⟨xs, rfl⟩ := h
  simp [dTup]
theorem isT_tup {d : D} (h : IsT d) : d = .tuple (dTup d) := by
  obtain ⟨xs, rfl⟩ := h
  rfl
theorem isI_of {d : D} (h : isB "int" d = true) (h2 : isB "bool" d = false) : IsI d := by
  cases d with
  | int i => exact ⟨i, rfl⟩
  | bool b => simp [isB] at h2
  | _ => simp [isB] at h
theorem isI_eq {d : D} (h : IsI d) : d = .int (dInt d) := by
  obtain ⟨i, rfl⟩ := h
  rfl
theorem isS_eq {d : D} (h : isB "str" d = true) : d = .str (dStr d) := by
  cases d with
  | str x => rfl
  | _ => simp [isB] at h
theorem eqv_str {d : D} {x : Str} : PyData.eqv d (.str x) = true ↔ d = .str x := by
  cases d <;> simp [PyData.eqv]
theorem eqv_int {i j : Int} : PyData.eqv (.int i) (.int j) = decide (i = j) := by simp [PyData.eqv]; rfl
theorem eqv_nil {d : D} : PyData.eqv d (.tuple []) = true ↔ d = .tuple [] := by
  cases d with
  | tuple xs => cases xs <;> simp [PyData.eqv, PyData.eqvAll]
  | _ => simp [PyData.eqv]
theorem ints_eq {d : D} (h : IsT d) (h2 : ∀ x ∈ dTup d, IsI x) : d = tM PyData.int (dInts d) := by
  obtain ⟨xs, rfl⟩ := h
  show PyData.tuple xs = .tuple ((xs.map dInt).map PyData.int)
  rw [List.map_map]
  congr 1
  conv => lhs; rw [← List.map_id xs]
  exact List.map_congr_left fun x hx => isI_eq (h2 x hx)
/-! ### sizes -/
inductive DK (M S L : Nat) : Nat → D → Prop
  | non (n : Nat) : DK M S L n .none
  | bl (n : Nat) (b : Bool) : DK M S L n (.bool b)
  | int (n : Nat) (i : Int) (h : i.natAbs < 10 ^ M) : DK M S L n (.int i)
  | str (n : Nat) (x : Str) (h : PyData.strOk x = true) (h2 : (reprText x).length ≤ S) : DK M S L n (.str x)
  | tup (n : Nat) (xs : List D) (hl : xs.length ≤ L) (h : ∀ x ∈ xs, DK M S L n x) : DK M S L (n + 1) (.tuple xs)
  | lst (n : Nat) (xs : List D) (hl : xs.length ≤ L) (h : ∀ x ∈ xs, DK M S L n x) : DK M S L (n + 1) (.list xs)
theorem DK.mono {M S L n M' S' L' : Nat} {d : D} (h : DK M S L n d) (hM : M ≤ M') (hS : S ≤ S') (hL : L ≤ L') : ∀ {n' : Nat}, n ≤ n' → DK M' S' L' n' d := by
  induction h with
  | non n => exact fun _ => .non _
  | bl n b => exact fun _ => .bl _ b
  | int n i h => exact fun _ => .int _ i (Nat.lt_of_lt_of_le h (Nat.pow_le_pow_right (by decide) hM))
  | str n x h h2 => exact fun _ => .str _ x h (Nat.le_trans h2 hS)
  | tup n xs hl h ih =>
    intro n' hn
    obtain ⟨m, rfl⟩ : ∃ m, n' = m + 1 := ⟨n' - 1, by omega⟩
    exact .tup m xs (Nat.le_trans hl hL) fun x hx => ih x hx (by omega)
  | lst n xs hl h ih =>
    intro n' hn
    obtain ⟨m, rfl⟩ : ∃ m, n' = m + 1 := ⟨n' - 1, by omega⟩
    exact .lst m xs (Nat.le_trans hl hL) fun x hx => ih x hx (by omega)
theorem DK.sh {M S L n : Nat} {d : D} (h : DK M S L n d) : Sh n d := by
  induction h with
  | non n => exact sh_none
  | bl n b => exact sh_bool
  | int n i h => exact sh_int
  | str n x h h2 => exact sh_str h
  | tup n xs hl h ih => exact sh_tup ih
  | lst n xs hl h ih => exact sh_lst ih
def szN (M S L : Nat) : Nat → Nat
  | 0 => M + S + 6
  | n + 1 => szN M S L n + L * (szN M S L n + 2) + 3
theorem szN_ge (M S L : Nat) : ∀ n, M + S + 6 ≤ szN M S L n
  | 0 => Nat.le_refl _
  | n + 1 => by
    have := szN_ge M S L n
    show _ ≤ szN M S L n + _ + 3
    omega
theorem DK.sz {M S L n : Nat} {d : D} (h : DK M S L n d) (h0 : 0 < M) (h1 : M ≤ 500) : Sz (szN M S L n) d := by
  induction h with
  | non n => exact sz_none.mono (by have := szN_ge M S L n; omega)
  | bl n b => exact sz_bool.mono (by have := szN_ge M S L n; omega)
  | int n i h => exact (sz_int M h h0 h1).mono (by have := szN_ge M S L n; omega)
  | str n x h h2 => exact ⟨rfl, by rw [PyData.shown_str]; have := szN_ge M S L n; omega⟩
  | tup n xs hl h ih =>
    refine (sz_tup ih).mono ?_
    have := Nat.mul_le_mul_right (szN M S L n + 2) hl
    show _ ≤ szN M S L n + L * (szN M S L n + 2) + 3
    omega
  | lst n xs hl h ih =>
    refine (sz_lst ih).mono ?_
    have := Nat.mul_le_mul_right (szN M S L n + 2) hl
    show _ ≤ szN M S L n + L * (szN M S L n + 2) + 3
    omega
theorem DK.kids {M S L n : Nat} {xs : List D} (h : DK M S L n (.tuple xs)) : xs.length ≤ L ∧ ∃ m, n = m + 1 ∧ ∀ x ∈ xs, DK M S L m x := by
  cases h with
  | tup n _ hl h => exact ⟨hl, n, rfl, h⟩
theorem DK.kid {M S L n : Nat} {d : D} (h : DK M S L n d) (ht : IsT d) : (dTup d).length ≤ L ∧ ∀ x ∈ dTup d, DK M S L n x := by
  obtain ⟨xs, rfl⟩ := ht
  obtain ⟨h1, m, rfl, h2⟩ := h.kids
  exact ⟨h1, fun x hx => (h2 x hx).mono (Nat.le_refl _) (Nat.le_refl _) (Nat.le_refl _) (by omega)⟩
theorem DK.i {M S L n : Nat} {i : Int} (h : DK M S L n (.int i)) : i.natAbs < 10 ^ M := by cases h; assumption
/-- depth falls -/
theorem depth_lt {xs : List D} {x : D} (h : x ∈ xs) : x.depth < (PyData.tuple xs).depth := by
  have key : ∀ (xs : List D), x ∈ xs → x.depth ≤ PyData.depthAll xs := by
    intro xs
    induction xs with
    | nil => intro h; simp at h
    | cons y ys ih =>
      intro h
      simp only [PyData.depthAll]
      rcases List.mem_cons.mp h with rfl | h
      · exact Nat.le_max_left _ _
      · exact Nat.le_trans (ih h) (Nat.le_max_right _ _)
  have := key xs h
  simp only [PyData.depth]
  omega
end PD

set_option Elab.async false
set_option linter.all false
set_option maxRecDepth 100000
set_option maxHeartbeats 2000000
/-! MD2: data with empty dicts -/
namespace PD
open PySem PySem.Spec PyProof.Rows L2 DL PL
/-- no lists, no dicts -/
inductive DN (M S L : Nat) : Nat → D → Prop
  | non (n : Nat) : DN M S L n .none
  | bl (n : Nat) (b : Bool) : DN M S L n (.bool b)
  | int (n : Nat) (i : Int) (h : i.natAbs < 10 ^ M) : DN M S L n (.int i)
  | str (n : Nat) (x : Str) (h : PyData.strOk x = true) (h2 : (reprText x).length ≤ S) : DN M S L n (.str x)
  | tup (n : Nat) (xs : List D) (hl : xs.length ≤ L) (h : ∀ x ∈ xs, DN M S L n x) : DN M S L (n + 1) (.tuple xs)
/-- no lists, empty dicts -/
inductive DT (M S L : Nat) : Nat → D → Prop
  | non (n : Nat) : DT M S L n .none
  | bl (n : Nat) (b : Bool) : DT M S L n (.bool b)
  | int (n : Nat) (i : Int) (h : i.natAbs < 10 ^ M) : DT M S L n (.int i)
  | str (n : Nat) (x : Str) (h : PyData.strOk x = true) (h2 : (reprText x).length ≤ S) : DT M S L n (.str x)
  | dic (n : Nat) : DT M S L n (.dict [])
  | tup (n : Nat) (xs : List D) (hl : xs.length ≤ L) (h : ∀ x ∈ xs, DT M S L n x) : DT M S L (n + 1) (.tuple xs)
section
variable {M S L n M' S' L' : Nat} {d : D}
theorem DN.k (h : DN M S L n d) (hM : M ≤ M') (hS : S ≤ S') (hL : L ≤ L') : ∀ {n' : Nat}, n ≤ n' → DK M' S' L' n' d := by
  induction h with
  | non n => exact fun _ => .non _
  | bl n b => exact fun _ => .bl _ b
  | int n i h => exact fun _ => .int _ i (Nat.lt_of_lt_of_le h (Nat.pow_le_pow_right (by decide) hM))
  | str n x h h2 => exact fun _ => .str _ x h (Nat.le_trans h2 hS)
  | tup n xs hl h ih =>
    intro n' hn
    obtain ⟨m, rfl⟩ : ∃ m, n' = m + 1 := ⟨n' - 1, by omega⟩
    exact .tup m xs (Nat.le_trans hl hL) fun x hx => ih x hx (by omega)
theorem DN.t (h : DN M S L n d) (hM : M ≤ M') (hS : S ≤ S') (hL : L ≤ L') : ∀ {n' : Nat}, n ≤ n' → DT M' S' L' n' d := by
  induction h with
  | non n => exact fun _ => .non _
  | bl n b => exact fun _ => .bl _ b
  | int n i h => exact fun _ => .int _ i (Nat.lt_of_lt_of_le h (Nat.pow_le_pow_right (by decide) hM))
  | str n x h h2 => exact fun _ => .str _ x h (Nat.le_trans h2 hS)
  | tup n xs hl h ih =>
    intro n' hn
    obtain ⟨m, rfl⟩ : ∃ m, n' = m + 1 := ⟨n' - 1, by omega⟩
    exact .tup m xs (Nat.le_trans hl hL) fun x hx => ih x hx (by omega)
theorem DN.mono (h : DN M S L n d) (hM : M ≤ M') (hS : S ≤ S') (hL : L ≤ L') : ∀ {n' : Nat}, n ≤ n' → DN M' S' L' n' d := by
  induction h with
  | non n => exact fun _ => .non _
  | bl n b => exact fun _ => .bl _ b
  | int n i h => exact fun _ => .int _ i (Nat.lt_of_lt_of_le h (Nat.pow_le_pow_right (by decide) hM))
  | str n x h h2 => exact fun _ => .str _ x h (Nat.le_trans h2 hS)
  | tup n xs hl h ih =>
    intro n' hn
    obtain ⟨m, rfl⟩ : ∃ m, n' = m + 1 := ⟨n' - 1, by omega⟩
    exact .tup m xs (Nat.le_trans hl hL) fun x hx => ih x hx (by omega)
theorem DT.mono (h : DT M S L n d) (hM : M ≤ M') (hS : S ≤ S') (hL : L ≤ L') : ∀ {n' : Nat}, n ≤ n' → DT M' S' L' n' d := by
  induction h with
  | non n => exact fun _ => .non _
  | bl n b => exact fun _ => .bl _ b
  | int n i h => exact fun _ => .int _ i (Nat.lt_of_lt_of_le h (Nat.pow_le_pow_right (by decide) hM))
  | str n x h h2 => exact fun _ => .str _ x h (Nat.le_trans h2 hS)
  | dic n => exact fun _ => .dic _
  | tup n xs hl h ih =>
    intro n' hn
    obtain ⟨m, rfl⟩ : ∃ m, n' = m + 1 := ⟨n' - 1, by omega⟩
    exact .tup m xs (Nat.le_trans hl hL) fun x hx => ih x hx (by omega)
theorem DN.kids {xs : List D} (h : DN M S L n (.tuple xs)) : xs.length ≤ L ∧ ∃ m, n = m + 1 ∧ ∀ x ∈ xs, DN M S L m x := by
  cases h with
  | tup n _ hl h => exact ⟨hl, n, rfl, h⟩
theorem DN.kid (h : DN M S L n d) (ht : IsT d) : (dTup d).length ≤ L ∧ ∀ x ∈ dTup d, DN M S L n x := by
  obtain ⟨xs, rfl⟩ := ht
  obtain ⟨h1, m, rfl, h2⟩ := h.kids
  exact ⟨h1, fun x hx => (h2 x hx).mono (Nat.le_refl _) (Nat.le_refl _) (Nat.le_refl _) (by omega)⟩
theorem DN.i {i : Int} (h : DN M S L n (.int i)) : i.natAbs < 10 ^ M := by cases h; assumption
theorem DT.kid (h : DT M S L n d) (ht : IsT d) : (dTup d).length ≤ L ∧ ∀ x ∈ dTup d, DT M S L n x := by
  obtain ⟨xs, rfl⟩ := ht
  cases h with
  | tup n _ hl h => exact ⟨hl, fun x hx => (h x hx).mono (Nat.le_refl _) (Nat.le_refl _) (Nat.le_refl _) (by omega)⟩
theorem layTs_of : ∀ {xs : List D}, (∀ x ∈ xs, layT x = true) → layTs xs = true
  | [], _ => by simp [layTs]
  | x :: xs, h => by simp [layTs, h x (by simp), layTs_of (xs := xs) fun y hy => h y (by simp [hy])]
theorem depthAll_le : ∀ {xs : List D}, (∀ x ∈ xs, x.depth ≤ n) → PyData.depthAll xs ≤ n
  | [], _ => by simp [PyData.depthAll]
  | x :: xs, h => by
    simp only [PyData.depthAll]
    exact Nat.max_le.mpr ⟨h x (by simp), depthAll_le (xs := xs) fun y hy => h y (by simp [hy])⟩
theorem depth_dic : (PyData.dict []).depth ≤ 1 := by decide
theorem DT.lay (h : DT M S L n d) : layT d = true ∧ d.depth ≤ n + 1 := by
  induction h with
  | non n => exact ⟨by simp [layT], by simp [PyData.depth]⟩
  | bl n b => exact ⟨by simp [layT], by simp [PyData.depth]⟩
  | int n i h => exact ⟨by simp [layT], by simp [PyData.depth]⟩
  | str n x h h2 => exact ⟨by simpa [layT] using h, by simp [PyData.depth]⟩
  | dic n => exact ⟨by simp [layT], by have := depth_dic; omega⟩
  | tup n xs hl h ih =>
    refine ⟨by simpa [layT] using layTs_of fun x hx => (ih x hx).1, ?_⟩
    have := depthAll_le (xs := xs) fun x hx => (ih x hx).2
    simp only [PyData.depth]
    omega
theorem DT.sz (h : DT M S L n d) (h0 : 0 < M) (h1 : M ≤ 500) : Sz (szN M S L n) d := by
  induction h with
  | non n => exact sz_none.mono (by have := szN_ge M S L n; omega)
  | bl n b => exact sz_bool.mono (by have := szN_ge M S L n; omega)
  | int n i h => exact (sz_int M h h0 h1).mono (by have := szN_ge M S L n; omega)
  | str n x h h2 => exact ⟨rfl, by rw [PyData.shown_str]; have := szN_ge M S L n; omega⟩
  | dic n =>
    have e : Sz 2 (.dict []) := ⟨by decide, by decide +kernel⟩
    exact e.mono (by have := szN_ge M S L n; omega)
  | tup n xs hl h ih =>
    refine (sz_tup ih).mono ?_
    have := Nat.mul_le_mul_right (szN M S L n + 2) hl
    show _ ≤ szN M S L n + L * (szN M S L n + 2) + 3
    omega
end
mutual
theorem shown_smallT : ∀ d : D, layT d = true → ∀ c ∈ d.shown.cps.toList, c < 0x110000
  | .none, _, c, hc => shown_small .none rfl c hc
  | .bool b, _, c, hc => shown_small (.bool b) rfl c hc
  | .int i, _, c, hc => shown_small (.int i) rfl c hc
  | .str x, h, c, hc => shown_small (.str x) (by simpa [layT, PyData.canLay0] using h) c hc
  | .list xs, h, _, _ => by simp [layT] at h
  | .tuple xs, h, c, hc => by
    rw [PyData.shown_tuple] at hc
    rcases mem_cps_append.mp hc with hc | hc
    · rcases mem_cps_append.mp hc with hc | hc
      · exact ofString_small _ c hc
      · exact join_small (shownAll_smallT xs (by simpa [layT] using h)) c hc
    · exact ofString_small _ c hc
  | .dict kvs, h, c, hc => by
    have : kvs = [] := by simpa [layT] using h
    subst this
    rw [PyData.shown_dict] at hc
    rcases mem_cps_append.mp hc with hc | hc
    · rcases mem_cps_append.mp hc with hc | hc
      · exact ofString_small _ c hc
      · simp [PyData.shownKv, Str.join, Str.empty] at hc
    · exact ofString_small _ c hc
theorem shownAll_smallT : ∀ xs : List D, layTs xs = true → ∀ t ∈ PyData.shownAll xs, ∀ c ∈ t.cps.toList, c < 0x110000
  | [], _, t, ht => by rw [PyData.shownAll_nil] at ht; simp at ht
  | x :: xs, h, t, ht => by
    simp only [layTs, Bool.and_eq_true] at h
    rw [PyData.shownAll_cons, List.mem_cons] at ht
    rcases ht with rfl | ht
    · exact shown_smallT x h.1
    · exact shownAll_smallT xs h.2 t ht
end
/-- data of any kind that comes -/
def DX (M S L n : Nat) (d : D) : Prop := DK M S L n d ∨ DT M S L n d
section
variable {M S L n : Nat} {d : D}
theorem DX.noe (h : DX M S L n d) : NoE d := by
  rcases h with h | h
  · exact .inl (nod h.sh.1)
  · cases h with
    | dic n => exact .inr rfl
    | _ => exact .inl fun _ e => by cases e
theorem DX.she (h : DX M S L n d) (hn : n + 1 ≤ 40) : ShE 40 d := by
  rcases h with h | h
  · have := h.sh
    exact ⟨.inl this.1, Nat.le_trans this.2 (by omega)⟩
  · exact ⟨.inr h.lay.1, Nat.le_trans h.lay.2 hn⟩
theorem DX.sz (h : DX M S L n d) (h0 : 0 < M) (h1 : M ≤ 500) : Sz (szN M S L n) d := by
  rcases h with h | h
  · exact h.sz h0 h1
  · exact h.sz h0 h1
theorem DX.kid (h : DX M S L n d) (ht : IsT d) : (dTup d).length ≤ L ∧ ∀ x ∈ dTup d, DX M S L n x := by
  rcases h with h | h
  · exact ⟨(h.kid ht).1, fun x hx => .inl ((h.kid ht).2 x hx)⟩
  · exact ⟨(h.kid ht).1, fun x hx => .inr ((h.kid ht).2 x hx)⟩
theorem DX.shown (h : DX M S L n d) : PyData.strOk d.shown = true := by
  rcases h with h | h
  · exact shown_ok h.sh.1
  · exact strOk_iff.mpr (shown_smallT d h.lay.1)
theorem DX.strK {x : Str} (h : DX M S L n (.str x)) : PyData.strOk x = true := by
  rcases h with h | h <;> cases h <;> assumption
theorem DX.shpS {x : Str} (h : DX M S L n (.str x)) : SeqAt.shaped (.str x) = true := ((sh_str h.strK : Sh 0 (.str x))).shaped (by decide)
end
theorem shpI {i : Int} : SeqAt.shaped (.int i) = true := rfl
end PD

set_option Elab.async false
set_option linter.all false
set_option maxRecDepth 100000
set_option maxHeartbeats 4000000
namespace K86
open PySem PySem.Spec PyProof.Rows L2 DL PL K87 PD
/-- data of any kind, bounded -/
abbrev Dv (v : D) : Prop := DK 22 20 13 4 v
def InR (n : Nat) (o : List Int) : Prop := (∀ j ∈ o, 0 ≤ j ∧ j < (n : Int)) ∧ o.length ≤ 1000
def Small (jobs : J3) : Prop := jobs.length ≤ 61 ∧ ∀ p ∈ jobs, 0 ≤ p.1 ∧ p.1 ≤ 24 ∧ 0 ≤ p.2.1 ∧ p.2.1 ≤ 24 ∧ 0 ≤ p.2.2 ∧ p.2.2 ≤ 24
def Ok_is_number (v : D) : Prop := v.canLay0 = true
def F_is_number (v : D) : Bool := (isB "int" v) && ((!(isB "bool" v)) && (decide ((0 : Int) ≤ dInt v)))
def Ok_is_room_job (v : D) : Prop := Dv v
def F_is_room_job (v : D) : Bool := isB "tuple" v && (decide (((dTup v).length : Int) = (3 : Int)) && (dTup v).all fun x => F_is_number x && decide ((0 : Int) < dInt x))
def Ok_are_room_jobs (v : D) : Prop := Dv v
def F_are_room_jobs (v : D) : Bool := isB "tuple" v && (dTup v).all F_is_room_job
def Ok_ends_in_room (ls : List Int) (o : List Int) (come : List (Int × Int)) : Prop := InR ls.length o ∧ o.Nodup ∧ ∀ j ∈ o, dhas come j = true
def F_ends_in_room (ls : List Int) (o : List Int) (come : List (Int × Int)) : List (Int × Int) := run ls (dgd come) o 0
def tri (os : List (List Int)) : List Int × List Int × List Int := (gi os (0 : Int), gi os (1 : Int), gi os (2 : Int))
def OkOs (jobs : J3) (os : List (List Int)) : Prop := os.length = 3 ∧ jobs.length ≤ 1000 ∧ OrdP jobs.length (tri os).1 ∧ OrdP jobs.length (tri os).2.1 ∧ OrdP jobs.length (tri os).2.2
def Ok_ends_by_rooms (jobs : J3) (os : List (List Int)) : Prop := OkOs jobs os
def F_ends_by_rooms (jobs : J3) (os : List (List Int)) : List (List (Int × Int)) := rms jobs (tri os)
def Ok_room_ends (jobs : J3) (o : List Int) : Prop := jobs.length ≤ 1000 ∧ OrdP jobs.length o
def F_room_ends (jobs : J3) (o : List Int) : List (List Int) := (List.range jobs.length).map fun k : Nat => (rms jobs (o, o, o)).map fun m => dgd m (k : Int)
def Ok_rooms_span (jobs : J3) (os : List (List Int)) : Prop := OkOs jobs os
def F_rooms_span (jobs : J3) (os : List (List Int)) : Int := spanOf jobs (tri os)
def Ok_room_span (jobs : J3) (o : List Int) : Prop := jobs.length ≤ 1000 ∧ OrdP jobs.length o
def F_room_span (jobs : J3) (o : List Int) : Int := spanOf jobs (o, o, o)
def Ok_way_length (jobs : J3) (o : List Int) (u v : Int) : Prop := InR jobs.length o
def F_way_length (jobs : J3) (o : List Int) (u v : Int) : Int := wayL jobs o u v
def Ok_greatest_way (jobs : J3) (o : List Int) : Prop := InR jobs.length o ∧ o ≠ []
def F_greatest_way (jobs : J3) (o : List Int) : Int × Int × Int := qv (lawWay jobs o)
def Ok_wide_span (jobs : J3) (o : List Int) : Prop := InR jobs.length o ∧ Pos3 jobs
def F_wide_span (jobs : J3) (o : List Int) : Int := Wd jobs o
def Ok_turned_rooms (jobs : J3) : Prop := True
def F_turned_rooms (jobs : J3) : J3 := turnJ jobs
def Ok_with_middle (jobs : J3) (more : Int) : Prop := True
def F_with_middle (jobs : J3) (more : Int) : J3 := lateJ jobs more
def Ok__law_jobs (n : Int) : Prop := 0 ≤ n ∧ n ≤ 61
def Po__law_jobs (n : Int) (r : J3) : Prop := (r.length : Int) = n ∧ Small r
def Ok__law_ends (jobs : J3) (os : List (List Int)) : Prop := OkOs jobs os
def F__law_ends (jobs : J3) (os : List (List Int)) : List (List Int) := (rms jobs (tri os)).map (arr jobs.length)
def Ok__law_span (jobs : J3) (o : List Int) : Prop := jobs.length ≤ 1000 ∧ OrdP jobs.length o
def F__law_span (jobs : J3) (o : List Int) : Int := spanOf jobs (o, o, o)
def Ok__law_wide (jobs : J3) (o : List Int) : Prop := InR jobs.length o ∧ Pos3 jobs
def F__law_wide (jobs : J3) (o : List Int) : Int := Wd jobs o
def Ok__law_near (v : D) (odd : List D) : Prop := DK 21 20 12 3 v ∧ odd ≠ [] ∧ odd.length ≤ 1000 ∧ ∀ o ∈ odd, DK 22 20 13 1 o
def rk__law_near (v : D) (odd : List D) : Nat := v.depth
def Po__law_near (v : D) (odd : List D) (r : D) : Prop := ∀ n, DK 21 20 12 n v → DK 22 20 13 (n + 1) r
def Ok__law_way (jobs : J3) (o : List Int) : Prop := InR jobs.length o
def F__law_way (jobs : J3) (o : List Int) : Option (Int × Int × Int) := lawWay jobs o
end K86

set_option Elab.async false
set_option linter.all false
set_option maxRecDepth 100000
set_option maxHeartbeats 4000000
namespace K86
open PySem PySem.Spec PyProof.Rows L2 DL
def W_is_number (value : D) (rt : Bool → Prop) : Prop :=
  (NoD value) ∧
  ((isB "int" value) = true → NoD value) ∧
  ((isB "int" value) = true → (!(isB "bool" value)) = true → IsI value) ∧
  rt ((isB "int" value) && ((!(isB "bool" value)) && (decide ((0 : Int) ≤ dInt value))))
def W_is_room_job (value : D) (rt : Bool → Prop) : Prop :=
  (NoD value) ∧
  ((!(isB "tuple" value)) = false → IsT value) ∧
  (((!(isB "tuple" value)) || (!decide (((dTup value).length : Int) = (3 : Int)))) = true →
  rt false) ∧
  (((!(isB "tuple" value)) || (!decide (((dTup value).length : Int) = (3 : Int)))) = false →
  (IsT value) ∧
  (∀ x9 : D, x9 ∈ (dTup value) → Ok_is_number x9) ∧
  (∀ x9 : D, x9 ∈ (dTup value) → (F_is_number x9) = true → IsI x9) ∧
  rt ((List.map (fun x9 : D => ((F_is_number x9) && (decide ((0 : Int) < dInt x9)))) (dTup value)).all id))
def W_are_room_jobs (value : D) (rt : Bool → Prop) : Prop :=
  (NoD value) ∧
  ((isB "tuple" value) = true → IsT value) ∧
  ((isB "tuple" value) = true → ∀ x4 : D, x4 ∈ (dTup value) → Ok_is_room_job x4) ∧
  rt ((isB "tuple" value) && ((List.map (fun x4 : D => (F_is_room_job x4)) (dTup value)).all id))
def wr1_ends_in_room (s : (List (Int × Int)) × Int) (rt : (List (Int × Int)) → Prop) : Prop :=
  rt s.1
def wl1_ends_in_room (lengths : (List Int)) (come : (List (Int × Int))) (x : Int) (s : (List (Int × Int)) × Int) (N_ : ((List (Int × Int)) × Int) → Prop) : Prop :=
  (dhas come x = true) ∧
  ((0 ≤ x ∧ x < lengths.length)) ∧
  (∀ hour : Int, hour = ((max s.2 (dgd come x)) + (gi lengths x)) →
  (s.1.length < 16000000) ∧
  (∀ found : (List (Int × Int)), found = dput s.1 x hour →
  N_ (found, hour)))
def W_ends_in_room (lengths : (List Int)) (order : (List Int)) (come : (List (Int × Int))) (rt : (List (Int × Int)) → Prop) : Prop :=
  (∀ found : (List (Int × Int)), ∀ hour : Int, found = ([] : (List (Int × Int))) →
  hour = (0 : Int) →
  wpFor (fun xx ss N B => wl1_ends_in_room lengths come xx ss N) order (found, hour)
  (fun ss => wr1_ends_in_room ss rt))
def wr1_ends_by_rooms (s : (List (List (Int × Int))) × (List (Int × Int))) (rt : (List (List (Int × Int))) → Prop) : Prop :=
  rt s.1
def wl1_ends_by_rooms (jobs : (List (Int × Int × Int))) (x : ((List Int) × Nat)) (s : (List (List (Int × Int))) × (List (Int × Int))) (N_ : ((List (List (Int × Int))) × (List (Int × Int))) → Prop) : Prop :=
  (∀ x6 : (Int × Int × Int), x6 ∈ jobs → (0 ≤ (x.2 : Int) ∧ (x.2 : Int) < 3)) ∧
  (Ok_ends_in_room (List.map (fun x6 : (Int × Int × Int) => (pix3 x6 (x.2 : Int))) jobs) x.1 s.2) ∧
  (∀ come : (List (Int × Int)), come = (F_ends_in_room (List.map (fun x6 : (Int × Int × Int) => (pix3 x6 (x.2 : Int))) jobs) x.1 s.2) →
  (s.1.length < 16000000) ∧
  (∀ found : (List (List (Int × Int))), found = s.1 ++ [come] →
  N_ (found, come)))
def W_ends_by_rooms (jobs : (List (Int × Int × Int))) (orders : (List (List Int))) (rt : (List (List (Int × Int))) → Prop) : Prop :=
  (jobs.length ≤ 16000000) ∧
  (∀ found : (List (List (Int × Int))), ∀ come : (List (Int × Int)), found = ([] : (List (List (Int × Int)))) →
  come = (dcat [] (List.map (fun x2 : Nat => ((x2 : Int), (0 : Int))) (List.range jobs.length))) →
  wpFor (fun xx ss N B => wl1_ends_by_rooms jobs xx ss N) orders.zipIdx (found, come)
  (fun ss => wr1_ends_by_rooms ss rt))
def W_room_ends (jobs : (List (Int × Int × Int))) (order : (List Int)) (rt : (List (List Int)) → Prop) : Prop :=
  (Ok_ends_by_rooms jobs [order, order, order]) ∧
  (∀ ends : (List (List (Int × Int))), ends = (F_ends_by_rooms jobs [order, order, order]) →
  (jobs.length ≤ 16000000) ∧
  (∀ x4 : Nat, x4 ∈ (List.range jobs.length) → ∀ x6 : (List (Int × Int)), x6 ∈ ends → dhas x6 (x4 : Int) = true) ∧
  rt (List.map (fun x4 : Nat => (List.map (fun x6 : (List (Int × Int)) => (dgd x6 (x4 : Int))) ends)) (List.range jobs.length)))
def W_rooms_span (jobs : (List (Int × Int × Int))) (orders : (List (List Int))) (rt : Int → Prop) : Prop :=
  (Ok_ends_by_rooms jobs orders) ∧
  (2 < (F_ends_by_rooms jobs orders).length) ∧
  ([(0 : Int)].length + ((gi (F_ends_by_rooms jobs orders) (2 : Int)).map (·.2)).length ≤ 16000000) ∧
  (([(0 : Int)] ++ ((gi (F_ends_by_rooms jobs orders) (2 : Int)).map (·.2))) ≠ []) ∧
  rt (mxI ([(0 : Int)] ++ ((gi (F_ends_by_rooms jobs orders) (2 : Int)).map (·.2))))
def W_room_span (jobs : (List (Int × Int × Int))) (order : (List Int)) (rt : Int → Prop) : Prop :=
  (Ok_rooms_span jobs [order, order, order]) ∧
  rt (F_rooms_span jobs [order, order, order])
def W_way_length (jobs : (List (Int × Int × Int))) (order : (List Int)) (u : Int) (v : Int) (rt : Int → Prop) : Prop :=
  (∀ x1 : Int, x1 ∈ (cutD order none (some (u + (1 : Int)))) → (0 ≤ x1 ∧ x1 < jobs.length)) ∧
  (∀ first : Int, first = (List.map (fun x1 : Int => ((gi jobs x1)).1) (cutD order none (some (u + (1 : Int))))).sum →
  (∀ x5 : Int, x5 ∈ (cutD order (some u) (some (v + (1 : Int)))) → (0 ≤ x5 ∧ x5 < jobs.length)) ∧
  (∀ middle : Int, middle = (List.map (fun x5 : Int => ((gi jobs x5)).2.1) (cutD order (some u) (some (v + (1 : Int))))).sum →
  (∀ x9 : Int, x9 ∈ (cutD order (some v) none) → (0 ≤ x9 ∧ x9 < jobs.length)) ∧
  rt ((first + middle) + (List.map (fun x9 : Int => ((gi jobs x9)).2.2) (cutD order (some v) none)).sum)))
def wr1_greatest_way (s : (List (Int × Int × Int))) (rt : (Int × Int × Int) → Prop) : Prop :=
  (s ≠ []) ∧
  (∀ v : (Int × Int × Int), v = (mnO (lt2 ltI (lt2 ltI ltI)) s) →
  rt (v.2.1, v.2.2, (-v.1)))
def wl1_greatest_way (jobs : (List (Int × Int × Int))) (order : (List Int)) (n : Int) (x : Nat) (s : (List (Int × Int × Int))) (N_ : ((List (Int × Int × Int))) → Prop) : Prop :=
  ((-(2 ^ 62) ≤ (x : Int) ∧ (x : Int) < 2 ^ 62 ∧ -(2 ^ 62) ≤ n ∧ n < 2 ^ 62 ∧ n - (x : Int) ≤ 16000000)) ∧
  (∀ x7 : Nat, x7 ∈ (List.range (n - (x : Int)).toNat) → Ok_way_length jobs order (x : Int) ((x : Int) + (x7 : Int))) ∧
  (s.length + (List.map (fun x7 : Nat => ((-(F_way_length jobs order (x : Int) ((x : Int) + (x7 : Int)))), (x : Int), ((x : Int) + (x7 : Int)))) (List.range (n - (x : Int)).toNat)).length ≤ 16000000) ∧
  (∀ found : (List (Int × Int × Int)), found = s ++ (List.map (fun x7 : Nat => ((-(F_way_length jobs order (x : Int) ((x : Int) + (x7 : Int)))), (x : Int), ((x : Int) + (x7 : Int)))) (List.range (n - (x : Int)).toNat)) →
  N_ found)
def W_greatest_way (jobs : (List (Int × Int × Int))) (order : (List Int)) (rt : (Int × Int × Int) → Prop) : Prop :=
  (∀ n : Int, ∀ found : (List (Int × Int × Int)), n = (order.length : Int) →
  found = ([] : (List (Int × Int × Int))) →
  ((-(2 ^ 62) ≤ n ∧ n ≤ 16000000)) ∧
  wpFor (fun xx ss N B => wl1_greatest_way jobs order n xx ss N) (List.range n.toNat) found
  (fun ss => wr1_greatest_way ss rt))
def W_wide_span (jobs : (List (Int × Int × Int))) (order : (List Int)) (rt : Int → Prop) : Prop :=
  (order.length ≤ 16000000) ∧
  (∀ x2 : Nat, x2 ∈ (List.range order.length) → Ok_way_length jobs order (x2 : Int) (x2 : Int)) ∧
  ((((0 : Int) :: ((List.map (fun x2 : Nat => (F_way_length jobs order (x2 : Int) (x2 : Int))) (List.range order.length)) ++ [])) : (List Int)).length ≤ 16000000) ∧
  ((((0 : Int) :: ((List.map (fun x2 : Nat => (F_way_length jobs order (x2 : Int) (x2 : Int))) (List.range order.length)) ++ [])) : (List Int)) ≠ []) ∧
  rt (mxI (((0 : Int) :: ((List.map (fun x2 : Nat => (F_way_length jobs order (x2 : Int) (x2 : Int))) (List.range order.length)) ++ [])) : (List Int)))
def W_turned_rooms (jobs : (List (Int × Int × Int))) (rt : (List (Int × Int × Int)) → Prop) : Prop :=
  rt (List.map (fun x1 : (Int × Int × Int) => (x1.2.2, x1.2.1, x1.1)) jobs)
def W_with_middle (jobs : (List (Int × Int × Int))) (more : Int) (rt : (List (Int × Int × Int)) → Prop) : Prop :=
  rt (List.map (fun x1 : (Int × Int × Int) => (x1.1, (x1.2.1 + more), x1.2.2)) jobs)
def wr1__law_jobs (s : (List (Int × Int × Int))) (rt : (List (Int × Int × Int)) → Prop) : Prop :=
  rt s
def wl1__law_jobs (way : Int) (far : Int) (x : Nat) (s : (List (Int × Int × Int))) (N_ : ((List (Int × Int × Int))) → Prop) : Prop :=
  (far < 2 ^ 64) ∧
  (∀ a : Int, ∀ b : Int, ∀ c : Int, (∃ b10, ((0 ≤ b10 ∧ (b10 < far ∨ b10 = 0))) ∧ a = ((1 : Int) + b10)) →
  (∃ b12, ((0 ≤ b12 ∧ (b12 < far ∨ b12 = 0))) ∧ b = ((1 : Int) + b12)) →
  (∃ b14, ((0 ≤ b14 ∧ (b14 < far ∨ b14 = 0))) ∧ c = ((1 : Int) + b14)) →
  (∀ a2 : Int, a2 = (if (decide (way = (1 : Int))) = true then (a + far) else a) →
  (∀ c2 : Int, c2 = (if (decide (way = (2 : Int))) = true then (c + far) else c) →
  (s.length < 16000000) ∧
  (∀ found : (List (Int × Int × Int)), found = s ++ [(a2, b, c2)] →
  N_ found))))
def W__law_jobs (n : Int) (rt : (List (Int × Int × Int)) → Prop) : Prop :=
  ((4 : Int) < 2 ^ 64) ∧
  ((12 : Int) < 2 ^ 64) ∧
  (∀ way : Int, ∀ far : Int, (0 ≤ way ∧ (way < (4 : Int) ∨ way = 0)) →
  (∃ b3, ((0 ≤ b3 ∧ (b3 < (12 : Int) ∨ b3 = 0))) ∧ far = ((1 : Int) + b3)) →
  (∀ found : (List (Int × Int × Int)), found = ([] : (List (Int × Int × Int))) →
  ((-(2 ^ 62) ≤ n ∧ n ≤ 16000000)) ∧
  wpFor (fun xx ss N B => wl1__law_jobs way far xx ss N) (List.range n.toNat) found
  (fun ss => wr1__law_jobs ss rt)))
def wr1__law_ends (s : (List Int) × (List (List Int))) (rt : (List (List Int)) → Prop) : Prop :=
  rt s.2
def wr2__law_ends (jobs : (List (Int × Int × Int))) (found : (List (List Int))) (s : Int × (List Int)) (N_ : ((List Int) × (List (List Int))) → Prop) : Prop :=
  (found.length < 16000000) ∧
  (∀ found2 : (List (List Int)), found2 = found ++ [s.2] →
  (∀ come : (List Int), come = s.2 →
  N_ (come, found2)))
def wl2__law_ends (jobs : (List (Int × Int × Int))) (come : (List Int)) (found : (List (List Int))) (room : Int) (x : Int) (s : Int × (List Int)) (N_2 : (Int × (List Int)) → Prop) : Prop :=
  ((0 ≤ x ∧ x < come.length)) ∧
  ((0 ≤ x ∧ x < jobs.length)) ∧
  ((0 ≤ room ∧ room < 3)) ∧
  (∀ hour : Int, hour = ((max s.1 (gi come x)) + (pix3 (gi jobs x) room)) →
  ((0 ≤ x ∧ x < s.2.length)) ∧
  (∀ ends : (List Int), ends = s.2.set x.toNat hour →
  N_2 (hour, ends)))
def wl1__law_ends (jobs : (List (Int × Int × Int))) (x : ((List Int) × Nat)) (s : (List Int) × (List (List Int))) (N_ : ((List Int) × (List (List Int))) → Prop) : Prop :=
  ((-(2 ^ 62) ≤ (jobs.length : Int) ∧ (jobs.length : Int) < 2 ^ 62 ∧ [(0 : Int)].length * (jobs.length : Int).toNat ≤ 16000000)) ∧
  (∀ hour : Int, ∀ ends : (List Int), hour = (0 : Int) →
  ends = (List.replicate (jobs.length : Int).toNat (0 : Int)) →
  wpFor (fun xx ss N B => wl2__law_ends jobs s.1 s.2 (x.2 : Int) xx ss N) x.1 (hour, ends)
  (fun ss => wr2__law_ends jobs s.2 ss N_))
def W__law_ends (jobs : (List (Int × Int × Int))) (orders : (List (List Int))) (rt : (List (List Int)) → Prop) : Prop :=
  ((-(2 ^ 62) ≤ (jobs.length : Int) ∧ (jobs.length : Int) < 2 ^ 62 ∧ [(0 : Int)].length * (jobs.length : Int).toNat ≤ 16000000)) ∧
  (∀ come : (List Int), ∀ found : (List (List Int)), come = (List.replicate (jobs.length : Int).toNat (0 : Int)) →
  found = ([] : (List (List Int))) →
  wpFor (fun xx ss N B => wl1__law_ends jobs xx ss N) orders.zipIdx (come, found)
  (fun ss => wr1__law_ends ss rt))
def W__law_span (jobs : (List (Int × Int × Int))) (order : (List Int)) (rt : Int → Prop) : Prop :=
  (Ok__law_ends jobs [order, order, order]) ∧
  (2 < (F__law_ends jobs [order, order, order]).length) ∧
  ((gi (F__law_ends jobs [order, order, order]) (2 : Int)).length + [(0 : Int)].length ≤ 16000000) ∧
  (((gi (F__law_ends jobs [order, order, order]) (2 : Int)) ++ [(0 : Int)]) ≠ []) ∧
  rt (mxI ((gi (F__law_ends jobs [order, order, order]) (2 : Int)) ++ [(0 : Int)]))
def wr1__law_wide (s : Int × Int) (rt : Int → Prop) : Prop :=
  rt s.2
def wl1__law_wide (jobs : (List (Int × Int × Int))) (x : Int) (s : Int × Int) (N_ : (Int × Int) → Prop) : Prop :=
  ((0 ≤ x ∧ x < jobs.length)) ∧
  (∀ first : Int, first = (s.1 + ((gi jobs x)).1) →
  ((0 ≤ x ∧ x < jobs.length)) ∧
  (∀ last : Int, last = ((max s.2 (first + ((gi jobs x)).2.1)) + ((gi jobs x)).2.2) →
  N_ (first, last)))
def W__law_wide (jobs : (List (Int × Int × Int))) (order : (List Int)) (rt : Int → Prop) : Prop :=
  (∀ first : Int, ∀ last : Int, first = (0 : Int) →
  last = (0 : Int) →
  wpFor (fun xx ss N B => wl1__law_wide jobs xx ss N) order (first, last)
  (fun ss => wr1__law_wide ss rt))
def W__law_near (value : D) (odd : (List D)) (rt : D → Prop) : Prop :=
  (NoD value) ∧
  ((isB "int" value) = true → NoD value) ∧
  ((isB "int" value) = true → (!(isB "bool" value)) = true → (3 : Int) < 2 ^ 64) ∧
  (((isB "int" value) = true ∧ ((!(isB "bool" value)) = true ∧ True)) →
  (([(1 : Int), (-1 : Int), (2 : Int)] ≠ [] ∧ [(1 : Int), (-1 : Int), (2 : Int)].length < 2 ^ 62)) ∧
  (value = PyData.int (dInt value)) ∧
  (∀ y : D, (∃ z13 : Int, ((∃ b11, (b11 ∈ [(1 : Int), (-1 : Int), (2 : Int)]) ∧ z13 = ((dInt value) + b11))) ∧ y = PyData.int z13) → rt y)) ∧
  (True →
  (NoD value) ∧
  ((!(isB "tuple" value)) = false → SeqAt.shaped value = true) ∧
  ((!(isB "tuple" value)) = false → (PyData.eqv value ((tM PyData.int) ([] : (List Int)))) = false → (7 : Int) < 2 ^ 64) ∧
  (True →
  ((odd ≠ [] ∧ odd.length < 2 ^ 62)) ∧
  (∀ y : D, y ∈ odd → rt y)) ∧
  (((!(isB "tuple" value)) = false ∧ ((PyData.eqv value ((tM PyData.int) ([] : (List Int)))) = false ∧ True)) →
  (IsT value) ∧
  (((dTup value).length : Int) < 2 ^ 64) ∧
  ((6 : Int) < 2 ^ 64) ∧
  (∀ k : Int, ∀ way : Int, (0 ≤ k ∧ (k < ((dTup value).length : Int) ∨ k = 0)) →
  (0 ≤ way ∧ (way < (6 : Int) ∨ way = 0)) →
  ((decide (way < (4 : Int))) = true →
  (value = (tM DL.encD) (dTup value)) ∧
  (IsT value) ∧
  ((0 ≤ k ∧ k < (dTup value).length)) ∧
  ((Ok__law_near (gi (dTup value) k) odd ∧ rk__law_near (gi (dTup value) k) odd < rk__law_near value odd)) ∧
  (∀ b35 : (List D), (∃ a0, Po__law_near (gi (dTup value) k) odd a0 ∧ b35 = [a0]) → (cutD (dTup value) none (some k)).length + b35.length ≤ 16000000) ∧
  (∀ b38 : (List D), (∃ a0, Po__law_near (gi (dTup value) k) odd a0 ∧ b38 = [a0]) → (cutD (dTup value) none (some k)).length + b38.length ≤ 16000000) ∧
  (∀ b41 : (List D), (∃ b38, ((∃ a0, Po__law_near (gi (dTup value) k) odd a0 ∧ b38 = [a0])) ∧ b41 = ((cutD (dTup value) none (some k)) ++ b38)) → b41.length + (cutD (dTup value) (some (k + (1 : Int))) none).length ≤ 16000000) ∧
  (∀ y : D, (∃ z44 : (List D), ((∃ b41, ((∃ b38, ((∃ a0, Po__law_near (gi (dTup value) k) odd a0 ∧ b38 = [a0])) ∧ b41 = ((cutD (dTup value) none (some k)) ++ b38))) ∧ z44 = (b41 ++ (cutD (dTup value) (some (k + (1 : Int))) none)))) ∧ y = (tM DL.encD) z44) → rt y)) ∧
  ((decide (way < (4 : Int))) = false →
  (value = (tM DL.encD) (dTup value)) ∧
  ((cutD (dTup value) none (some k)).length + (cutD (dTup value) (some (k + (1 : Int))) none).length ≤ 16000000) ∧
  ((cutD (dTup value) none (some (k + (1 : Int)))).length + (cutD (dTup value) (some k) none).length ≤ 16000000) ∧
  (([((tM DL.encD) ((cutD (dTup value) none (some k)) ++ (cutD (dTup value) (some (k + (1 : Int))) none))), ((tM DL.encD) ((cutD (dTup value) none (some (k + (1 : Int)))) ++ (cutD (dTup value) (some k) none))), ((tM DL.encD) (dTup value).reverse), ((lM DL.encD) (dTup value))] ≠ [] ∧ [((tM DL.encD) ((cutD (dTup value) none (some k)) ++ (cutD (dTup value) (some (k + (1 : Int))) none))), ((tM DL.encD) ((cutD (dTup value) none (some (k + (1 : Int)))) ++ (cutD (dTup value) (some k) none))), ((tM DL.encD) (dTup value).reverse), ((lM DL.encD) (dTup value))].length < 2 ^ 62)) ∧
  (∀ y : D, y ∈ [((tM DL.encD) ((cutD (dTup value) none (some k)) ++ (cutD (dTup value) (some (k + (1 : Int))) none))), ((tM DL.encD) ((cutD (dTup value) none (some (k + (1 : Int)))) ++ (cutD (dTup value) (some k) none))), ((tM DL.encD) (dTup value).reverse), ((lM DL.encD) (dTup value))] → rt y)))))
def wr1__law_way (s : (Option (Int × Int × Int))) (rt : (Option (Int × Int × Int)) → Prop) : Prop :=
  rt s
def wr2__law_way (jobs : (List (Int × Int × Int))) (order : (List Int)) (s : (Option (Int × Int × Int))) (N_ : ((Option (Int × Int × Int))) → Prop) : Prop :=
  N_ s
def wl2__law_way (jobs : (List (Int × Int × Int))) (order : (List Int)) (u : Int) (x : Nat) (s : (Option (Int × Int × Int))) (N_2 : ((Option (Int × Int × Int))) → Prop) : Prop :=
  (∀ x4 : Int, x4 ∈ (cutD order none (some (u + (1 : Int)))) → (0 ≤ x4 ∧ x4 < jobs.length)) ∧
  (∀ x7 : Int, x7 ∈ (cutD order (some u) (some ((u + (x : Int)) + (1 : Int)))) → (0 ≤ x7 ∧ x7 < jobs.length)) ∧
  (∀ length : Int, length = ((List.map (fun x4 : Int => ((gi jobs x4)).1) (cutD order none (some (u + (1 : Int))))).sum + (List.map (fun x7 : Int => ((gi jobs x7)).2.1) (cutD order (some u) (some ((u + (x : Int)) + (1 : Int))))).sum) →
  (∀ x11 : Int, x11 ∈ (cutD order (some (u + (x : Int))) none) → (0 ≤ x11 ∧ x11 < jobs.length)) ∧
  (∀ length2 : Int, length2 = (length + (List.map (fun x11 : Int => ((gi jobs x11)).2.2) (cutD order (some (u + (x : Int))) none)).sum) →
  (s.isNone = false → s.isSome = true) ∧
  (∀ best : (Option (Int × Int × Int)), best = (if (s.isNone || (decide (((qv s)).2.2 < length2))) = true then (some (u, (u + (x : Int)), length2)) else s) →
  N_2 best)))
def wl1__law_way (jobs : (List (Int × Int × Int))) (order : (List Int)) (x : Nat) (s : (Option (Int × Int × Int))) (N_ : ((Option (Int × Int × Int))) → Prop) : Prop :=
  ((-(2 ^ 62) ≤ (x : Int) ∧ (x : Int) < 2 ^ 62 ∧ -(2 ^ 62) ≤ (order.length : Int) ∧ (order.length : Int) < 2 ^ 62 ∧ (order.length : Int) - (x : Int) ≤ 16000000)) ∧
  wpFor (fun xx ss N B => wl2__law_way jobs order (x : Int) xx ss N) (List.range ((order.length : Int) - (x : Int)).toNat) s
  (fun ss => wr2__law_way jobs order ss N_)
def W__law_way (jobs : (List (Int × Int × Int))) (order : (List Int)) (rt : (Option (Int × Int × Int)) → Prop) : Prop :=
  (∀ best : Unit, best = () →
  (order.length ≤ 16000000) ∧
  wpFor (fun xx ss N B => wl1__law_way jobs order xx ss N) (List.range order.length) none
  (fun ss => wr1__law_way ss rt))
def wr1_law (s : Unit) (rt : Bool → Prop) : Prop :=
  (Ok_room_span [((3 : Int), (2 : Int), (4 : Int)), ((5 : Int), (1 : Int), (3 : Int))] [(1 : Int), (0 : Int)]) ∧
  rt (decide ((F_room_span [((3 : Int), (2 : Int), (4 : Int)), ((5 : Int), (1 : Int), (3 : Int))] [(1 : Int), (0 : Int)]) = (14 : Int)))
def wr4_law (odd : (List D)) (jobs : (List (Int × Int × Int))) (kept : Str) (s : Unit) (N_ : Unit → Prop) (rt : Bool → Prop) : Prop :=
  (Sx ((tM (p3 PyData.int PyData.int PyData.int)) jobs)) ∧
  ((!decide (((tM (p3 PyData.int PyData.int PyData.int)) jobs).shown = kept)) = true →
  rt false) ∧
  ((!decide (((tM (p3 PyData.int PyData.int PyData.int)) jobs).shown = kept)) = false →
  N_ ())
def wr5_law (odd : (List D)) (jobs : (List (Int × Int × Int))) (kept : Str) (value : D) (s : Bool) (N_2 : Unit → Prop) (rt : Bool → Prop) : Prop :=
  (Sh 40 value) ∧
  (Sx value) ∧
  (∀ shown : Str, shown = (PyData.shown value) →
  (Ok_are_room_jobs value) ∧
  (Sx (PyData.bool (F_are_room_jobs value))) ∧
  (Sx (PyData.bool s)) ∧
  ((!decide ((PyData.bool (F_are_room_jobs value)).shown = (PyData.bool s).shown)) = false → Sh 40 value) ∧
  ((!decide ((PyData.bool (F_are_room_jobs value)).shown = (PyData.bool s).shown)) = false → Sx value) ∧
  (((!decide ((PyData.bool (F_are_room_jobs value)).shown = (PyData.bool s).shown)) || (!decide ((PyData.shown value) = shown))) = true →
  rt false) ∧
  (((!decide ((PyData.bool (F_are_room_jobs value)).shown = (PyData.bool s).shown)) || (!decide ((PyData.shown value) = shown))) = false →
  N_2 ()))
def wl5_law (odd : (List D)) (jobs : (List (Int × Int × Int))) (kept : Str) (value : D) (x : D) (s : Bool) (N_3 : Bool → Prop) : Prop :=
  (s = true → NoD x) ∧
  (s = true → (isB "tuple" x) = true → IsT x) ∧
  (∀ fits : Bool, fits = (s && ((isB "tuple" x) && (decide (((dTup x).length : Int) = (3 : Int))))) →
  (fits = true → IsT x) ∧
  (fits = true → ∀ x143 : D, x143 ∈ (dTup x) → NoD x143) ∧
  (fits = true → ∀ x143 : D, x143 ∈ (dTup x) → (!(isB "int" x143)) = false → NoD x143) ∧
  (fits = true → ∀ x143 : D, x143 ∈ (dTup x) → (!(isB "int" x143)) = false → (isB "bool" x143) = false → IsI x143) ∧
  (fits = true → SeqAt.shaped ((lM DL.encD) (List.map (fun x143 : D => x143) (List.filter (fun x143 : D => ((!(isB "int" x143)) || ((isB "bool" x143) || (decide (dInt x143 < (1 : Int)))))) (dTup x)))) = true) ∧
  (∀ fits2 : Bool, fits2 = (fits && (List.isEmpty (List.map (fun x143 : D => x143) (List.filter (fun x143 : D => ((!(isB "int" x143)) || ((isB "bool" x143) || (decide (dInt x143 < (1 : Int)))))) (dTup x))))) →
  N_3 fits2))
def wl4_law (odd : (List D)) (jobs : (List (Int × Int × Int))) (kept : Str) (x : D) (s : Unit) (N_2 : Unit → Prop) (rt : Bool → Prop) : Prop :=
  (NoD x) ∧
  (∀ fits : Bool, fits = (isB "tuple" x) →
  (fits = true → x = (tM DL.encD) (dTup x)) ∧
  wpFor (fun xx ss N B => wl5_law odd jobs kept x xx ss N) (if fits = true then (dTup x) else ([] : (List D))) fits
  (fun ss => wr5_law odd jobs kept x ss N_2 rt))
def wj3_law (odd : (List D)) (jobs : (List (Int × Int × Int))) (kept : Str) (s : Unit) (N_ : Unit → Prop) (rt : Bool → Prop) : Prop :=
  (jobs.length + [((1 : Int), (1 : Int), (0 : Int))].length ≤ 16000000) ∧
  (jobs.length + [((1 : Int), (1 : Int), (1 : Int))].length ≤ 16000000) ∧
  (∀ values : (List D), values = [((tM (p3 PyData.int PyData.int PyData.int)) jobs), ((lM (p3 PyData.int PyData.int PyData.int)) jobs), ((tM (p3 PyData.int PyData.int PyData.int)) (jobs ++ [((1 : Int), (1 : Int), (0 : Int))])), ((tM (p3 PyData.int PyData.int PyData.int)) (jobs ++ [((1 : Int), (1 : Int), (1 : Int))])), (encU ()), (PyData.int (0 : Int)), ((p3 PyData.int PyData.int PyData.int) ((1 : Int), (1 : Int), (1 : Int)))] →
  (∀ x106 : Nat, x106 ∈ (List.range 6) → Ok__law_near ((tM (p3 PyData.int PyData.int PyData.int)) jobs) odd) ∧
  (∀ x109 : Nat, x109 ∈ (List.range 6) → Ok__law_near ((tM (p3 PyData.int PyData.int PyData.int)) jobs) odd) ∧
  (∀ b112 : (List D), (All2 (fun (x109 : Nat) y => Po__law_near ((tM (p3 PyData.int PyData.int PyData.int)) jobs) odd y) (List.range 6) b112) → values.length + b112.length ≤ 16000000) ∧
  (∀ xs : List D, (∃ b112, ((All2 (fun (x109 : Nat) y => Po__law_near ((tM (p3 PyData.int PyData.int PyData.int)) jobs) odd y) (List.range 6) b112)) ∧ xs = (values ++ b112)) → wpFor (fun xx ss N B => wl4_law odd jobs kept xx ss N rt) xs ()
  (fun ss => wr4_law odd jobs kept ss N_ rt)))
def wj2_law (odd : (List D)) (n : Int) (jobs : (List (Int × Int × Int))) (order : (List Int)) (kept : Str) (span : Int) (s : Unit) (N_ : Unit → Prop) (rt : Bool → Prop) : Prop :=
  (Ok__law_wide jobs order) ∧
  (∀ wide : Int, wide = (F__law_wide jobs order) →
  (Ok_wide_span jobs order) ∧
  (Sxi (PyData.int (F_wide_span jobs order))) ∧
  (Sxi (PyData.int wide)) ∧
  (((!decide ((PyData.int (F_wide_span jobs order)).shown = (PyData.int wide).shown)) || (decide (span < wide))) = true →
  rt false) ∧
  (((!decide ((PyData.int (F_wide_span jobs order)).shown = (PyData.int wide).shown)) || (decide (span < wide))) = false →
  (∀ x46 : Nat, x46 ∈ (List.range 3) → (-(2 ^ 62) ≤ n ∧ n ≤ 16000000)) ∧
  (∀ x46 : Nat, x46 ∈ (List.range 3) → (List.map (fun i : Nat => (i : Int)) (List.range n.toNat)).length ≤ 100000) ∧
  (∀ orders : (List (List Int)), (All2 (fun (x46 : Nat) y => y.Perm (List.map (fun i : Nat => (i : Int)) (List.range n.toNat))) (List.range 3) orders) →
  (Ok_rooms_span jobs orders) ∧
  (Sxi (PyData.int (F_rooms_span jobs orders))) ∧
  (Ok__law_ends jobs orders) ∧
  (2 < (F__law_ends jobs orders).length) ∧
  ((gi (F__law_ends jobs orders) (2 : Int)).length + [(0 : Int)].length ≤ 16000000) ∧
  (((gi (F__law_ends jobs orders) (2 : Int)) ++ [(0 : Int)]) ≠ []) ∧
  (Sxi (PyData.int (mxI ((gi (F__law_ends jobs orders) (2 : Int)) ++ [(0 : Int)])))) ∧
  ((!decide ((PyData.int (F_rooms_span jobs orders)).shown = (PyData.int (mxI ((gi (F__law_ends jobs orders) (2 : Int)) ++ [(0 : Int)]))).shown)) = true →
  rt false) ∧
  ((!decide ((PyData.int (F_rooms_span jobs orders)).shown = (PyData.int (mxI ((gi (F__law_ends jobs orders) (2 : Int)) ++ [(0 : Int)]))).shown)) = false →
  (∀ back : (List (Int × Int × Int)), back = (List.map (fun x61 : (Int × Int × Int) => (x61.2.2, x61.2.1, x61.1)) jobs) →
  (Ok_turned_rooms jobs) ∧
  (Sx ((tM (p3 PyData.int PyData.int PyData.int)) (F_turned_rooms jobs))) ∧
  (Sx ((tM (p3 PyData.int PyData.int PyData.int)) back)) ∧
  ((!decide (((tM (p3 PyData.int PyData.int PyData.int)) (F_turned_rooms jobs)).shown = ((tM (p3 PyData.int PyData.int PyData.int)) back).shown)) = false → Ok_room_span back order.reverse) ∧
  (((!decide (((tM (p3 PyData.int PyData.int PyData.int)) (F_turned_rooms jobs)).shown = ((tM (p3 PyData.int PyData.int PyData.int)) back).shown)) || (!decide ((F_room_span back order.reverse) = span))) = true →
  rt false) ∧
  (((!decide (((tM (p3 PyData.int PyData.int PyData.int)) (F_turned_rooms jobs)).shown = ((tM (p3 PyData.int PyData.int PyData.int)) back).shown)) || (!decide ((F_room_span back order.reverse) = span))) = false →
  (Ok_wide_span back order.reverse) ∧
  ((!decide ((F_wide_span back order.reverse) = wide)) = true →
  rt false) ∧
  ((!decide ((F_wide_span back order.reverse) = wide)) = false →
  ((9 : Int) < 2 ^ 64) ∧
  (∀ more : Int, (0 ≤ more ∧ (more < (9 : Int) ∨ more = 0)) →
  (∀ late : (List (Int × Int × Int)), late = (List.map (fun x79 : (Int × Int × Int) => (x79.1, (x79.2.1 + more), x79.2.2)) jobs) →
  (Ok_with_middle jobs more) ∧
  (Sx ((tM (p3 PyData.int PyData.int PyData.int)) (F_with_middle jobs more))) ∧
  (Sx ((tM (p3 PyData.int PyData.int PyData.int)) late)) ∧
  ((!decide (((tM (p3 PyData.int PyData.int PyData.int)) (F_with_middle jobs more)).shown = ((tM (p3 PyData.int PyData.int PyData.int)) late).shown)) = false → Ok_wide_span late order) ∧
  ((!decide (((tM (p3 PyData.int PyData.int PyData.int)) (F_with_middle jobs more)).shown = ((tM (p3 PyData.int PyData.int PyData.int)) late).shown)) = false → CMul more (if (decide ((0 : Int) < n)) = true then (1 : Int) else 0)) ∧
  (((!decide (((tM (p3 PyData.int PyData.int PyData.int)) (F_with_middle jobs more)).shown = ((tM (p3 PyData.int PyData.int PyData.int)) late).shown)) || (!decide ((F_wide_span late order) = (wide + (more * (if (decide ((0 : Int) < n)) = true then (1 : Int) else 0)))))) = true →
  rt false) ∧
  (((!decide (((tM (p3 PyData.int PyData.int PyData.int)) (F_with_middle jobs more)).shown = ((tM (p3 PyData.int PyData.int PyData.int)) late).shown)) || (!decide ((F_wide_span late order) = (wide + (more * (if (decide ((0 : Int) < n)) = true then (1 : Int) else 0)))))) = false →
  ((decide ((0 : Int) < n)) = true → Ok_room_span late order) ∧
  ((decide ((0 : Int) < n)) = true → (decide ((span + more) ≤ (F_room_span late order))) = true → CMul n more) ∧
  (((decide ((0 : Int) < n)) && (!((decide ((span + more) ≤ (F_room_span late order))) && (decide ((F_room_span late order) ≤ (span + (n * more))))))) = true →
  rt false) ∧
  (((decide ((0 : Int) < n)) && (!((decide ((span + more) ≤ (F_room_span late order))) && (decide ((F_room_span late order) ≤ (span + (n * more))))))) = false →
  ((decide ((0 : Int) < n)) = true →
  (n < 2 ^ 64) ∧
  ((3 : Int) < 2 ^ 64) ∧
  (∀ x2 : Int, ∀ room : Int, (0 ≤ x2 ∧ (x2 < n ∨ x2 = 0)) →
  (0 ≤ room ∧ (room < (3 : Int) ∨ room = 0)) →
  (∀ longer : (List (List Int)), longer = (List.map (fun x158 : (Int × Int × Int) => [x158.1, x158.2.1, x158.2.2]) jobs) →
  ((0 ≤ x2 ∧ x2 < longer.length)) ∧
  ((0 ≤ room ∧ room < (gi longer x2).length)) ∧
  ((5 : Int) < 2 ^ 64) ∧
  (∀ y : Int, (∃ b164, ((0 ≤ b164 ∧ (b164 < (5 : Int) ∨ b164 = 0))) ∧ y = (((gi (gi longer x2) room) + (1 : Int)) + b164)) → ∀ longer2 : (List (List Int)), longer2 = longer.set x2.toNat ((gi longer x2).set room.toNat y) →
  ((∀ y_ : (List Int), y_ ∈ (List.map (fun x168 : (List Int) => x168) longer2) → y_.length = 3)) ∧
  (∀ longer3 : (List (Int × Int × Int)), longer3 = (List.map (fun y_ : (List Int) => (gi y_ (0 : Int), gi y_ (1 : Int), gi y_ (2 : Int))) (List.map (fun x168 : (List Int) => x168) longer2)) →
  (Ok_room_span longer3 order) ∧
  ((decide ((F_room_span longer3 order) < span)) = false → Ok_wide_span longer3 order) ∧
  (((decide ((F_room_span longer3 order) < span)) || (decide ((F_wide_span longer3 order) < wide))) = true →
  rt false) ∧
  (((decide ((F_room_span longer3 order) < span)) || (decide ((F_wide_span longer3 order) < wide))) = false →
  wj3_law odd jobs kept () N_ rt)))))) ∧
  ((decide ((0 : Int) < n)) = false →
  wj3_law odd jobs kept () N_ rt))))))))))))
def wl1_law (odd : (List D)) (x : Nat) (s : Unit) (N_ : Unit → Prop) (rt : Bool → Prop) : Prop :=
  ((10 : Int) < 2 ^ 64) ∧
  (∀ n : Int, (0 ≤ n ∧ (n < (10 : Int) ∨ n = 0)) →
  (Ok__law_jobs n) ∧
  (∀ jobs : (List (Int × Int × Int)), Po__law_jobs n jobs →
  ((-(2 ^ 62) ≤ n ∧ n ≤ 16000000)) ∧
  ((List.map (fun i : Nat => (i : Int)) (List.range n.toNat)).length ≤ 100000) ∧
  (Sx ((tM (p3 PyData.int PyData.int PyData.int)) jobs)) ∧
  (∀ order : (List Int), ∀ kept : Str, order.Perm (List.map (fun i : Nat => (i : Int)) (List.range n.toNat)) →
  kept = ((tM (p3 PyData.int PyData.int PyData.int)) jobs).shown →
  (Ok__law_ends jobs [order, order, order]) ∧
  (Ok__law_span jobs order) ∧
  (∀ ends : (List (List Int)), ∀ span : Int, ends = (F__law_ends jobs [order, order, order]) →
  span = (F__law_span jobs order) →
  ((-(2 ^ 62) ≤ n ∧ n ≤ 16000000)) ∧
  (∀ x17 : Nat, x17 ∈ (List.range n.toNat) → 0 < ends.length) ∧
  (∀ x17 : Nat, x17 ∈ (List.range n.toNat) → (0 ≤ (x17 : Int) ∧ (x17 : Int) < (gi ends (0 : Int)).length)) ∧
  (∀ x17 : Nat, x17 ∈ (List.range n.toNat) → 1 < ends.length) ∧
  (∀ x17 : Nat, x17 ∈ (List.range n.toNat) → (0 ≤ (x17 : Int) ∧ (x17 : Int) < (gi ends (1 : Int)).length)) ∧
  (∀ x17 : Nat, x17 ∈ (List.range n.toNat) → 2 < ends.length) ∧
  (∀ x17 : Nat, x17 ∈ (List.range n.toNat) → (0 ≤ (x17 : Int) ∧ (x17 : Int) < (gi ends (2 : Int)).length)) ∧
  (∀ due : (List (Int × Int × Int)), due = (List.map (fun x17 : Nat => ((gi (gi ends (0 : Int)) (x17 : Int)), (gi (gi ends (1 : Int)) (x17 : Int)), (gi (gi ends (2 : Int)) (x17 : Int)))) (List.range n.toNat)) →
  (Ok_room_ends jobs order) ∧
  (Ok_room_span jobs order) ∧
  (Sx ((y2 (tM (tM PyData.int)) PyData.int) ((F_room_ends jobs order), (F_room_span jobs order)))) ∧
  (Sx ((y2 (tM (p3 PyData.int PyData.int PyData.int)) PyData.int) (due, span))) ∧
  ((!decide (((y2 (tM (tM PyData.int)) PyData.int) ((F_room_ends jobs order), (F_room_span jobs order))).shown = ((y2 (tM (p3 PyData.int PyData.int PyData.int)) PyData.int) (due, span)).shown)) = true →
  rt false) ∧
  ((!decide (((y2 (tM (tM PyData.int)) PyData.int) ((F_room_ends jobs order), (F_room_span jobs order))).shown = ((y2 (tM (p3 PyData.int PyData.int PyData.int)) PyData.int) (due, span)).shown)) = false →
  ((decide ((0 : Int) < n)) = true →
  (Ok__law_way jobs order) ∧
  (∀ way : (Option (Int × Int × Int)), way = (F__law_way jobs order) →
  (Ok_greatest_way jobs order) ∧
  (Sx ((p3 PyData.int PyData.int PyData.int) (F_greatest_way jobs order))) ∧
  (Sx ((encQ (p3 PyData.int PyData.int PyData.int)) way)) ∧
  ((!decide (((p3 PyData.int PyData.int PyData.int) (F_greatest_way jobs order)).shown = ((encQ (p3 PyData.int PyData.int PyData.int)) way).shown)) = false → way.isSome = true) ∧
  (((!decide (((p3 PyData.int PyData.int PyData.int) (F_greatest_way jobs order)).shown = ((encQ (p3 PyData.int PyData.int PyData.int)) way).shown)) || (!decide (((qv way)).2.2 = span))) = true →
  rt false) ∧
  (((!decide (((p3 PyData.int PyData.int PyData.int) (F_greatest_way jobs order)).shown = ((encQ (p3 PyData.int PyData.int PyData.int)) way).shown)) || (!decide (((qv way)).2.2 = span))) = false →
  wj2_law odd n jobs order kept span () N_ rt))) ∧
  ((decide ((0 : Int) < n)) = false →
  wj2_law odd n jobs order kept span () N_ rt)))))))
def W_law (rt : Bool → Prop) : Prop :=
  (∀ odd : (List D), odd = [(encU ()), (PyData.bool true), (PyData.int (0 : Int)), (PyData.int (1 : Int)), (PyData.int (-1 : Int)), (PyData.str ("0" : Str)), ((tM PyData.int) ([] : (List Int))), ((p1 PyData.int) (1 : Int)), ((p3 PyData.int PyData.int PyData.int) ((1 : Int), (1 : Int), (0 : Int))), ((p3 PyData.int PyData.int PyData.int) ((1 : Int), (1 : Int), (1 : Int))), ((lM PyData.int) [(1 : Int), (1 : Int), (1 : Int)]), (PyData.int (100000000000000000000 : Int))] →
  wpFor (fun xx ss N B => wl1_law odd xx ss N rt) (List.range 5) ()
  (fun ss => wr1_law ss rt))
end K86

set_option Elab.async false
set_option linter.all false
set_option maxRecDepth 100000
set_option maxHeartbeats 4000000
namespace K86
open PySem PySem.Spec PyProof.Rows L2 DL
section
open PL K87
theorem zip3 {os : List (List Int)} (h : os.length = 3) : os.zipIdx = [((tri os).1, 0), ((tri os).2.1, 1), ((tri os).2.2, 2)] := by
  match os, h with
  | [a, b, c], _ => rfl
theorem Small.pos {jobs : J3} (h : Small jobs) : Pos3 jobs := fun p hp => by have := h.2 p hp; omega
theorem ordP_inR {n : Nat} {o : List Int} (h : OrdP n o) (hn : n ≤ 1000) : InR n o := ⟨fun j hj => h.mem.mp hj, by rw [h.len]; omega⟩
theorem V_ends_in_room (a0 : (List Int)) (a1 : (List Int)) (a2 : (List (Int × Int))) (h : Ok_ends_in_room a0 a1 a2) : W_ends_in_room a0 a1 a2 (fun r => r = F_ends_in_room a0 a1 a2) := by
  obtain ⟨h1, nd, h2⟩ := h
  unfold W_ends_in_room
  rintro found hour rfl rfl
  refine wpFor_inv _ (fun don s => s.1 = run a0 (dgd a2) don 0 ∧ s.2 = hrs a0 (dgd a2) don 0) _ ⟨rfl, rfl⟩ (fun don x rest s N e ⟨i1, i2⟩ hN => ?_) fun s ⟨i1, i2⟩ => i1
  have hx : x ∈ a1 := by rw [e]; simp
  have hl := congrArg List.length e
  simp only [List.length_append, List.length_cons] at hl
  have hk : s.1.map (·.1) = don := by rw [i1, run_keys]
  have hlen : s.1.length = don.length := by rw [← hk, List.length_map]
  have h3 := h1.2
  refine ⟨h2 x hx, h1.1 x hx, ?_⟩
  rintro hour rfl
  refine ⟨by omega, ?_⟩
  rintro found rfl
  have hnew : x ∉ s.1.map (·.1) := by
    rw [hk]
    intro hm
    rw [e] at nd
    exact (List.nodup_append.mp nd).2.2 x hm x (by simp) rfl
  rw [dput_new hnew]
  refine hN _ ⟨?_, ?_⟩
  · dsimp only
    rw [run_snoc, i1, i2]
  · dsimp only
    rw [hrs_snoc, i2]
theorem come0_eq (n : Nat) : dcat [] (List.map (fun x2 : Nat => ((x2 : Int), (0 : Int))) (List.range n)) = come0 n := by
  refine dcat_nodup ?_
  rw [List.map_map]
  exact idx_nodup n
theorem come0_has {n : Nat} {j : Int} (h : 0 ≤ j ∧ j < n) : dhas (come0 n) j = true := by
  have := dget_at (m := come0 n) (k := j) (v := 0) (by unfold come0; rw [List.map_map]; exact idx_nodup n) (List.mem_map.mpr ⟨j.toNat, List.mem_range.mpr (by omega), by
    have : ((j.toNat : Nat) : Int) = j := by omega
    rw [this]⟩)
  unfold dhas
  rw [this]
  rfl
theorem V_ends_by_rooms (a0 : (List (Int × Int × Int))) (a1 : (List (List Int))) (h : Ok_ends_by_rooms a0 a1) : W_ends_by_rooms a0 a1 (fun r => r = F_ends_by_rooms a0 a1) := by
  obtain ⟨h3, hn, o0, o1, o2⟩ := h
  unfold W_ends_by_rooms
  refine ⟨by omega, ?_⟩
  rintro found come rfl e
  rw [come0_eq] at e
  subst e
  have hl : ∀ k : Int, (col a0 k).length = a0.length := fun k => by simp
  have ir : ∀ {o : List Int} (k : Int), OrdP a0.length o → InR (col a0 k).length o := fun k ho => by rw [hl]; exact ordP_inR ho hn
  have ez : a1.zipIdx = [((tri a1).1, 0), ((tri a1).2.1, 1), ((tri a1).2.2, 2)] := zip3 h3
  rw [ez]
  unfold wpFor
  unfold wl1_ends_by_rooms
  refine ⟨fun _ _ => by dsimp only; omega, ⟨ir 0 o0, o0.nodup, fun j hj => come0_has (o0.mem.mp hj)⟩, ?_⟩
  rintro c0 rfl
  refine ⟨by simp, ?_⟩
  rintro f0 rfl
  dsimp only
  unfold wpFor
  refine ⟨fun _ _ => by dsimp only; omega, ⟨ir 1 o1, o1.nodup, fun j hj => run_has _ _ (o0.mem.mpr (o1.mem.mp hj)) o0.nodup⟩, ?_⟩
  rintro c1 rfl
  refine ⟨by simp, ?_⟩
  rintro f1 rfl
  dsimp only
  unfold wpFor
  refine ⟨fun _ _ => by dsimp only; omega, ⟨ir 2 o2, o2.nodup, fun j hj => run_has _ _ (o1.mem.mpr (o2.mem.mp hj)) o1.nodup⟩, ?_⟩
  rintro c2 rfl
  refine ⟨by simp, ?_⟩
  rintro f2 rfl
  rfl
theorem V_rooms_span (a0 : (List (Int × Int × Int))) (a1 : (List (List Int))) (h : Ok_rooms_span a0 a1) : W_rooms_span a0 a1 (fun r => r = F_rooms_span a0 a1) := by
  obtain ⟨h3, hn, o0, o1, o2⟩ := h
  refine ⟨⟨h3, hn, o0, o1, o2⟩, by show 2 < 3; decide, ?_, by simp, rfl⟩
  show _ + ((run (col a0 2) _ (tri a1).2.2 0).map (·.2)).length ≤ _
  have e : ∀ cm, (run (col a0 2) cm (tri a1).2.2 0).length = a0.length := fun cm => by
    have := congrArg List.length (run_keys (col a0 2) cm (tri a1).2.2 0)
    rw [List.length_map, o2.len] at this
    exact this
  rw [List.length_map, e]
  simp
  omega
theorem V_way_length (a0 : (List (Int × Int × Int))) (a1 : (List Int)) (a2 : Int) (a3 : Int) (h : Ok_way_length a0 a1 a2 a3) : W_way_length a0 a1 a2 a3 (fun r => r = F_way_length a0 a1 a2 a3) := by
  have h : InR a0.length a1 := h
  refine ⟨fun x hx => h.1 x (mem_cut hx), ?_⟩
  rintro _ rfl
  refine ⟨fun x hx => h.1 x (mem_cut hx), ?_⟩
  rintro _ rfl
  exact ⟨fun x hx => h.1 x (mem_cut hx), rfl⟩
theorem V_wide_span (a0 : (List (Int × Int × Int))) (a1 : (List Int)) (h : Ok_wide_span a0 a1) : W_wide_span a0 a1 (fun r => r = F_wide_span a0 a1) := by
  obtain ⟨h1, h2⟩ := h
  have h3 := h1.2
  exact ⟨by omega, fun _ _ => h1, by simp; omega, by simp, ways_eq h2 a1⟩
theorem V__law_jobs (a0 : Int) (h : Ok__law_jobs a0) : W__law_jobs a0 (fun r => Po__law_jobs a0 r) := by
  obtain ⟨h1, h2⟩ := h
  refine ⟨by decide, by decide, ?_⟩
  rintro way far hw ⟨b, hb, rfl⟩
  have hf : 1 ≤ 1 + b ∧ 1 + b ≤ 12 := by omega
  generalize 1 + b = far at hf ⊢
  rintro _ rfl
  refine ⟨⟨by omega, by omega⟩, ?_⟩
  refine wpFor_inv _ (fun don s => s.length = don.length ∧ ∀ p ∈ s, 0 ≤ p.1 ∧ p.1 ≤ 24 ∧ 0 ≤ p.2.1 ∧ p.2.1 ≤ 24 ∧ 0 ≤ p.2.2 ∧ p.2.2 ≤ 24) _ ⟨rfl, by simp⟩ (fun don x rest s N e ⟨i1, i2⟩ hN => ?_) fun s ⟨i1, i2⟩ => ?_
  · have hl := congrArg List.length e
    simp only [List.length_append, List.length_cons, List.length_range] at hl
    refine ⟨by omega, ?_⟩
    rintro a b c ⟨x1, hx1, rfl⟩ ⟨x2, hx2, rfl⟩ ⟨x3, hx3, rfl⟩
    rintro _ rfl _ rfl
    refine ⟨by omega, ?_⟩
    rintro _ rfl
    refine hN _ ⟨by simp [i1], fun p hp => ?_⟩
    rcases List.mem_append.mp hp with hp | hp
    · exact i2 p hp
    · rw [List.mem_singleton] at hp
      subst hp
      dsimp only
      refine ⟨?_, ?_, by omega, by omega, ?_, ?_⟩ <;> split <;> omega
  · rw [List.length_range] at i1
    exact ⟨by omega, by omega, i2⟩
theorem V__law_wide (a0 : (List (Int × Int × Int))) (a1 : (List Int)) (h : Ok__law_wide a0 a1) : W__law_wide a0 a1 (fun r => r = F__law_wide a0 a1) := by
  obtain ⟨h1, h2⟩ := h
  unfold W__law_wide
  rintro _ _ rfl rfl
  refine wpFor_fold (wStep a0) (fun _ _ => True) _ _ trivial (fun don x rest s N e hP hN => ?_) (fun hP => ?_) (fun _ _ _ _ => trivial)
  · have hx := h1.1 x (by rw [e]; simp)
    refine ⟨hx, ?_⟩
    rintro _ rfl
    refine ⟨hx, ?_⟩
    rintro _ rfl
    exact hN trivial
  · exact wide_law h2 a1
theorem T3_le {jobs : J3} (h : Small jobs) : ∀ (o : List Int) (s : Int × Int × Int) (B : Int), s.1 ≤ B → s.2.1 ≤ B → s.2.2 ≤ B → (o.foldl (T3 jobs) s).2.2 ≤ B + 72 * o.length
  | [], s, B, h1, h2, h3 => by simp; omega
  | j :: o, s, B, h1, h2, h3 => by
    have hp : xa jobs j ≤ 24 ∧ xb jobs j ≤ 24 ∧ xc jobs j ≤ 24 := by
      unfold xa xb xc gi
      rw [List.getD_eq_getElem?_getD]
      cases e : jobs[j.toNat]? with
      | none => exact ⟨by decide, by decide, by decide⟩
      | some p =>
        have := h.2 p (List.mem_of_getElem? e)
        simp only [Option.getD_some]
        omega
    have := T3_le h o (T3 jobs s j) (B + 72) (by show s.1 + _ ≤ _; omega) (by show max _ _ + _ ≤ _; omega) (by show max _ _ + _ ≤ _; omega)
    rw [List.foldl_cons, List.length_cons]
    omega
theorem V__law_ends (a0 : (List (Int × Int × Int))) (a1 : (List (List Int))) (h : Ok__law_ends a0 a1) : W__law_ends a0 a1 (fun r => r = F__law_ends a0 a1) := by
  obtain ⟨h3, hn, o0, o1, o2⟩ := h
  -- one room
  have room : ∀ (k : Nat) (o : List Int) (m : List (Int × Int)) (found : List (List Int)) (N : List Int × List (List Int) → Prop), k < 3 → OrdP a0.length o → found.length < 100 →
      N (arr a0.length (run (col a0 (k : Int)) (dgd m) o 0), found ++ [arr a0.length (run (col a0 (k : Int)) (dgd m) o 0)]) → wl1__law_ends a0 (o, k) (arr a0.length m, found) N := by
    intro k o m found N hk ho hf hN
    unfold wl1__law_ends
    refine ⟨⟨by omega, by omega, by simp; omega⟩, ?_⟩
    rintro hour ends rfl rfl
    refine wpFor_inv _ (fun don s => s.1 = hrs (col a0 (k : Int)) (dgd m) don 0 ∧ s.2 = arr a0.length (run (col a0 (k : Int)) (dgd m) don 0)) _ ⟨rfl, by show List.replicate _ _ = arr _ []; rw [arr_nil, Int.toNat_natCast]⟩ (fun don x rest s N2 e ⟨i1, i2⟩ hN2 => ?_) fun s ⟨i1, i2⟩ => ?_
    · have e : o = don ++ x :: rest := e
      have hx : x ∈ o := by rw [e]; simp
      have hr := ho.mem.mp hx
      have nd := ho.nodup
      have hnew : x ∉ don := by
        intro hm
        rw [e] at nd
        exact (List.nodup_append.mp nd).2.2 x hm x (by simp) rfl
      unfold wl2__law_ends
      have ec : gi (arr a0.length m) x = dgd m x := arr_gi hr
      have ep : pix3 (gi a0 x) (k : Int) = gi (col a0 (k : Int)) x := (col_gi _ _).symm
      refine ⟨by rw [arr_len]; exact hr, hr, by dsimp only; omega, ?_⟩
      rintro hour rfl
      refine ⟨by rw [i2, arr_len]; exact hr, ?_⟩
      rintro ends rfl
      refine hN2 _ ⟨?_, ?_⟩
      · dsimp only
        rw [hrs_snoc, i1, ec, ep]
      · dsimp only
        rw [run_snoc, i1, i2, ec, ep]
        exact arr_set hr (by rw [run_keys]; exact hnew)
    · unfold wr2__law_ends
      refine ⟨by dsimp only; omega, ?_⟩
      rintro _ rfl _ rfl
      rw [i2]
      exact hN
  unfold W__law_ends
  refine ⟨⟨by omega, by omega, by simp; omega⟩, ?_⟩
  rintro come found rfl rfl
  have ez : a1.zipIdx = [((tri a1).1, 0), ((tri a1).2.1, 1), ((tri a1).2.2, 2)] := zip3 h3
  have ec : List.replicate (a0.length : Int).toNat (0 : Int) = arr a0.length (come0 a0.length) := by
    apply List.ext_getElem
    · simp [arr]
    · intro i h1 h2
      simp only [arr, List.getElem_map, List.getElem_range, come0_dgd, List.getElem_replicate]
  rw [ez, ec]
  exact room 0 (tri a1).1 _ _ _ (by decide) o0 (by simp) (room 1 (tri a1).2.1 _ _ _ (by decide) o1 (by simp) (room 2 (tri a1).2.2 _ _ _ (by decide) o2 (by simp) rfl))
theorem V_room_span (a0 : (List (Int × Int × Int))) (a1 : (List Int)) (h : Ok_room_span a0 a1) : W_room_span a0 a1 (fun r => r = F_room_span a0 a1) := ⟨⟨rfl, h.1, h.2, h.2, h.2⟩, rfl⟩
theorem V__law_span (a0 : (List (Int × Int × Int))) (a1 : (List Int)) (h : Ok__law_span a0 a1) : W__law_span a0 a1 (fun r => r = F__law_span a0 a1) := by
  obtain ⟨h1, h2⟩ := h
  have e : gi (F__law_ends a0 [a1, a1, a1]) (2 : Int) = arr a0.length (gi (rms a0 (a1, a1, a1)) (2 : Int)) := rfl
  unfold W__law_span
  rw [e]
  refine ⟨⟨rfl, h1, h2, h2, h2⟩, by show 2 < 3; decide, by rw [arr_len]; simp; omega, by simp, arr_span h2⟩
end
section
open PL PD
theorem Dv.kid {v : D} (h : Dv v) (ht : IsT v) {i : Int} (hi : 0 ≤ i ∧ i < (dTup v).length) : Dv (gi (dTup v) i) := (PD.DK.kid h ht).2 _ (gi_memI hi.2 hi.1)
theorem Dv.sx {v : D} (h : Dv v) : Sx v := (h.sz (by decide) (by decide)).mono (by decide)
theorem Dv.s40 {v : D} (h : Dv v) : Sh 40 v := h.sh.mono
theorem Dv.shp {v : D} (h : Dv v) : SeqAt.shaped v = true := h.sh.shaped
theorem Dv.nod {v : D} (h : Dv v) : NoD v := PD.nod h.sh.1
theorem V_is_number (a0 : D) (h : Ok_is_number a0) : W_is_number a0 (fun r => r = F_is_number a0) := by
  have hn := PD.nod h
  exact ⟨hn, fun _ => hn, fun c1 c2 => isI_of c1 (by simpa using c2), rfl⟩
theorem num_isI {v : D} (h : F_is_number v = true) : IsI v ∧ 0 ≤ dInt v := by
  unfold F_is_number at h
  simp only [Bool.and_eq_true, Bool.not_eq_true', decide_eq_true_eq] at h
  exact ⟨isI_of h.1 h.2.1, h.2.2⟩
end
section
open PL K87
theorem tri3 (a b c : List Int) : tri [a, b, c] = (a, b, c) := rfl
theorem V_room_ends (a0 : (List (Int × Int × Int))) (a1 : (List Int)) (h : Ok_room_ends a0 a1) : W_room_ends a0 a1 (fun r => r = F_room_ends a0 a1) := by
  obtain ⟨h1, h2⟩ := h
  refine ⟨⟨rfl, h1, h2, h2, h2⟩, ?_⟩
  rintro ends ee
  have ee : ends = rms a0 (a1, a1, a1) := ee
  subst ee
  refine ⟨by omega, fun k hk m hm => ?_, rfl⟩
  have hj : (k : Int) ∈ a1 := h2.mem.mpr ⟨by omega, by have := List.mem_range.mp hk; omega⟩
  have hm : m ∈ [run (col a0 0) (dgd (come0 a0.length)) a1 0, run (col a0 1) (dgd (run (col a0 0) (dgd (come0 a0.length)) a1 0)) a1 0, run (col a0 2) (dgd (run (col a0 1) (dgd (run (col a0 0) (dgd (come0 a0.length)) a1 0)) a1 0)) a1 0] := hm
  simp only [List.mem_cons, List.not_mem_nil, or_false] at hm
  rcases hm with rfl | rfl | rfl <;> exact run_has _ _ hj h2.nodup
theorem V_turned_rooms (a0 : (List (Int × Int × Int))) (h : Ok_turned_rooms a0) : W_turned_rooms a0 (fun r => r = F_turned_rooms a0) := rfl
theorem V_with_middle (a0 : (List (Int × Int × Int))) (a1 : Int) (h : Ok_with_middle a0 a1) : W_with_middle a0 a1 (fun r => r = F_with_middle a0 a1) := rfl
theorem row_len (n u : Nat) : (row n u).length = n - u := by simp [row]
theorem rows_len (n : Nat) : ∀ us : List Nat, (us.flatMap (row n)).length ≤ us.length * n
  | [] => by simp
  | u :: us => by
    have := rows_len n us
    rw [List.flatMap_cons, List.length_append, row_len, List.length_cons, Nat.succ_mul]
    omega
theorem row_at (n u : Nat) : (List.range ((n : Int) - (u : Int)).toNat) = List.range (n - u) := by
  congr 1
  omega
theorem V_greatest_way (a0 : (List (Int × Int × Int))) (a1 : (List Int)) (h : Ok_greatest_way a0 a1) : W_greatest_way a0 a1 (fun r => r = F_greatest_way a0 a1) := by
  obtain ⟨h1, ne⟩ := h
  have hl := h1.2
  unfold W_greatest_way
  rintro n found rfl rfl
  refine ⟨⟨by omega, by omega⟩, ?_⟩
  rw [Int.toNat_natCast]
  refine wpFor_inv _ (fun don s => s = (don.flatMap (row a1.length)).map (negW a0 a1)) _ rfl (fun don x rest s N e hs hN => ?_) fun s hs => ?_
  · have hd := congrArg List.length e
    simp only [List.length_append, List.length_cons, List.length_range] at hd
    have hx : x < a1.length := List.mem_range.mp (by rw [e]; simp)
    unfold wl1_greatest_way
    rw [row_at]
    have hs2 : s.length ≤ don.length * a1.length := by
      rw [hs, List.length_map]
      exact rows_len _ _
    have hb : don.length * a1.length ≤ 1000 * 1000 := Nat.mul_le_mul (by omega) hl
    refine ⟨⟨by omega, by omega, by omega, by omega, by omega⟩, fun _ _ => h1, by simp; omega, ?_⟩
    rintro _ rfl
    refine hN _ ?_
    rw [List.flatMap_append, List.map_append, hs]
    congr 1
    show _ = List.map (negW a0 a1) (row a1.length x ++ [])
    rw [List.append_nil]
    unfold row
    rw [List.map_map]
    rfl
  · obtain ⟨r, r1, r2, r3, r4⟩ := lawWay_is (jobs := a0) ne
    have hs : s = (pairs a1.length).map (negW a0 a1) := hs
    unfold wr1_greatest_way
    refine ⟨fun z => ?_, ?_⟩
    · rw [hs, List.map_eq_nil_iff] at z
      have hm : (((0 : Nat) : Int), ((0 : Nat) : Int)) ∈ pairs a1.length := mem_pairs.mpr ⟨0, 0, Nat.le_refl _, List.length_pos_iff.mpr ne, rfl⟩
      rw [z] at hm
      simp at hm
    · rintro v ev
      rw [hs, r2] at ev
      subst ev
      show (r.1, r.2.1, -(-r.2.2)) = qv (lawWay a0 a1)
      rw [r1, Int.neg_neg]
      rfl
theorem V__law_way (a0 : (List (Int × Int × Int))) (a1 : (List Int)) (h : Ok__law_way a0 a1) : W__law_way a0 a1 (fun r => r = F__law_way a0 a1) := by
  have h : InR a0.length a1 := h
  have hl := h.2
  unfold W__law_way
  rintro _ _
  refine ⟨by omega, ?_⟩
  refine wpFor_inv _ (fun don s => s = (don.flatMap (row a1.length)).foldl (wayS a0 a1) none) _ rfl (fun don x rest s N e hs hN => ?_) fun s hs => hs
  have hd := congrArg List.length e
  simp only [List.length_append, List.length_cons, List.length_range] at hd
  have hx : x < a1.length := List.mem_range.mp (by rw [e]; simp)
  unfold wl1__law_way
  rw [row_at]
  refine ⟨⟨by omega, by omega, by omega, by omega, by omega⟩, ?_⟩
  refine wpFor_inv _ (fun don2 t => t = (don2.map fun y : Nat => (((x : Int), (x : Int) + (y : Int)) : Int × Int)).foldl (wayS a0 a1) s) _ rfl (fun don2 y rest2 t N2 e2 ht hN2 => ?_) fun t ht => ?_
  · unfold wl2__law_way
    refine ⟨fun j hj => h.1 j (mem_cut hj), fun j hj => h.1 j (mem_cut hj), ?_⟩
    rintro _ rfl
    refine ⟨fun j hj => h.1 j (mem_cut hj), ?_⟩
    rintro _ rfl
    refine ⟨fun c => by cases t with | none => cases c | some _ => rfl, ?_⟩
    rintro _ rfl
    refine hN2 _ ?_
    rw [List.map_append, List.foldl_append, ← ht]
    rfl
  · unfold wr2__law_way
    refine hN _ ?_
    rw [List.flatMap_append, List.foldl_append, ← hs]
    show t = List.foldl (wayS a0 a1) s (row a1.length x ++ [])
    rw [List.append_nil]
    exact ht
end
section
open PL PD
theorem V_is_room_job (a0 : D) (h : Ok_is_room_job a0) : W_is_room_job a0 (fun r => r = F_is_room_job a0) := by
  have dv : Dv a0 := h
  have ht : (!(isB "tuple" a0)) = false → IsT a0 := fun c => isT_of (by simpa using c)
  unfold W_is_room_job
  refine ⟨dv.nod, ht, fun c => ?_, fun c => ?_⟩
  · show false = F_is_room_job a0
    unfold F_is_room_job
    cases e1 : isB "tuple" a0 <;> cases e2 : decide (((dTup a0).length : Int) = (3 : Int)) <;> simp_all
  · simp only [Bool.or_eq_false_iff, Bool.not_eq_false'] at c
    have it := isT_of c.1
    refine ⟨it, fun x hx => ((PD.DK.kid dv it).2 x hx).sh.1, fun x hx q => (num_isI q).1, ?_⟩
    show _ = F_is_room_job a0
    unfold F_is_room_job
    rw [c.1, c.2, List.all_map]
    rfl
theorem V_are_room_jobs (a0 : D) (h : Ok_are_room_jobs a0) : W_are_room_jobs a0 (fun r => r = F_are_room_jobs a0) := by
  have dv : Dv a0 := h
  unfold W_are_room_jobs
  refine ⟨dv.nod, fun c => isT_of c, fun c x hx => (PD.DK.kid dv (isT_of c)).2 x hx, ?_⟩
  show _ = F_are_room_jobs a0
  unfold F_are_room_jobs
  rw [List.all_map]
  rfl
end
section
open PL PD
theorem dk_tM {M S L n : Nat} {xs : List D} (hl : xs.length ≤ L) (h : ∀ x ∈ xs, DK M S L n x) : DK M S L (n + 1) (tM DL.encD xs) := by
  refine .tup n _ (by simpa using hl) fun x hx => ?_
  obtain ⟨y, hy, rfl⟩ := List.mem_map.mp hx
  exact h y hy
theorem dk_lM {M S L n : Nat} {xs : List D} (hl : xs.length ≤ L) (h : ∀ x ∈ xs, DK M S L n x) : DK M S L (n + 1) (lM DL.encD xs) := by
  refine .lst n _ (by simpa using hl) fun x hx => ?_
  obtain ⟨y, hy, rfl⟩ := List.mem_map.mp hx
  exact h y hy
theorem V__law_near (a0 : D) (a1 : (List D)) (h : Ok__law_near a0 a1) : W__law_near a0 a1 (fun r => Po__law_near a0 a1 r) := by
  obtain ⟨dk, ne, hl, ho⟩ := h
  have nd := PD.nod dk.sh.1
  unfold W__law_near
  refine ⟨nd, fun _ => nd, fun _ _ => by decide, fun ⟨c1, c2, _⟩ => ?_, fun _ => ⟨nd, fun _ => dk.sh.shaped, fun _ _ => by decide, fun _ => ⟨⟨ne, by omega⟩, fun y hy n hn => ?_⟩, fun ⟨c1, c2, _⟩ => ?_⟩⟩
  · have ii := isI_of c1 (by simpa using c2)
    have ie := isI_eq ii
    refine ⟨⟨by simp, by decide⟩, ie, ?_⟩
    rintro y ⟨z, ⟨b, hb, rfl⟩, rfl⟩ n hn
    rw [ie] at dk
    have hi := dk.i
    refine .int _ _ ?_
    simp only [List.mem_cons, List.not_mem_nil, or_false] at hb
    have e1 : (10 : Nat) ^ 21 = 1000000000000000000000 := by decide
    have e2 : (10 : Nat) ^ 22 = 10000000000000000000000 := by decide
    rw [e1] at hi
    rw [e2]
    omega
  · exact (ho y hy).mono (Nat.le_refl _) (Nat.le_refl _) (Nat.le_refl _) (by omega)
  · have it := isT_of (by simpa using c1)
    have kid := PD.DK.kid dk it
    have hpos : 0 < (dTup a0).length := List.length_pos_iff.mpr fun z => by
      have : a0 = .tuple [] := by rw [isT_tup it, z]
      rw [this] at c2
      exact absurd c2 (by decide)
    refine ⟨it, by omega, by decide, ?_⟩
    intro k way hk hw
    have hk : 0 ≤ k ∧ k < (dTup a0).length := by omega
    have gk : gi (dTup a0) k ∈ dTup a0 := gi_memI hk.2 hk.1
    rw [cut_take hk.1, cut_drop hk.1, cut_take (show 0 ≤ k + 1 by omega), cut_drop (show 0 ≤ k + 1 by omega)]
    have l1 : ((dTup a0).take k.toNat).length ≤ (dTup a0).length := by rw [List.length_take]; omega
    have l2 : ((dTup a0).drop (k + 1).toNat).length + (k + 1).toNat = (dTup a0).length := by rw [List.length_drop]; omega
    have l3 : ((dTup a0).take k.toNat).length = k.toNat := by rw [List.length_take]; omega
    have l4 : ((dTup a0).take (k + 1).toNat).length = (k + 1).toNat := by rw [List.length_take]; omega
    have l5 : ((dTup a0).drop k.toNat).length + k.toNat = (dTup a0).length := by rw [List.length_drop]; omega
    have k1 := kid.1
    refine ⟨fun c => ?_, fun c => ?_⟩
    · refine ⟨isT_eq it, it, hk, ⟨⟨kid.2 _ gk, ne, hl, ho⟩, ?_⟩, ?_, ?_, ?_, ?_⟩
      · show (gi (dTup a0) k).depth < a0.depth
        conv => rhs; rw [isT_tup it]
        exact depth_lt gk
      · rintro b ⟨a, _, rfl⟩
        simp only [List.length_cons, List.length_nil]
        omega
      · rintro b ⟨a, _, rfl⟩
        simp only [List.length_cons, List.length_nil]
        omega
      · rintro b ⟨c, ⟨a, _, rfl⟩, rfl⟩
        simp only [List.length_append, List.length_cons, List.length_nil]
        omega
      · rintro y ⟨z, ⟨b41, ⟨b38, ⟨a, pa, rfl⟩, rfl⟩, rfl⟩, rfl⟩ n hn
        rw [isT_tup it] at hn
        obtain ⟨_, m, rfl, hm⟩ := hn.kids
        have pa := pa m (hm _ gk)
        have up : ∀ x ∈ dTup a0, DK 22 20 13 (m + 1) x := fun x hx => (hm x hx).mono (by decide) (by decide) (by decide) (by omega)
        refine dk_tM ?_ fun x hx => ?_
        · simp only [List.length_append, List.length_cons, List.length_nil]
          omega
        · rcases List.mem_append.mp hx with hx | hx
          · rcases List.mem_append.mp hx with hx | hx
            · exact up x (List.mem_of_mem_take hx)
            · rw [List.mem_singleton.mp hx]; exact pa
          · exact up x (List.mem_of_mem_drop hx)
    · refine ⟨isT_eq it, by omega, by omega, ⟨by simp, by simp⟩, ?_⟩
      intro y hy n hn
      rw [isT_tup it] at hn
      obtain ⟨_, m, rfl, hm⟩ := hn.kids
      have up : ∀ x ∈ dTup a0, DK 22 20 13 (m + 1) x := fun x hx => (hm x hx).mono (by decide) (by decide) (by decide) (by omega)
      simp only [List.mem_cons, List.not_mem_nil, or_false] at hy
      rcases hy with rfl | rfl | rfl | rfl
      · refine dk_tM (by rw [List.length_append]; omega) fun x hx => ?_
        rcases List.mem_append.mp hx with hx | hx
        · exact up x (List.mem_of_mem_take hx)
        · exact up x (List.mem_of_mem_drop hx)
      · refine dk_tM (by rw [List.length_append]; omega) fun x hx => ?_
        rcases List.mem_append.mp hx with hx | hx
        · exact up x (List.mem_of_mem_take hx)
        · exact up x (List.mem_of_mem_drop hx)
      · exact dk_tM (by rw [List.length_reverse]; omega) fun x hx => up x (List.mem_reverse.mp hx)
      · exact dk_lM (by omega) fun x hx => up x hx
theorem rkN__law_near (a0 : D) (a1 : (List D)) (h : Ok__law_near a0 a1) : rk__law_near a0 a1 < 12 := by
  have := h.1.sh.2
  show a0.depth < 12
  omega
end
section
open PL K87 PD
theorem dk_num {S L n : Nat} {i : Int} (h : -100000 ≤ i ∧ i ≤ 100000) : DK 21 S L n (.int i) := by
  have e1 : (10 : Nat) ^ 21 = 1000000000000000000000 := by decide
  exact .int _ _ (by omega)
theorem up22 {n m : Nat} {d : D} (h : DK 21 20 12 n d) (hm : n ≤ m) : DK 22 20 13 m d := h.mono (by decide) (by decide) (by decide) hm
theorem dk_p {M S L n : Nat} {xs : List D} (h : ∀ x ∈ xs, DK M S L n x) (hl : xs.length ≤ L := by simp) : DK M S L (n + 1) (.tuple xs) := .tup n xs hl h
theorem dk_3 {S L n : Nat} {p : Int × Int × Int} (h : 0 ≤ p.1 ∧ p.1 ≤ 1000 ∧ 0 ≤ p.2.1 ∧ p.2.1 ≤ 1000 ∧ 0 ≤ p.2.2 ∧ p.2.2 ≤ 1000) (hl : 3 ≤ L) : DK 21 S L (n + 1) (p3 PyData.int PyData.int PyData.int p) := .tup n _ hl fun x hx => by
  simp only [List.mem_cons, List.not_mem_nil, or_false] at hx
  rcases hx with rfl | rfl | rfl <;> exact dk_num ⟨by omega, by omega⟩
def Bd (jobs : J3) : Prop := ∀ p ∈ jobs, 0 ≤ p.1 ∧ p.1 ≤ 1000 ∧ 0 ≤ p.2.1 ∧ p.2.1 ≤ 1000 ∧ 0 ≤ p.2.2 ∧ p.2.2 ≤ 1000
theorem dk_jobs {jobs : J3} (hb : Bd jobs) (hl : jobs.length ≤ 12) : DK 21 20 12 2 (tM (p3 PyData.int PyData.int PyData.int) jobs) := .tup 1 _ (by simpa using hl) fun x hx => by
  obtain ⟨p, hp, rfl⟩ := List.mem_map.mp hx
  exact dk_3 (hb p hp) (by decide)
theorem dk_jobsL {jobs : J3} (hb : Bd jobs) (hl : jobs.length ≤ 12) : DK 21 20 12 2 (lM (p3 PyData.int PyData.int PyData.int) jobs) := .lst 1 _ (by simpa using hl) fun x hx => by
  obtain ⟨p, hp, rfl⟩ := List.mem_map.mp hx
  exact dk_3 (hb p hp) (by decide)
theorem sx_jobs {jobs : J3} (hb : Bd jobs) (hl : jobs.length ≤ 61) : Sx (tM (p3 PyData.int PyData.int PyData.int) jobs) := by
  refine (sz_tM (n := 24) fun p h => ?_).mono ?_
  · have := hb p h
    have e4 : (10 : Nat) ^ 4 = 10000 := by decide
    exact sz_3 (n := 5) (sz_int 4 (by omega)) (sz_int 4 (by omega)) (sz_int 4 (by omega))
  · omega
theorem Small.bd {jobs : J3} (h : Small jobs) : Bd jobs := fun p hp => by have := h.2 p hp; omega
/-- spans of drawn jobs, for any orders -/
theorem hrs_bd {ls : List Int} {cm : Int → Int} {B C : Int} (h : ∀ j, 0 ≤ gi ls j ∧ gi ls j ≤ B) (hc : ∀ j, cm j ≤ C) (hB : 0 ≤ B) : ∀ (o : List Int) (t : Int), t ≤ C → hrs ls cm o t ≤ C + B * o.length
  | [], t, ht => by simp [hrs]; exact ht
  | j :: o, t, ht => by
    have h1 := h j
    have h2 := hc j
    have key : ∀ (o : List Int) (t D : Int), t ≤ D → C ≤ D → hrs ls cm o t ≤ D + B * o.length := by
      intro o
      induction o with
      | nil => intro t D ht _; simp [hrs]; exact ht
      | cons j o ih =>
        intro t D ht hD
        have h1 := h j
        have h2 := hc j
        have := ih (max t (cm j) + gi ls j) (D + B) (by omega) (by omega)
        show hrs ls cm o (max t (cm j) + gi ls j) ≤ _
        rw [List.length_cons, show B * ((o.length + 1 : Nat) : Int) = B * o.length + B by rw [Int.natCast_add, Int.mul_add]; simp]
        omega
    exact key (j :: o) t C ht (Int.le_refl _)
theorem run_bd {ls : List Int} {cm : Int → Int} {B C : Int} (h : ∀ j, 0 ≤ gi ls j ∧ gi ls j ≤ B) (hc : ∀ j, cm j ≤ C) (hB : 0 ≤ B) (o : List Int) (t : Int) (ht : t ≤ C) : ∀ p ∈ run ls cm o t, p.2 ≤ C + B * o.length := fun p hp => by
  have hv := vals_le cm (fun j => (h j).1) o t p.2 (List.mem_map_of_mem hp)
  exact Int.le_trans hv (hrs_bd h hc hB o t ht)
theorem dgd_bd {m : List (Int × Int)} {C : Int} (h0 : 0 ≤ C) (h : ∀ p ∈ m, p.2 ≤ C) (j : Int) : dgd m j ≤ C := by
  unfold dgd
  cases e : dget m j with
  | none => exact h0
  | some v =>
    unfold dget at e
    obtain ⟨p, hp, rfl⟩ := Option.map_eq_some_iff.mp e
    exact h p (List.mem_of_find?_eq_some hp)
theorem col_bd {jobs : J3} (h : Small jobs) (k : Int) (j : Int) : 0 ≤ gi (col jobs k) j ∧ gi (col jobs k) j ≤ 24 := by
  rw [col_gi]
  have hp : (0 ≤ (gi jobs j).1 ∧ (gi jobs j).1 ≤ 24) ∧ (0 ≤ (gi jobs j).2.1 ∧ (gi jobs j).2.1 ≤ 24) ∧ (0 ≤ (gi jobs j).2.2 ∧ (gi jobs j).2.2 ≤ 24) := by
    unfold gi
    rw [List.getD_eq_getElem?_getD]
    cases e : jobs[j.toNat]? with
    | none => exact ⟨by decide, by decide, by decide⟩
    | some p =>
      have := h.2 p (List.mem_of_getElem? e)
      simp only [Option.getD_some]
      omega
  unfold pix3
  split
  · exact hp.1
  · split
    · exact hp.2.1
    · exact hp.2.2
theorem rms_bd {jobs : J3} (h : Small jobs) {a b c : List Int} (ha : OrdP jobs.length a) (hb : OrdP jobs.length b) (hc : OrdP jobs.length c) : ∀ m ∈ rms jobs (a, b, c), ∀ p ∈ m, p.2 ≤ 5000 := by
  have hl := h.1
  have l0 := ha.len
  have l1 := hb.len
  have l2 := hc.len
  have q0 := run_bd (C := 0) (col_bd h 0) (fun j => by rw [come0_dgd]; exact Int.le_refl _) (by decide) a 0 (Int.le_refl _) (cm := dgd (come0 jobs.length))
  have b0 : ∀ p ∈ run (col jobs 0) (dgd (come0 jobs.length)) a 0, p.2 ≤ 1464 := fun p hp => by have := q0 p hp; omega
  have q1 := run_bd (C := 1464) (col_bd h 1) (dgd_bd (by decide) b0) (by decide) b 0 (by decide)
  have b1 : ∀ p ∈ run (col jobs 1) (dgd (run (col jobs 0) (dgd (come0 jobs.length)) a 0)) b 0, p.2 ≤ 2928 := fun p hp => by have := q1 p hp; omega
  have q2 := run_bd (C := 2928) (col_bd h 2) (dgd_bd (by decide) b1) (by decide) c 0 (by decide)
  intro m hm p hp
  have hm : m ∈ [run (col jobs 0) (dgd (come0 jobs.length)) a 0, run (col jobs 1) (dgd (run (col jobs 0) (dgd (come0 jobs.length)) a 0)) b 0, run (col jobs 2) (dgd (run (col jobs 1) (dgd (run (col jobs 0) (dgd (come0 jobs.length)) a 0)) b 0)) c 0] := hm
  simp only [List.mem_cons, List.not_mem_nil, or_false] at hm
  rcases hm with rfl | rfl | rfl
  · have := b0 p hp; omega
  · have := b1 p hp; omega
  · have := q2 p hp; omega
theorem span_bd {jobs : J3} (h : Small jobs) {a b c : List Int} (ha : OrdP jobs.length a) (hb : OrdP jobs.length b) (hc : OrdP jobs.length c) : 0 ≤ spanOf jobs (a, b, c) ∧ spanOf jobs (a, b, c) ≤ 5000 := by
  unfold spanOf
  refine ⟨mxI_ge _ (by simp), ?_⟩
  have hm := mxI_mem (ns := [(0 : Int)] ++ (gi (rms jobs (a, b, c)) (2 : Int)).map (·.2)) (by simp)
  rcases List.mem_append.mp hm with hm | hm
  · rw [List.mem_singleton.mp hm]; decide
  · obtain ⟨p, hp, ep⟩ := List.mem_map.mp hm
    rw [← ep]
    exact rms_bd h ha hb hc _ (by simp [rms, gi]) p hp
theorem run_nn {ls : List Int} {cm : Int → Int} (h : ∀ j, 0 ≤ gi ls j) : ∀ (o : List Int) (t : Int), 0 ≤ t → ∀ p ∈ run ls cm o t, 0 ≤ p.2
  | [], t, _, p, hp => by simp [K87.run] at hp
  | j :: o, t, ht, p, hp => by
    have h1 := h j
    rw [K87.run] at hp
    rcases List.mem_cons.mp hp with rfl | hp
    · show 0 ≤ max t (cm j) + gi ls j
      omega
    · exact run_nn h o _ (by omega) p hp
theorem rms_nn {jobs : J3} (h : Small jobs) (os : List Int × List Int × List Int) : ∀ m ∈ rms jobs os, ∀ p ∈ m, 0 ≤ p.2 := by
  intro m hm p hp
  have hm : m ∈ [run (col jobs 0) (dgd (come0 jobs.length)) os.1 0, run (col jobs 1) (dgd (run (col jobs 0) (dgd (come0 jobs.length)) os.1 0)) os.2.1 0, run (col jobs 2) (dgd (run (col jobs 1) (dgd (run (col jobs 0) (dgd (come0 jobs.length)) os.1 0)) os.2.1 0)) os.2.2 0] := hm
  simp only [List.mem_cons, List.not_mem_nil, or_false] at hm
  rcases hm with rfl | rfl | rfl <;> exact run_nn (fun j => (col_bd h _ j).1) _ _ (by decide) p hp
theorem dgd_nn {m : List (Int × Int)} (h : ∀ p ∈ m, 0 ≤ p.2) (j : Int) : 0 ≤ dgd m j := by
  unfold dgd
  cases e : dget m j with
  | none => exact Int.le_refl _
  | some v =>
    unfold dget at e
    obtain ⟨p, hp, rfl⟩ := Option.map_eq_some_iff.mp e
    exact h p (List.mem_of_find?_eq_some hp)
theorem CMul_small {i j : Int} (hi : 0 ≤ i ∧ i ≤ 1000) (hj : 0 ≤ j ∧ j ≤ 1000) : CMul i j := .inl (by omega)
theorem toP_trip (p : Int × Int × Int) : (gi [p.1, p.2.1, p.2.2] (0 : Int), gi [p.1, p.2.1, p.2.2] (1 : Int), gi [p.1, p.2.1, p.2.2] (2 : Int)) = p := rfl
/-- one length made longer -/
def lgr (p : Int × Int × Int) (room y : Int) : Int × Int × Int := (gi ([p.1, p.2.1, p.2.2].set room.toNat y) (0 : Int), gi ([p.1, p.2.1, p.2.2].set room.toNat y) (1 : Int), gi ([p.1, p.2.1, p.2.2].set room.toNat y) (2 : Int))
theorem lgr_ge {p : Int × Int × Int} {room y : Int} (hr : 0 ≤ room ∧ room < 3) (h : gi [p.1, p.2.1, p.2.2] room ≤ y) : p.1 ≤ (lgr p room y).1 ∧ p.2.1 ≤ (lgr p room y).2.1 ∧ p.2.2 ≤ (lgr p room y).2.2 := by
  have : room = 0 ∨ room = 1 ∨ room = 2 := by omega
  rcases this with rfl | rfl | rfl
  · have h : p.1 ≤ y := h
    exact ⟨h, Int.le_refl _, Int.le_refl _⟩
  · have h : p.2.1 ≤ y := h
    exact ⟨Int.le_refl _, h, Int.le_refl _⟩
  · have h : p.2.2 ≤ y := h
    exact ⟨Int.le_refl _, Int.le_refl _, h⟩
theorem longer_eq (jobs : J3) {x room y : Int} (hx : 0 ≤ x ∧ x < jobs.length) :
    (((jobs.map fun q : Int × Int × Int => [q.1, q.2.1, q.2.2]).set x.toNat ((gi (jobs.map fun q : Int × Int × Int => [q.1, q.2.1, q.2.2]) x).set room.toNat y)).map fun l : List Int => (gi l (0 : Int), gi l (1 : Int), gi l (2 : Int))) = jobs.set x.toNat (lgr (gi jobs x) room y) := by
  rw [List.map_set, List.map_map, gi_mapI (f := fun q : Int × Int × Int => [q.1, q.2.1, q.2.2]) hx]
  congr 1
  exact List.map_id' _
theorem gi_setJ (jobs : J3) {x : Int} (hx : 0 ≤ x ∧ x < jobs.length) (q : Int × Int × Int) (j : Int) : gi (jobs.set x.toNat q) j = if j.toNat = x.toNat then q else gi jobs j := by
  unfold gi
  rw [List.getD_eq_getElem?_getD, List.getD_eq_getElem?_getD]
  split
  · rename_i e
    rw [e, List.getElem?_set_self (by omega)]
    rfl
  · rename_i e
    rw [List.getElem?_set_ne (Ne.symm e)]
theorem fits_eq (x : D) (it : IsT x) : (List.isEmpty (List.map (fun x143 : D => x143) (List.filter (fun x143 : D => ((!(isB "int" x143)) || ((isB "bool" x143) || (decide (dInt x143 < (1 : Int)))))) (dTup x)))) = (dTup x).all fun x => F_is_number x && decide ((0 : Int) < dInt x) := by
  rw [List.map_id']
  induction dTup x with
  | nil => rfl
  | cons y ys ih =>
    rw [List.filter_cons, List.all_cons]
    have : ((!(isB "int" y)) || ((isB "bool" y) || (decide (dInt y < (1 : Int))))) = !(F_is_number y && decide ((0 : Int) < dInt y)) := by
      unfold F_is_number
      cases isB "int" y <;> cases isB "bool" y <;> simp
      by_cases c : dInt y < 1
      · rw [decide_eq_true c]
        simp
        omega
      · rw [decide_eq_false c]
        simp
        omega
    rw [this]
    cases F_is_number y && decide ((0 : Int) < dInt y) with
    | true => simpa using ih
    | false => rfl
theorem V_law : W_law (fun r => r = true) := by
  unfold W_law
  rintro odd eo
  have hodd : odd ≠ [] ∧ odd.length ≤ 1000 ∧ ∀ o ∈ odd, DK 22 20 13 1 o := by
    rw [eo]
    refine ⟨by simp, by simp, fun o ho => ?_⟩
    simp only [List.mem_cons, List.not_mem_nil, or_false] at ho
    have n0 : ∀ {m : Nat} {i : Int}, -100000 ≤ i ∧ i ≤ 100000 → DK 22 20 13 m (.int i) := fun h => up22 (dk_num h) (Nat.le_refl _)
    rcases ho with rfl | rfl | rfl | rfl | rfl | rfl | rfl | rfl | rfl | rfl | rfl | rfl
    · exact .non _
    · exact .bl _ _
    · exact n0 (by decide)
    · exact n0 (by decide)
    · exact n0 (by decide)
    · exact .str _ _ (by decide +kernel) (by decide +kernel)
    · exact .tup 0 _ (by simp) (by simp)
    · exact .tup 0 _ (by simp) (by simpa using n0 (by decide))
    · exact .tup 0 _ (by simp) (by simpa using ⟨n0 (by decide), n0 (by decide)⟩)
    · exact .tup 0 _ (by simp) (by simpa using n0 (by decide))
    · exact .lst 0 _ (by simp) (by simpa using n0 (by decide))
    · exact .int _ _ (by decide +kernel)
  clear eo
  refine wpFor_inv _ (fun _ _ => True) () trivial (fun don x rest s N e _ hN => ?_) fun s _ => ?_
  · unfold wl1_law
    refine ⟨by decide, fun n hn => ⟨⟨by omega, by omega⟩, ?_⟩⟩
    rintro jobs ⟨hjn, sm⟩
    have pos := sm.pos
    have hn9 : 0 ≤ n ∧ n ≤ 9 := by omega
    have hl9 : jobs.length ≤ 9 := by omega
    have h1000 : jobs.length ≤ 1000 := by omega
    have hnn : n.toNat = jobs.length := by omega
    have bdj := sm.bd
    have sxj := sx_jobs bdj (by omega)
    rw [hnn]
    refine ⟨⟨by omega, by omega⟩, by simp; omega, sxj, ?_⟩
    rintro order kept hord rfl
    have ho : OrdP jobs.length order := hord
    have hlen := ho.len
    have hin := ordP_inR ho h1000
    have hb := span_bd sm ho ho ho
    have ok3 : OkOs jobs [order, order, order] := ⟨rfl, h1000, ho, ho, ho⟩
    refine ⟨ok3, ⟨h1000, ho⟩, ?_⟩
    rintro ends span ee es
    have es : span = spanOf jobs (order, order, order) := es
    rw [← es] at hb
    have ee : ends = [arr jobs.length (r0 jobs order), arr jobs.length (r1 jobs order), arr jobs.length (r2 jobs order)] := ee
    have al : ∀ m, (arr jobs.length m).length = jobs.length := fun m => arr_len
    have rl : ∀ k : Nat, k ∈ List.range jobs.length → 0 ≤ (k : Int) ∧ (k : Int) < jobs.length := fun k hk => by have := List.mem_range.mp hk; omega
    have g0 : gi ends (0 : Int) = arr jobs.length (r0 jobs order) := by rw [ee]; rfl
    have g1 : gi ends (1 : Int) = arr jobs.length (r1 jobs order) := by rw [ee]; rfl
    have g2 : gi ends (2 : Int) = arr jobs.length (r2 jobs order) := by rw [ee]; rfl
    have el : ends.length = 3 := by rw [ee]; rfl
    rw [g0, g1, g2]
    refine ⟨⟨by omega, by omega⟩, fun _ _ => by omega, fun k hk => by rw [al]; exact rl k hk, fun _ _ => by omega, fun k hk => by rw [al]; exact rl k hk, fun _ _ => by omega, fun k hk => by rw [al]; exact rl k hk, ?_⟩
    rintro due ed
    have ed : due = (List.range jobs.length).map fun k : Nat => (dgd (r0 jobs order) (k : Int), dgd (r1 jobs order) (k : Int), dgd (r2 jobs order) (k : Int)) := by
      rw [ed]
      refine List.map_congr_left fun k hk => ?_
      rw [arr_gi (rl k hk), arr_gi (rl k hk), arr_gi (rl k hk)]
    have hdata : tM (tM PyData.int) (F_room_ends jobs order) = tM (p3 PyData.int PyData.int PyData.int) due := by
      rw [ed]
      unfold F_room_ends
      show PyData.tuple (List.map _ (List.map _ _)) = PyData.tuple (List.map _ (List.map _ _))
      rw [List.map_map, List.map_map]
      rfl
    have hrm := rms_bd sm ho ho ho
    have hrn := rms_nn sm (order, order, order)
    have dg : ∀ m ∈ rms jobs (order, order, order), ∀ j : Int, 0 ≤ dgd m j ∧ dgd m j ≤ 5000 := fun m hm j => ⟨dgd_nn (hrn m hm) j, dgd_bd (by decide) (hrm m hm) j⟩
    have m0 : r0 jobs order ∈ rms jobs (order, order, order) := by simp [rms]
    have m1 : r1 jobs order ∈ rms jobs (order, order, order) := by simp [rms]
    have m2 : r2 jobs order ∈ rms jobs (order, order, order) := by simp [rms]
    have e4 : (10 : Nat) ^ 4 = 10000 := by decide
    have sxd : Sx (y2 (tM (p3 PyData.int PyData.int PyData.int)) PyData.int (due, span)) := by
      refine (sz_lst (n := 500) (xs := [tM (p3 PyData.int PyData.int PyData.int) due, PyData.int span]) fun y hy => ?_).mono (by simp)
      simp only [List.mem_cons, List.not_mem_nil, or_false] at hy
      rcases hy with rfl | rfl
      · refine (sz_tM (n := 24) fun p h => ?_).mono ?_
        · rw [ed] at h
          obtain ⟨k, hk, rfl⟩ := List.mem_map.mp h
          have q0 := dg _ m0 (k : Int)
          have q1 := dg _ m1 (k : Int)
          have q2 := dg _ m2 (k : Int)
          exact sz_3 (n := 5) (sz_int 4 (by omega)) (sz_int 4 (by dsimp only; omega)) (sz_int 4 (by dsimp only; omega))
        · rw [ed, List.length_map, List.length_range]
          omega
      · exact (sz_int 4 (by omega)).mono (by decide)
    have hy : (y2 (tM (tM PyData.int)) PyData.int) ((F_room_ends jobs order), (F_room_span jobs order)) = (y2 (tM (p3 PyData.int PyData.int PyData.int)) PyData.int) (due, span) := by
      show PyData.list [tM (tM PyData.int) (F_room_ends jobs order), PyData.int (spanOf jobs (order, order, order))] = PyData.list [tM (p3 PyData.int PyData.int PyData.int) due, PyData.int span]
      rw [hdata, es]
    rw [hy]
    clear ed hdata hy ee g0 g1 g2 el
    have wj3 : wj3_law odd jobs ((tM (p3 PyData.int PyData.int PyData.int)) jobs).shown () N (fun r => r = true) := by
      unfold wj3_law
      refine ⟨by simp; omega, by simp; omega, ?_⟩
      rintro values ev
      have dkj := dk_jobs bdj (by omega)
      have okn : Ok__law_near ((tM (p3 PyData.int PyData.int PyData.int)) jobs) odd := ⟨dkj.mono (Nat.le_refl _) (Nat.le_refl _) (Nat.le_refl _) (by decide), hodd.1, hodd.2.1, hodd.2.2⟩
      have bdx : ∀ p : Int × Int × Int, (0 ≤ p.1 ∧ p.1 ≤ 1000 ∧ 0 ≤ p.2.1 ∧ p.2.1 ≤ 1000 ∧ 0 ≤ p.2.2 ∧ p.2.2 ≤ 1000) → Bd (jobs ++ [p]) := fun p hp q hq => by
        rcases List.mem_append.mp hq with hq | hq
        · exact bdj q hq
        · rw [List.mem_singleton.mp hq]; exact hp
      have dv : ∀ x ∈ values, Dv x := fun x hx => by
        rw [ev] at hx
        simp only [List.mem_cons, List.not_mem_nil, or_false] at hx
        rcases hx with rfl | rfl | rfl | rfl | rfl | rfl | rfl
        · exact up22 dkj (by decide)
        · exact up22 (dk_jobsL bdj (by omega)) (by decide)
        · exact up22 (dk_jobs (bdx _ (by decide)) (by simp; omega)) (by decide)
        · exact up22 (dk_jobs (bdx _ (by decide)) (by simp; omega)) (by decide)
        · exact .non _
        · exact up22 (dk_num (n := 0) (by decide)) (by decide)
        · exact up22 (dk_3 (n := 0) (by decide) (by decide)) (by decide)
      have lv : values.length = 7 := by rw [ev]; rfl
      clear ev
      refine ⟨fun _ _ => okn, fun _ _ => okn, fun b hb => by have := hb.len; rw [List.length_range] at this; omega, ?_⟩
      rintro xs ⟨b112, hb112, exs⟩
      have dx : ∀ x ∈ xs, Dv x := fun x hx => by
        rw [exs] at hx
        rcases List.mem_append.mp hx with hx | hx
        · exact dv x hx
        · obtain ⟨_, _, po⟩ := hb112.mem _ hx
          exact (po 2 dkj).mono (Nat.le_refl _) (Nat.le_refl _) (Nat.le_refl _) (by decide)
      clear exs hb112
      refine wpFor_inv _ (fun _ _ => True) () trivial (fun don3 v rest3 s3 N3 e3 _ hN3 => ?_) fun s3 _ => ?_
      · have dvv := dx v (by rw [e3]; simp)
        have sxb : ∀ b : Bool, Sx (PyData.bool b) := fun b => sz_bool.mono (by decide)
        unfold wl4_law
        refine ⟨dvv.nod, ?_⟩
        rintro fits rfl
        refine ⟨fun c => isT_eq (isT_of c), ?_⟩
        refine wpFor_inv _ (fun don s => s = (isB "tuple" v && don.all F_is_room_job)) _ (by simp) (fun don4 y rest4 s4 N4 e4' hs4 hN4 => ?_) fun s4 hs4 => ?_
        · have ct : isB "tuple" v = true := by
            cases c : isB "tuple" v with
            | true => rfl
            | false => rw [c] at e4'; simp at e4'
          rw [if_pos ct] at e4'
          have it := isT_of ct
          have hy : y ∈ dTup v := by rw [e4']; simp
          have dy := (PD.DK.kid dvv it).2 y hy
          have dyv : Dv y := dy
          unfold wl5_law
          refine ⟨fun _ => dyv.nod, fun _ c => isT_of c, ?_⟩
          rintro fits2 ef2
          have hf : fits2 = true → IsT y := fun c => by
            rw [ef2] at c
            simp only [Bool.and_eq_true] at c
            exact isT_of c.2.1
          have hk : fits2 = true → ∀ z ∈ dTup y, DK 22 20 13 4 z := fun c z hz => (PD.DK.kid dyv (hf c)).2 z hz
          refine ⟨hf, fun c z hz => PD.nod (hk c z hz).sh.1, fun c z hz _ => PD.nod (hk c z hz).sh.1, fun c z hz c1 c2 => isI_of (by simpa using c1) c2, fun c => ?_, ?_⟩
          · have := dk_lM (M := 22) (S := 20) (L := 13) (n := 4) (xs := List.map (fun x143 : D => x143) (List.filter (fun x143 : D => ((!(isB "int" x143)) || ((isB "bool" x143) || (decide (dInt x143 < (1 : Int)))))) (dTup y))) (by
              rw [List.length_map]
              exact Nat.le_trans (List.length_filter_le _ _) (PD.DK.kid dyv (hf c)).1) fun z hz => by
              obtain ⟨w, hw, rfl⟩ := List.mem_map.mp hz
              exact hk c w (List.mem_filter.mp hw).1
            exact this.sh.shaped
          · rintro fits3 ef3
            refine hN4 _ ?_
            rw [ef3, ef2, hs4, List.all_append, List.all_cons, List.all_nil, Bool.and_true, Bool.and_assoc, Bool.and_assoc]
            congr 1
            congr 1
            unfold F_is_room_job
            cases c : isB "tuple" y with
            | false => rfl
            | true =>
              rw [fits_eq y (isT_of c)]
              rfl
        · have hs : s4 = F_are_room_jobs v := by
            rw [hs4]
            unfold F_are_room_jobs
            cases c : isB "tuple" v with
            | false => rfl
            | true => rfl
          unfold wr5_law
          refine ⟨dvv.s40, dvv.sx, ?_⟩
          rintro shown rfl
          rw [← hs]
          exact ⟨dvv, sxb _, sxb _, fun _ => dvv.s40, fun _ => dvv.sx, noT (orF (neF rfl) (neF rfl)), fun _ => hN3 _ trivial⟩
      · unfold wr4_law
        exact ⟨sxj, noT (neF rfl), fun _ => hN _ trivial⟩
    have wj2 : wj2_law odd n jobs order ((tM (p3 PyData.int PyData.int PyData.int)) jobs).shown span () N (fun r => r = true) := by
      unfold wj2_law
      refine ⟨⟨hin, pos⟩, ?_⟩
      rintro wide ew
      have ew : wide = K87.Wd jobs order := ew
      have hw : 0 ≤ wide ∧ wide ≤ span := by rw [ew, es]; exact ⟨Wd_nn pos _, span_ge pos ho⟩
      have sxw : Sxi (PyData.int wide) := (sz_int 4 (by omega)).mono (by decide)
      have efw : F_wide_span jobs order = wide := ew.symm
      rw [efw]
      refine ⟨⟨hin, pos⟩, sxw, sxw, noT (orF (neF rfl) (ltF hw.2)), fun _ => ?_⟩
      rw [hnn]
      refine ⟨fun _ _ => ⟨by omega, by omega⟩, fun _ _ => by simp; omega, ?_⟩
      intro orders hors
      have l3 := hors.len
      rw [List.length_range] at l3
      have hor : ∀ o ∈ orders, OrdP jobs.length o := fun o h => by
        obtain ⟨_, _, h⟩ := hors.mem o h
        exact h
      have ok3' : OkOs jobs orders := ⟨l3, h1000, hor _ (gi_memI (by omega) (by omega)), hor _ (gi_memI (by omega) (by omega)), hor _ (gi_memI (by omega) (by omega))⟩
      have hb3 := span_bd sm ok3'.2.2.1 ok3'.2.2.2.1 ok3'.2.2.2.2
      have e3' : mxI ((gi (F__law_ends jobs orders) (2 : Int)) ++ [(0 : Int)]) = F_rooms_span jobs orders := arr_span ok3'.2.2.2.2
      have sx3 : Sxi (PyData.int (F_rooms_span jobs orders)) := (sz_int 4 (by have : 0 ≤ F_rooms_span jobs orders ∧ F_rooms_span jobs orders ≤ 5000 := hb3; omega)).mono (by decide)
      have l2 : (gi (F__law_ends jobs orders) (2 : Int)).length = jobs.length := arr_len
      rw [e3']
      refine ⟨ok3', sx3, ok3', by show 2 < 3; decide, by rw [l2]; simp; omega, by simp, sx3, noT (neF rfl), fun _ => ?_⟩
      rintro back rfl
      have tl : (turnJ jobs).length = jobs.length := by simp
      have bdt : Bd (turnJ jobs) := fun p hp => by
        obtain ⟨q, hq, rfl⟩ := List.mem_map.mp hp
        have := bdj q hq
        dsimp only
        omega
      have sxt : Sx (tM (p3 PyData.int PyData.int PyData.int) (turnJ jobs)) := sx_jobs bdt (by omega)
      have hor : OrdP (turnJ jobs).length order.reverse := by rw [tl]; exact (List.reverse_perm order).trans ho
      have es2 : F_room_span (turnJ jobs) order.reverse = span := by rw [es]; exact turn_span pos ho.nodup
      have ew2 : F_wide_span (turnJ jobs) order.reverse = wide := by rw [ew]; exact turn_wide pos order
      refine ⟨trivial, sxt, sxt, fun _ => ⟨by rw [tl]; omega, hor⟩, noT (orF (neF rfl) (neF es2)), fun _ => ⟨⟨ordP_inR hor (by rw [tl]; omega), turn_pos pos⟩, noT (neF ew2), fun _ => ⟨by decide, ?_⟩⟩⟩
      intro more hm
      have hm : 0 ≤ more ∧ more ≤ 8 := by omega
      rintro late rfl
      have ll : (lateJ jobs more).length = jobs.length := by simp
      have bdl : Bd (lateJ jobs more) := fun p hp => by
        obtain ⟨q, hq, rfl⟩ := List.mem_map.mp hp
        have := sm.2 q hq
        dsimp only
        omega
      have sxl : Sx (tM (p3 PyData.int PyData.int PyData.int) (lateJ jobs more)) := sx_jobs bdl (by omega)
      have posl := late_pos pos hm.1
      have hol : OrdP (lateJ jobs more).length order := by rw [ll]; exact ho
      have okw : Ok_wide_span (lateJ jobs more) order := ⟨ordP_inR hol (by rw [ll]; omega), posl⟩
      have ew3 : F_wide_span (lateJ jobs more) order = wide + more * (if (decide ((0 : Int) < n)) = true then (1 : Int) else 0) := by
        by_cases c : 0 < n
        · rw [if_pos (decide_eq_true c), ew, Int.mul_one]
          exact late_wide pos hm.1 ho fun z => by rw [z] at hlen; simp at hlen; omega
        · rw [if_neg (by simpa using c), ew, Int.mul_zero, Int.add_zero]
          have : order = [] := List.length_eq_zero_iff.mp (by omega)
          rw [this]
          rfl
      refine ⟨trivial, sxl, sxl, fun _ => okw, fun _ => CMul_small ⟨hm.1, by omega⟩ (by split <;> omega), noT (orF (neF rfl) (neF ew3)), fun _ => ⟨fun _ => ⟨by rw [ll]; omega, hol⟩, fun _ _ => CMul_small ⟨hn9.1, by omega⟩ ⟨hm.1, by omega⟩, noT ?_, fun _ => ⟨fun c => ?_, fun _ => wj3⟩⟩⟩
      · by_cases c : 0 < n
        · have ne : order ≠ [] := fun z => by rw [z] at hlen; simp at hlen; omega
          have q := late_span pos hm.1 ho ne
          rw [← es] at q
          have q1 : span + more ≤ F_room_span (lateJ jobs more) order := q.1
          have q2 : F_room_span (lateJ jobs more) order ≤ span + n * more := by rw [← hjn]; exact q.2
          rw [decide_eq_true q1, decide_eq_true q2]
          exact andF2 rfl
        · exact andF1 (decide_eq_false c)
      · have c : 0 < n := of_decide_eq_true c
        refine ⟨by omega, by decide, ?_⟩
        intro x2 room hx2 hroom
        have hx2 : 0 ≤ x2 ∧ x2 < jobs.length := by omega
        have hroom : 0 ≤ room ∧ room < 3 := by omega
        rintro longer rfl
        have eg : gi (List.map (fun x158 : (Int × Int × Int) => [x158.1, x158.2.1, x158.2.2]) jobs) x2 = [(gi jobs x2).1, (gi jobs x2).2.1, (gi jobs x2).2.2] := gi_mapI (f := fun x158 : (Int × Int × Int) => [x158.1, x158.2.1, x158.2.2]) hx2
        refine ⟨by rw [List.length_map]; exact hx2, by rw [eg]; exact hroom, by decide, ?_⟩
        rintro y ⟨b, hb, ey⟩ longer2 rfl
        rw [eg] at ey
        have hge := lgr_ge (p := gi jobs x2) (y := y) hroom (by omega)
        rw [List.map_id']
        refine ⟨fun l hl => ?_, ?_⟩
        · rcases List.mem_or_eq_of_mem_set hl with hl | hl
          · obtain ⟨q, _, rfl⟩ := List.mem_map.mp hl
            rfl
          · rw [hl, List.length_set, eg]
            rfl
        · rintro longer3 el3
          have el3 : longer3 = jobs.set x2.toNat (lgr (gi jobs x2) room y) := by rw [el3]; exact longer_eq jobs hx2
          subst el3
          have lL : (jobs.set x2.toNat (lgr (gi jobs x2) room y)).length = jobs.length := List.length_set ..
          have hmono : ∀ j : Int, xa jobs j ≤ xa (jobs.set x2.toNat (lgr (gi jobs x2) room y)) j ∧ xb jobs j ≤ xb (jobs.set x2.toNat (lgr (gi jobs x2) room y)) j ∧ xc jobs j ≤ xc (jobs.set x2.toNat (lgr (gi jobs x2) room y)) j := fun j => by
            unfold xa xb xc
            rw [gi_setJ jobs hx2]
            split
            · rename_i ej
              have : gi jobs j = gi jobs x2 := by unfold gi; rw [ej]
              rw [this]
              exact hge
            · exact ⟨Int.le_refl _, Int.le_refl _, Int.le_refl _⟩
          have posL : Pos3 (jobs.set x2.toNat (lgr (gi jobs x2) room y)) := fun p hp => by
            rcases List.mem_or_eq_of_mem_set hp with hp | hp
            · exact pos p hp
            · have := gi_pos3 pos x2
              unfold xa xb xc at this
              rw [hp]
              exact ⟨Int.le_trans this.1 hge.1, Int.le_trans this.2.1 hge.2.1, Int.le_trans this.2.2 hge.2.2⟩
          have hoL : OrdP (jobs.set x2.toNat (lgr (gi jobs x2) room y)).length order := by rw [lL]; exact ho
          have s1 : span ≤ F_room_span (jobs.set x2.toNat (lgr (gi jobs x2) room y)) order := by rw [es]; exact span_mono pos posL hmono ho.nodup
          have s2 : wide ≤ F_wide_span (jobs.set x2.toNat (lgr (gi jobs x2) room y)) order := by rw [ew]; exact wide_mono pos hmono order
          exact ⟨⟨by rw [lL]; omega, hoL⟩, fun _ => ⟨ordP_inR hoL (by rw [lL]; omega), posL⟩, noT (orF (ltF s1) (ltF s2)), fun _ => wj3⟩
    refine ⟨⟨h1000, ho⟩, ⟨h1000, ho⟩, sxd, sxd, noT (neF rfl), fun _ => ⟨fun c => ?_, fun _ => wj2⟩⟩
    have c : 0 < n := of_decide_eq_true c
    have ne : order ≠ [] := fun z => by rw [z] at hlen; simp at hlen; omega
    obtain ⟨r, r1, _, ⟨u, v, q1, q2, q3⟩, _⟩ := lawWay_is (jobs := jobs) ne
    have hsp := lawWay_span pos ho.nodup ne r1
    refine ⟨hin, ?_⟩
    rintro way ewy
    have ewy : way = some r := by rw [ewy]; exact r1
    subst ewy
    have eg : F_greatest_way jobs order = r := by
      show qv (lawWay jobs order) = r
      rw [r1]
      rfl
    have hru : r.1 = (u : Int) := by rw [q3]
    have hrv : r.2.1 = (v : Int) := by rw [q3]
    have sxr : Sx (p3 PyData.int PyData.int PyData.int r) := by
      refine (sz_3 (n := 5) (sz_int 4 ?_) (sz_int 4 ?_) (sz_int 4 ?_)).mono (by decide)
      · rw [hru]; omega
      · rw [hrv]; omega
      · rw [hsp, ← es]; omega
    rw [eg]
    refine ⟨⟨hin, ne⟩, sxr, sxr, fun _ => rfl, noT (orF (neF rfl) (neF ?_)), fun _ => wj2⟩
    show r.2.2 = span
    rw [hsp, es]
  · unfold wr1_law
    refine ⟨⟨by decide, ?_⟩, by decide +kernel⟩
    show List.Perm [(1 : Int), 0] [0, 1]
    exact List.Perm.swap 0 1 []
end
end K86

set_option Elab.async false
set_option linter.all false
set_option maxRecDepth 100000
set_option maxHeartbeats 2000000
/-! VB: the rules by which a generated walk goes -/
namespace DL
open PySem PySem.Spec PyProof.Rows L2
open Evl (Ex Ex.refl Ex.trans Ex.new Ex.mut)
section
variable {K : PySem.W.Frag} {S : Option (Addr × Addr)} {ρ : Env} {ta tb tc te ti : TE} {tt : TT} {ts us : TS} {α β γ σ : Type} {f : α → D} {i j l : Nat} {E : DE} {d : D}
/-! immutable -/
def ImD (f : α → D) : Prop := ∀ x, Im (f x)
theorem imd_int : ImD PyData.int := fun _ => im_int _
theorem imd_bool : ImD PyData.bool := fun _ => im_bool _
theorem imd_str : ImD PyData.str := fun _ => im_str _
theorem imd_tM (h : ImD f) : ImD (tM f) := fun xs => (im_tuple _).mpr fun x hx => by obtain ⟨y, _, rfl⟩ := List.mem_map.mp hx; exact h y
theorem imd_p1 (h : ImD f) : ImD (p1 f) := fun x => (im_tuple _).mpr (by simp [h _])
theorem imd_p2 {g : β → D} (h : ImD f) (h2 : ImD g) : ImD (p2 f g) := fun x => (im_tuple _).mpr (by simp [h _, h2 _])
theorem imd_p3 {g : β → D} {k : γ → D} (h : ImD f) (h2 : ImD g) (h3 : ImD k) : ImD (p3 f g k) := fun x => (im_tuple _).mpr (by simp [h _, h2 _, h3 _])
theorem imd_p4 {δ : Type} {g : β → D} {k : γ → D} {m : δ → D} (h : ImD f) (h2 : ImD g) (h3 : ImD k) (h4 : ImD m) : ImD (p4 f g k m) := fun x => (im_tuple _).mpr (by simp [h _, h2 _, h3 _, h4 _])
theorem imd_p5 {δ ε : Type} {g : β → D} {k : γ → D} {m : δ → D} {n : ε → D} (h : ImD f) (h2 : ImD g) (h3 : ImD k) (h4 : ImD m) (h5 : ImD n) : ImD (p5 f g k m n) := fun x => (im_tuple _).mpr (by simp [h _, h2 _, h3 _, h4 _, h5 _])
theorem imd_Q (h : ImD f) : ImD (encQ f) := fun x => by cases x with | none => exact im_none | some x => exact h x
theorem imd_U : ImD encU := fun _ => im_none
theorem bor_d {x : α} (h : ImD f) : OIm (.d (f x)) := .d _ (h x)
theorem bor_l {xs : List α} (h : ImD f) : OIm (oL f xs) := oiL h
/-! statements -/
theorem sw_asgV {v : α} (f : α → D) (h : EvD K S te ρ (f v)) (k : ∀ x, x = v → E.nx (ρ.set i (some (.d (f x))))) : StW K S (tAsg te (gName i)) ρ E := sw_asg h (k v rfl)
theorem sw_asgL {v : List α} (f : α → D) (h : EvO K S te ρ (oL f v)) (k : ∀ x, x = v → E.nx (ρ.set i (some (oL f x)))) : StW K S (tAsg te (gName i)) ρ E := sw_asg h (k v rfl)
theorem sw_asgNV {P : α → Prop} (f : α → D) (h : EvN K S te ρ (NT f P)) (k : ∀ x, P x → E.nx (ρ.set i (some (.d (f x))))) : StW K S (tAsg te (gName i)) ρ E := sw_asgN h fun d ⟨x, e, p⟩ => by subst e; exact k x p
theorem sw_brk (h : E.bk ρ) : StW K S tBreak ρ E := fun B H Fr σ D w k => k.bk ρ σ B H h (Aft.refl w) w
theorem sw_ctn (h : E.ct ρ) : StW K S tCont ρ E := fun B H Fr σ D w k => k.ct ρ σ B H h (Aft.refl w) w
/-- a statement, then what is behind it, told by a state -/
theorem sw_join (env : σ → Env) (J : σ → Prop) (h : StW K S ts ρ { E with nx := fun ρ1 => ∃ s, J s ∧ Le (env s) ρ1 }) (k : ∀ s, J s → StW K S us (env s) E) : StW K S (tSeq ts us) ρ E :=
  sw_seq (sw_mono h (fun ρ1 ⟨s, hj, le⟩ => sw_le le (k s hj)) (fun _ z => z) (fun _ z => z) fun _ z => z)
theorem sw_vfor {wi : TI} {g : TG} {tb : TS} {body : α → σ → (σ → Prop) → (σ → Prop) → Prop} {Kf : σ → Prop} {xs : List α} (e : α → D) (env : σ → Env) (s0 : σ) (hi : EvI K S wi ρ (xs.map e)) (h0 : Le (env s0) ρ) (h : wpFor body xs s0 Kf)
    (hb : ∀ x s N, body x s N Kf → ∃ ρ2 js, GtD K S g (env s) (e x) ρ2 js ∧ StW K S tb ρ2 { E with nx := fun ρ3 => ∃ s', N s' ∧ Le (env s') ρ3, ct := fun ρ3 => ∃ s', N s' ∧ Le (env s') ρ3, bk := fun ρ3 => ∃ s', Kf s' ∧ Le (env s') ρ3 })
    (hd : ∀ s ρ1, Kf s → Le (env s) ρ1 → E.nx ρ1) : StW K S (tFor wi g tb) ρ E := by
  refine sw_for xs e (fun i ρ1 => ∃ s, Le (env s) ρ1 ∧ wpFor body (xs.drop i) s Kf) hi ⟨s0, h0, by simpa using h⟩ ?_ ?_
  · rintro i x ρ1 hx ⟨s, le, w⟩
    obtain ⟨hlt, hxe⟩ := List.getElem?_eq_some_iff.mp hx
    rw [List.drop_eq_getElem_cons hlt, hxe] at w
    obtain ⟨ρ2, js, hg, hs⟩ := hb x s _ w
    exact ⟨ρ2, js, fun B H Fr σ v Q w r k => hg B H Fr σ v Q (w.le le) r k, sw_mono hs (fun ρ3 ⟨s', n, l⟩ => ⟨_, l, s', Le.refl _, n⟩) (fun ρ3 ⟨s', n, l⟩ => hd s' ρ3 n l) (fun ρ3 ⟨s', n, l⟩ => ⟨_, l, s', Le.refl _, n⟩) fun _ z => z⟩
  · rintro ρ1 ⟨s, le, w⟩
    rw [List.drop_length] at w
    exact hd s ρ1 w le
/-- the same over drawn items -/
theorem sw_vforN {wi : TI} {g : TG} {tb : TS} {body : α → σ → (σ → Prop) → (σ → Prop) → Prop} {Kf : σ → Prop} {P0 : List α → Prop} (e : α → D) (env : σ → Env) (s0 : σ) (hi : EvIN K S wi ρ (fun ds => ∃ xs, ds = xs.map e ∧ P0 xs)) (h0 : Le (env s0) ρ) (h : ∀ xs, P0 xs → wpFor body xs s0 Kf)
    (hb : ∀ x s N, body x s N Kf → ∃ ρ2 js, GtD K S g (env s) (e x) ρ2 js ∧ StW K S tb ρ2 { E with nx := fun ρ3 => ∃ s', N s' ∧ Le (env s') ρ3, ct := fun ρ3 => ∃ s', N s' ∧ Le (env s') ρ3, bk := fun ρ3 => ∃ s', Kf s' ∧ Le (env s') ρ3 })
    (hd : ∀ s ρ1, Kf s → Le (env s) ρ1 → E.nx ρ1) : StW K S (tFor wi g tb) ρ E := by
  refine sw_forW e (fun xs i ρ1 => ∃ s, Le (env s) ρ1 ∧ wpFor body (xs.drop i) s Kf) hi fun ds ⟨xs, ed, p⟩ => ⟨xs, ed, ⟨s0, h0, by simpa using h xs p⟩, ?_, ?_⟩
  · rintro i x ρ1 hx ⟨s, le, w⟩
    obtain ⟨hlt, hxe⟩ := List.getElem?_eq_some_iff.mp hx
    rw [List.drop_eq_getElem_cons hlt, hxe] at w
    obtain ⟨ρ2, js, hg, hs⟩ := hb x s _ w
    exact ⟨ρ2, js, fun B H Fr σ v Q w r k => hg B H Fr σ v Q (w.le le) r k, sw_mono hs (fun ρ3 ⟨s', n, l⟩ => ⟨_, l, s', Le.refl _, n⟩) (fun ρ3 ⟨s', n, l⟩ => hd s' ρ3 n l) (fun ρ3 ⟨s', n, l⟩ => ⟨_, l, s', Le.refl _, n⟩) fun _ z => z⟩
  · rintro ρ1 ⟨s, le, w⟩
    rw [List.drop_length] at w
    exact hd s ρ1 w le
theorem sw_vwhile {tb : TS} {step : σ → (σ → Prop) → (σ → Prop) → Prop} {Kf : σ → Prop} (env : σ → Env) (s0 : σ) (h0 : Le (env s0) ρ) (h : ∃ n, wpWhile step n s0 Kf)
    (hs : ∀ s N, step s N Kf → ∃ b, EvT K S tt (env s) b ∧ (b = true → StW K S tb (env s) { E with nx := fun ρ3 => ∃ s', N s' ∧ Le (env s') ρ3, ct := fun ρ3 => ∃ s', N s' ∧ Le (env s') ρ3, bk := fun ρ3 => ∃ s', Kf s' ∧ Le (env s') ρ3 }) ∧ (b = false → Kf s))
    (hd : ∀ s ρ1, Kf s → Le (env s) ρ1 → E.nx ρ1) : StW K S (tWhile tt tb) ρ E := by
  obtain ⟨n, h⟩ := h
  refine sw_whileD (fun m ρ1 => ∃ s, Le (env s) ρ1 ∧ wpWhile step m s Kf) ⟨n, s0, h0, h⟩ fun m ρ1 ⟨s, le, w⟩ => ?_
  cases m with
  | zero => exact w.elim
  | succ m =>
    obtain ⟨b, ht, h1, h2⟩ := hs s _ w
    refine ⟨b, fun B H Fr σ R wd k => ht B H Fr σ R (wd.le le) fun B' H' g => k B' H' g, fun e => sw_le le (sw_mono (h1 e) (fun ρ3 ⟨s', n, l⟩ => ⟨m, _, Nat.lt_succ_self _, l, s', Le.refl _, n⟩) (fun ρ3 ⟨s', n, l⟩ => hd s' ρ3 n l) (fun ρ3 ⟨s', n, l⟩ => ⟨m, _, Nat.lt_succ_self _, l, s', Le.refl _, n⟩) fun _ z => z), fun e => hd s ρ1 (h2 e) le⟩
/-! three at once, owned or not -/
theorem Wd.putO {B H : Hp} {Fr : Set'} {σ : L2.St} {v : V} {o : O} {F : Set'} {B0 H0 : Hp} (w : Wd K S B0 H0 Fr σ ρ) (g : Gr B0 H0 B H) (q : Ow K S B H v o F) (n : ∀ a, F a → H0 a = none) (i : Nat) : Wd K S B H Fr (σ.set i (some v)) (ρ.set i (some o)) :=
  (w.growAdd g (G := F) (fun a ha => q.there a ha) n).put q (fun a ha hf => (w.fr a hf).2 (n a ha)) i
theorem sw_par3O {o1 o2 o3 : O} (h1 : EvO K S ta ρ o1) (h2 : EvO K S tb ρ o2) (h3 : EvO K S tc ρ o3) (k : E.nx (((ρ.set i (some o1)).set j (some o2)).set l (some o3))) : StW K S (tPar3 i j l (tCons ta (tCons tb (tCons tc tNil)))) ρ E := fun B H Fr σ D w kk =>
  h1 B H Fr σ _ w fun v F1 B1 H1 g1 q1 n1 => h2 B1 H1 Fr σ _ (w.grow g1) fun u F2 B2 H2 g2 q2 n2 => h3 B2 H2 Fr σ _ ((w.grow g1).grow g2) fun t F3 B3 H3 g3 q3 n3 => by
    refine ⟨v, u, t, rfl, kk.nx _ _ B3 H3 k (((g1.trans g2).trans g3).aft w) ?_⟩
    have w1 := w.growAdd g1 (G := F1) (fun a ha => q1.there a ha) n1
    have w2 := w1.growAdd g2 (G := F2) (fun a ha => q2.there a ha) n2
    have w3 := w2.growAdd g3 (G := F3) (fun a ha => q3.there a ha) n3
    have q1' := (q1.grow g2).grow g3
    have q2' := q2.grow g3
    have d1 : ∀ a, F1 a → ¬ Fr a := fun a ha hf => (w.fr a hf).2 (n1 a ha)
    have t1 : ∀ a, F1 a → H1 a ≠ none := fun a ha => (q1.there a ha).2
    have t2 : ∀ a, F2 a → H2 a ≠ none := fun a ha => (q2.there a ha).2
    have d2 : ∀ a, F2 a → ¬ (Fr a ∨ F1 a) := fun a ha hf => hf.elim (fun z => (w1.fr a (.inl z)).2 (n2 a ha)) fun z => t1 a z (n2 a ha)
    have d3 : ∀ a, F3 a → ¬ ((Fr a ∨ F1 a) ∨ F2 a) := fun a ha hf => hf.elim (fun z => (w2.fr a (.inl z)).2 (n3 a ha)) fun z => t2 a z (n3 a ha)
    have wr : Wd K S B3 H3 (fun a => ((Fr a ∨ F3 a) ∨ F2 a) ∨ F1 a) σ ρ := w3.less fun a h => by
      rcases h with ((h | h) | h) | h
      · exact .inl (.inl (.inl h))
      · exact .inr h
      · exact .inl (.inr h)
      · exact .inl (.inl (.inr h))
    have a1 := wr.put (Fr := fun a => (Fr a ∨ F3 a) ∨ F2 a) q1' (fun a ha hf => by
      rcases hf with (h | h) | h
      · exact d1 a ha h
      · exact d3 a h (.inl (.inr ha))
      · exact d2 a h (.inr ha)) i
    have a2 := a1.put (Fr := fun a => Fr a ∨ F3 a) q2' (fun a ha hf => by
      rcases hf with h | h
      · exact d2 a ha (.inl h)
      · exact d3 a h (.inr ha)) j
    exact a2.put (Fr := Fr) q3 (fun a ha hf => d3 a ha (.inl (.inl hf))) l
/-! several at once: owned or not, drawn or not -/
/-- what is met: a tree f x with Q x; the slots stay -/
def EvZ (K : PySem.W.Frag) (S : Option (Addr × Addr)) (te : TE) (ρ : Env) (f : α → O) (Q : α → Prop) : Prop := EvW K S te ρ fun o ρ1 => ρ1 = ρ ∧ ∃ x, o = f x ∧ Q x
theorem ez_p (f : α → O) {v : α} (h : EvO K S te ρ (f v)) : EvZ K S te ρ f fun x => x = v := h.w ⟨rfl, v, rfl, rfl⟩
theorem ez_n {P : α → Prop} (h : EvN K S te ρ (NT f P)) : EvZ K S te ρ (fun x => .d (f x)) P := h.w fun d ⟨y, e, p⟩ => ⟨rfl, y, by rw [e], p⟩
abbrev Itm := V × O × Set'
structure Its (K : PySem.W.Frag) (S : Option (Addr × Addr)) (B H : Hp) (Fr : Set') (its : List Itm) : Prop where
  ow : ∀ t ∈ its, Ow K S B H t.1 t.2.1 t.2.2
  ap : its.Pairwise fun t u => ∀ a, t.2.2 a → ¬ u.2.2 a
  nf : ∀ t ∈ its, ∀ a, t.2.2 a → ¬ Fr a
abbrev itsF (its : List Itm) : Set' := fun a => ∃ t ∈ its, t.2.2 a
def EvWA (K : PySem.W.Frag) (S : Option (Addr × Addr)) (tr : TA) (ρ : Env) (Q : List O → Prop) : Prop := ∀ (B H : Hp) (Fr : Set') (σ : L2.St) (R : List V → Hp → Prop), Wd K S B H Fr σ ρ →
  (∀ (its : List Itm) B' H', Q (its.map fun t => t.2.1) → Aft S B H Fr B' H' → Its K S B' H' Fr its → Wd K S B' H' (fun a => Fr a ∨ itsF its a) σ ρ → R (its.map fun t => t.1) H') → tr σ H R
theorem Aft.ow {B H B' H' : Hp} {Fr F : Set'} {v : V} {o : O} (a : Aft S B H Fr B' H') (q : Ow K S B H v o F) (s : ∀ x, F x → Fr x) : Ow K S B' H' v o F :=
  q.move a.b (fun x hx => (a.fr x (s x hx)).2) fun x hx => (a.fr x (s x hx)).1
theorem ewa_nil {Q : List O → Prop} (q : Q []) : EvWA K S tNil ρ Q := fun B H Fr σ R w k => k [] B H q (Aft.refl w) ⟨fun _ z => (by cases z), .nil, fun _ z => (by cases z)⟩ (w.less fun a z => z.elim id fun ⟨_, h, _⟩ => by cases h)
theorem ewa_cons {tr : TA} {Q1 : O → Prop} {Q2 : List O → Prop} (h : EvW K S ta ρ fun o ρ1 => ρ1 = ρ ∧ Q1 o) (hr : EvWA K S tr ρ Q2) : EvWA K S (tCons ta tr) ρ fun os => ∃ o r, os = o :: r ∧ Q1 o ∧ Q2 r := fun B H Fr σ R w k =>
  h B H Fr σ _ w fun v o F ρ1 B1 H1 ⟨e, q1⟩ a1 ow1 n1 w1 => by
    subst e
    refine hr B1 H1 (fun a => Fr a ∨ F a) σ _ w1 fun its B2 H2 q2 a2 i2 w2 => ?_
    have a1' : Aft S B H Fr B1 H1 := a1
    have a2' : Aft S B1 H1 Fr B2 H2 := ⟨a2.b, a2.sub, fun a ha => a2.fr a (.inl ha), a2.src⟩
    refine k ((v, o, F) :: its) B2 H2 ⟨o, _, rfl, q1, q2⟩ (a1'.trans a2') ⟨fun t ht => ?_, ?_, fun t ht a ha => ?_⟩ (w2.less fun a z => ?_)
    · rcases List.mem_cons.mp ht with rfl | ht
      · exact a2.ow ow1 fun x hx => .inr hx
      · exact i2.ow t ht
    · exact List.pairwise_cons.mpr ⟨fun u hu a ha hb => i2.nf u hu a hb (.inr ha), i2.ap⟩
    · rcases List.mem_cons.mp ht with rfl | ht
      · exact n1 a ha
      · exact fun z => i2.nf t ht a ha (.inl z)
    · rcases z with z | ⟨t, ht, ha⟩
      · exact .inl (.inl z)
      · rcases List.mem_cons.mp ht with rfl | ht
        · exact .inl (.inr ha)
        · exact .inr ⟨t, ht, ha⟩
def sets {β : Type} : List (Option β) → List Nat → List β → List (Option β)
  | σ, j :: js, x :: xs => sets (σ.set j (some x)) js xs
  | σ, _, _ => σ
theorem Wd.puts {B H : Hp} {Fr : Set'} : ∀ (its : List Itm) (js : List Nat) (σ : L2.St) (ρ : Env), its.length = js.length → Its K S B H Fr its → Wd K S B H (fun a => Fr a ∨ itsF its a) σ ρ → Wd K S B H Fr (sets σ js (its.map fun t => t.1)) (sets ρ js (its.map fun t => t.2.1))
  | [], [], σ, ρ, _, _, w => w.less fun a z => .inl z
  | t :: its, j :: js, σ, ρ, hl, i, w => by
    obtain ⟨p1, p2⟩ := List.pairwise_cons.mp i.ap
    have w1 : Wd K S B H (fun a => (Fr a ∨ itsF its a) ∨ t.2.2 a) σ ρ := w.less fun a z => by
      rcases z with (z | ⟨u, hu, ha⟩) | z
      · exact .inl z
      · exact .inr ⟨u, by simp [hu], ha⟩
      · exact .inr ⟨t, by simp, z⟩
    have w2 := w1.put (Fr := fun a => Fr a ∨ itsF its a) (i.ow t (by simp)) (fun a ha z => by
      rcases z with z | ⟨u, hu, hb⟩
      · exact i.nf t (by simp) a ha z
      · exact p1 u hu a ha hb) j
    exact Wd.puts its js _ _ (by simpa using hl) ⟨fun u hu => i.ow u (by simp [hu]), p2, fun u hu => i.nf u (by simp [hu])⟩ w2
  | [], _ :: _, _, _, hl, _, _ => by simp at hl
  | _ :: _, [], _, _, hl, _, _ => by simp at hl
theorem len2 {β : Type} {xs : List β} {a b : O} {f : β → O} (h : xs.map f = [a, b]) : ∃ x y, xs = [x, y] ∧ f x = a ∧ f y = b := by
  match xs, h with
  | [x, y], h => simp at h; exact ⟨x, y, rfl, h.1, h.2⟩
theorem len3 {β : Type} {xs : List β} {a b c : O} {f : β → O} (h : xs.map f = [a, b, c]) : ∃ x y z, xs = [x, y, z] ∧ f x = a ∧ f y = b ∧ f z = c := by
  match xs, h with
  | [x, y, z], h => simp at h; exact ⟨x, y, z, rfl, h⟩
theorem len4 {β : Type} {xs : List β} {a b c d : O} {f : β → O} (h : xs.map f = [a, b, c, d]) : ∃ x y z u, xs = [x, y, z, u] ∧ f x = a ∧ f y = b ∧ f z = c ∧ f u = d := by
  match xs, h with
  | [x, y, z, u], h => simp at h; exact ⟨x, y, z, u, rfl, h⟩
theorem ewa2 {f1 : α → O} {f2 : β → O} {Q1 : α → Prop} {Q2 : β → Prop} (h1 : EvZ K S ta ρ f1 Q1) (h2 : EvZ K S tb ρ f2 Q2) : EvWA K S (tCons ta (tCons tb tNil)) ρ fun os => ∃ x y, os = [f1 x, f2 y] ∧ Q1 x ∧ Q2 y := fun B H Fr σ R w k =>
  ewa_cons (Q1 := fun o => ∃ x, o = f1 x ∧ Q1 x) h1 (ewa_cons (Q1 := fun o => ∃ x, o = f2 x ∧ Q2 x) h2 (ewa_nil (Q := fun os => os = []) rfl)) B H Fr σ R w fun its B' H' ⟨o, r, e, ⟨x, ex, qx⟩, o2, r2, e2, ⟨y, ey, qy⟩, e3⟩ => k its B' H' ⟨x, y, by rw [e, e2, e3, ex, ey], qx, qy⟩
theorem ewa3 {f1 : α → O} {f2 : β → O} {f3 : γ → O} {Q1 : α → Prop} {Q2 : β → Prop} {Q3 : γ → Prop} (h1 : EvZ K S ta ρ f1 Q1) (h2 : EvZ K S tb ρ f2 Q2) (h3 : EvZ K S tc ρ f3 Q3) : EvWA K S (tCons ta (tCons tb (tCons tc tNil))) ρ fun os => ∃ x y z, os = [f1 x, f2 y, f3 z] ∧ Q1 x ∧ Q2 y ∧ Q3 z := fun B H Fr σ R w k =>
  ewa_cons (Q1 := fun o => ∃ x, o = f1 x ∧ Q1 x) h1 (ewa2 h2 h3) B H Fr σ R w fun its B' H' ⟨o, r, e, ⟨x, ex, qx⟩, y, z, e2, qy, qz⟩ => k its B' H' ⟨x, y, z, by rw [e, e2, ex], qx, qy, qz⟩
theorem ewa4 {δ : Type} {td : TE} {f1 : α → O} {f2 : β → O} {f3 : γ → O} {f4 : δ → O} {Q1 : α → Prop} {Q2 : β → Prop} {Q3 : γ → Prop} {Q4 : δ → Prop} (h1 : EvZ K S ta ρ f1 Q1) (h2 : EvZ K S tb ρ f2 Q2) (h3 : EvZ K S tc ρ f3 Q3) (h4 : EvZ K S td ρ f4 Q4) : EvWA K S (tCons ta (tCons tb (tCons tc (tCons td tNil)))) ρ fun os => ∃ x y z u, os = [f1 x, f2 y, f3 z, f4 u] ∧ Q1 x ∧ Q2 y ∧ Q3 z ∧ Q4 u := fun B H Fr σ R w k =>
  ewa_cons (Q1 := fun o => ∃ x, o = f1 x ∧ Q1 x) h1 (ewa3 h2 h3 h4) B H Fr σ R w fun its B' H' ⟨o, r, e, ⟨x, ex, qx⟩, y, z, u, e2, qy, qz, qu⟩ => k its B' H' ⟨x, y, z, u, by rw [e, e2, ex], qx, qy, qz, qu⟩
theorem sw_par2Z {f1 : α → O} {f2 : β → O} {Q1 : α → Prop} {Q2 : β → Prop} (h1 : EvZ K S ta ρ f1 Q1) (h2 : EvZ K S tb ρ f2 Q2) (k : ∀ x y, Q1 x → Q2 y → E.nx ((ρ.set i (some (f1 x))).set j (some (f2 y)))) : StW K S (tPar i j (tCons ta (tCons tb tNil))) ρ E := fun B H Fr σ D w kk =>
  ewa2 h1 h2 B H Fr σ _ w fun its B' H' ⟨x, y, e, qx, qy⟩ a i1 w1 => by
    obtain ⟨t, u, rfl, rfl', e2⟩ := len2 e
    exact ⟨t.1, u.1, rfl, kk.nx _ _ B' H' (by have := k x y qx qy; rwa [← rfl', ← e2] at this) a (Wd.puts [t, u] [i, j] σ ρ rfl i1 w1)⟩
theorem sw_par3Z {f1 : α → O} {f2 : β → O} {f3 : γ → O} {Q1 : α → Prop} {Q2 : β → Prop} {Q3 : γ → Prop} (h1 : EvZ K S ta ρ f1 Q1) (h2 : EvZ K S tb ρ f2 Q2) (h3 : EvZ K S tc ρ f3 Q3) (k : ∀ x y z, Q1 x → Q2 y → Q3 z → E.nx (((ρ.set i (some (f1 x))).set j (some (f2 y))).set l (some (f3 z)))) : StW K S (tPar3 i j l (tCons ta (tCons tb (tCons tc tNil)))) ρ E := fun B H Fr σ D w kk =>
  ewa3 h1 h2 h3 B H Fr σ _ w fun its B' H' ⟨x, y, z, e, qx, qy, qz⟩ a i1 w1 => by
    obtain ⟨t, u, v, rfl, e1, e2, e3⟩ := len3 e
    exact ⟨t.1, u.1, v.1, rfl, kk.nx _ _ B' H' (by have := k x y z qx qy qz; rwa [← e1, ← e2, ← e3] at this) a (Wd.puts [t, u, v] [i, j, l] σ ρ rfl i1 w1)⟩
/-- a tuple is made and taken apart -/
theorem tup_puts {tr : TA} {Q : List O → Prop} {js : List Nat} {g : TGs} (h : EvWA K S tr ρ Q) (hn : ∀ os, Q os → os.length = js.length) (hz : js.length ≤ 100) (hg : ∀ (vs : List V) (σ : L2.St) (H : Hp) (Qs : L2.St → Hp → Prop), vs.length = js.length → Qs (sets σ js vs) H → g vs σ H Qs) (k : ∀ os, Q os → E.nx (sets ρ js os)) : StW K S (tAsg (tTup tr) (gTup K js.length g)) ρ E := fun B H Fr σ D w kk =>
  h B H Fr σ _ w fun its B' H' q a i1 w1 => by
    have hl : its.length = js.length := by have := hn _ q; simpa using this
    refine ⟨by rw [List.length_map, hl, sizeLine_eq]; omega, fun p hp => ⟨p, _, rfl, .inl (.inl upd_same), by rw [List.length_map, hl], ?_⟩⟩
    refine hg (its.map fun t => t.1) σ _ _ (by rw [List.length_map, hl]) ?_
    have g1 : Gr B' H' B' (upd H' p (.tup (its.map fun t => t.1))) := Gr.made a.sub _ hp
    have i2 : Its K S B' (upd H' p (.tup (its.map fun t => t.1))) Fr its := ⟨fun t ht => (i1.ow t ht).grow g1, i1.ap, i1.nf⟩
    exact kk.nx _ _ B' _ (k _ q) (a.trans (g1.aft (w1.less fun a z => .inl z))) (Wd.puts its js σ ρ hl i2 (w1.grow g1))
theorem sw_tup2Z {f1 : α → O} {f2 : β → O} {Q1 : α → Prop} {Q2 : β → Prop} (h1 : EvZ K S ta ρ f1 Q1) (h2 : EvZ K S tb ρ f2 Q2) (k : ∀ x y, Q1 x → Q2 y → E.nx ((ρ.set i (some (f1 x))).set j (some (f2 y)))) : StW K S (tAsg (tTup (tCons ta (tCons tb tNil))) (gTup K 2 (gCons (gName i) (gCons (gName j) gNil)))) ρ E :=
  tup_puts (js := [i, j]) (ewa2 h1 h2) (fun os ⟨x, y, e, _⟩ => by rw [e]; rfl) (by simp) (fun vs σ H Qs hl q => by
    match vs, hl, q with
    | [v, u], _, q => exact ⟨v, [u], rfl, u, [], rfl, rfl, q⟩) fun os ⟨x, y, e, q1, q2⟩ => by subst e; exact k x y q1 q2
theorem sw_tup3Z {f1 : α → O} {f2 : β → O} {f3 : γ → O} {Q1 : α → Prop} {Q2 : β → Prop} {Q3 : γ → Prop} (h1 : EvZ K S ta ρ f1 Q1) (h2 : EvZ K S tb ρ f2 Q2) (h3 : EvZ K S tc ρ f3 Q3) (k : ∀ x y z, Q1 x → Q2 y → Q3 z → E.nx (((ρ.set i (some (f1 x))).set j (some (f2 y))).set l (some (f3 z)))) : StW K S (tAsg (tTup (tCons ta (tCons tb (tCons tc tNil)))) (gTup K 3 (gCons (gName i) (gCons (gName j) (gCons (gName l) gNil))))) ρ E :=
  tup_puts (js := [i, j, l]) (ewa3 h1 h2 h3) (fun os ⟨x, y, z, e, _⟩ => by rw [e]; rfl) (by simp) (fun vs σ H Qs hl q => by
    match vs, hl, q with
    | [v, u, t], _, q => exact ⟨v, [u, t], rfl, u, [t], rfl, t, [], rfl, rfl, q⟩) fun os ⟨x, y, z, e, q1, q2, q3⟩ => by subst e; exact k x y z q1 q2 q3
theorem sw_tup4Z {δ : Type} {td : TE} {m : Nat} {f1 : α → O} {f2 : β → O} {f3 : γ → O} {f4 : δ → O} {Q1 : α → Prop} {Q2 : β → Prop} {Q3 : γ → Prop} {Q4 : δ → Prop} (h1 : EvZ K S ta ρ f1 Q1) (h2 : EvZ K S tb ρ f2 Q2) (h3 : EvZ K S tc ρ f3 Q3) (h4 : EvZ K S td ρ f4 Q4) (k : ∀ x y z u, Q1 x → Q2 y → Q3 z → Q4 u → E.nx ((((ρ.set i (some (f1 x))).set j (some (f2 y))).set l (some (f3 z))).set m (some (f4 u)))) : StW K S (tAsg (tTup (tCons ta (tCons tb (tCons tc (tCons td tNil))))) (gTup K 4 (gCons (gName i) (gCons (gName j) (gCons (gName l) (gCons (gName m) gNil)))))) ρ E :=
  tup_puts (js := [i, j, l, m]) (ewa4 h1 h2 h3 h4) (fun os ⟨x, y, z, u, e, _⟩ => by rw [e]; rfl) (by simp) (fun vs σ H Qs hl q => by
    match vs, hl, q with
    | [v, u, t, r], _, q => exact ⟨v, [u, t, r], rfl, u, [t, r], rfl, t, [r], rfl, r, [], rfl, rfl, q⟩) fun os ⟨x, y, z, u, e, q1, q2, q3, q4⟩ => by subst e; exact k x y z u q1 q2 q3 q4
end
end DL

set_option Elab.async false
set_option linter.all false
set_option maxRecDepth 100000
set_option maxHeartbeats 2000000
/-! VR: further rules for the generated walk -/
namespace DL
open PySem PySem.Spec PyProof.Rows L2
open Evl (Ex Ex.refl Ex.trans Ex.new Ex.mut)
section
variable {K : PySem.W.Frag} {S : Option (Addr × Addr)} {ρ : Env} {ta tb tc te ti : TE} {tt tu : TT} {ts us : TS} {α β γ σ : Type} {f : α → D} {i j l : Nat} {E : DE} {d e : D}
theorem le_sz {n : Nat} (h : n ≤ 16000000) : n ≤ sizeLine := by rw [sizeLine_eq]; omega
theorem lt_sz {n : Nat} (h : n < 16000000) : n < sizeLine := by rw [sizeLine_eq]; omega
/-! more kinds of data -/
theorem eqd_U : EqD encU := fun x y => by simp [encU, PyData.eqv]
theorem shd_U {n : Nat} : ShD n encU := fun _ => sh_none
theorem shd_Q {n : Nat} (h : ShD n f) : ShD n (encQ f) := fun x => by cases x with | none => exact sh_none | some x => exact h x
theorem eqd_p1 [DecidableEq α] (h : EqD f) : EqD (p1 f) := fun x y => by simp [PyData.eqv, PyData.eqvAll, h x y]
theorem shd_p1 {n : Nat} (h : ShD n f) : ShD (n + 1) (p1 f) := fun x => sh_1 (h x)
theorem sh_5 {n : Nat} {a b c d e : D} (h : Sh n a) (h2 : Sh n b) (h3 : Sh n c) (h4 : Sh n d) (h5 : Sh n e) : Sh (n + 1) (.tuple [a, b, c, d, e]) := sh_tup (by simp [h, h2, h3, h4, h5])
theorem shd_p5 {n : Nat} {δ ε : Type} {g : β → D} {h : γ → D} {k : δ → D} {m : ε → D} (h1 : ShD n f) (h2 : ShD n g) (h3 : ShD n h) (h4 : ShD n k) (h5 : ShD n m) : ShD (n + 1) (p5 f g h k m) := fun x => sh_5 (h1 _) (h2 _) (h3 _) (h4 _) (h5 _)
theorem eqd_p5 {δ ε : Type} {g : β → D} {h : γ → D} {k : δ → D} {m : ε → D} [DecidableEq α] [DecidableEq β] [DecidableEq γ] [DecidableEq δ] [DecidableEq ε] (h1 : EqD f) (h2 : EqD g) (h3 : EqD h) (h4 : EqD k) (h5 : EqD m) : EqD (p5 f g h k m) := fun x y => by
  simp only [p5, PyData.eqv, PyData.eqvAll, h1 x.1 y.1, h2 x.2.1 y.2.1, h3 x.2.2.1 y.2.2.1, h4 x.2.2.2.1 y.2.2.2.1, h5 x.2.2.2.2 y.2.2.2.2, Bool.and_true, ← Bool.decide_and]
  exact decide_eq_decide.mpr ⟨fun h => by obtain ⟨_, _, _, _, _⟩ := x; obtain ⟨_, _, _, _, _⟩ := y; simp_all, fun h => by subst h; simp⟩
/-! lists of unlike things -/
theorem shd_y1 {n : Nat} (h : ShD n f) : ShD (n + 1) (y1 f) := fun x => sh_lst (by simp [h x])
theorem shd_y2 {n : Nat} {g : β → D} (h1 : ShD n f) (h2 : ShD n g) : ShD (n + 1) (y2 f g) := fun x => sh_lst (by simp [h1 _, h2 _])
theorem shd_y3 {n : Nat} {g : β → D} {h : γ → D} (h1 : ShD n f) (h2 : ShD n g) (h3 : ShD n h) : ShD (n + 1) (y3 f g h) := fun x => sh_lst (by simp [h1 _, h2 _, h3 _])
theorem shd_y4 {n : Nat} {δ : Type} {g : β → D} {h : γ → D} {k : δ → D} (h1 : ShD n f) (h2 : ShD n g) (h3 : ShD n h) (h4 : ShD n k) : ShD (n + 1) (y4 f g h k) := fun x => sh_lst (by simp [h1 _, h2 _, h3 _, h4 _])
theorem shd_y5 {n : Nat} {δ ε : Type} {g : β → D} {h : γ → D} {k : δ → D} {m : ε → D} (h1 : ShD n f) (h2 : ShD n g) (h3 : ShD n h) (h4 : ShD n k) (h5 : ShD n m) : ShD (n + 1) (y5 f g h k m) := fun x => sh_lst (by simp [h1 _, h2 _, h3 _, h4 _, h5 _])
theorem eqd_y1 [DecidableEq α] (h : EqD f) : EqD (y1 f) := fun x y => by simp [PyData.eqv, PyData.eqvAll, h x y]
theorem eqd_y2 {g : β → D} [DecidableEq α] [DecidableEq β] (h1 : EqD f) (h2 : EqD g) : EqD (y2 f g) := fun x y => by
  simp only [y2, PyData.eqv, PyData.eqvAll, h1 x.1 y.1, h2 x.2 y.2, Bool.and_true, ← Bool.decide_and]
  exact decide_eq_decide.mpr ⟨fun h => by obtain ⟨_, _⟩ := x; obtain ⟨_, _⟩ := y; simp_all, fun h => by subst h; simp⟩
theorem eqd_y3 {g : β → D} {h : γ → D} [DecidableEq α] [DecidableEq β] [DecidableEq γ] (h1 : EqD f) (h2 : EqD g) (h3 : EqD h) : EqD (y3 f g h) := fun x y => by
  simp only [y3, PyData.eqv, PyData.eqvAll, h1 x.1 y.1, h2 x.2.1 y.2.1, h3 x.2.2 y.2.2, Bool.and_true, ← Bool.decide_and]
  exact decide_eq_decide.mpr ⟨fun h => by obtain ⟨_, _, _⟩ := x; obtain ⟨_, _, _⟩ := y; simp_all, fun h => by subst h; simp⟩
theorem eqd_y4 {δ : Type} {g : β → D} {h : γ → D} {k : δ → D} [DecidableEq α] [DecidableEq β] [DecidableEq γ] [DecidableEq δ] (h1 : EqD f) (h2 : EqD g) (h3 : EqD h) (h4 : EqD k) : EqD (y4 f g h k) := fun x y => by
  simp only [y4, PyData.eqv, PyData.eqvAll, h1 x.1 y.1, h2 x.2.1 y.2.1, h3 x.2.2.1 y.2.2.1, h4 x.2.2.2 y.2.2.2, Bool.and_true, ← Bool.decide_and]
  exact decide_eq_decide.mpr ⟨fun h => by obtain ⟨_, _, _, _⟩ := x; obtain ⟨_, _, _, _⟩ := y; simp_all, fun h => by subst h; simp⟩
/-! order -/
theorem ord_p1 [DecidableEq α] {lt : α → α → Bool} (e : EqD f) (o : OrdD f lt) : OrdD (p1 f) lt := ord_tup (ordl_1 e o)
theorem ord_bool : OrdD PyData.bool ltB := ⟨fun a b => by simp only [PySem.W.alike], fun a e => (by cases e), fun a b => by rw [PySem.W.dataLt_bool]; cases a <;> cases b <;> rfl⟩
theorem r2_ltO {lt : α → α → Bool} {x y : α} {n : Nat} (o : OrdD f lt) (s : ShD n f) (hn : n ≤ 60 := by decide) : R2D K S (rLtX K (fun i j => decide (i < j)) PySem.W.dataLt) (f x) (f y) (.d (.bool (lt x y))) := fun B H v u R ex r1 r2 k =>
  .inr ⟨f x, f y, r1.mono ex, r2.mono ex, o.al x y, o.nn x, (s x).1, (s y).1, Nat.le_trans (s x).2 hn, k.val ex (by (try dsimp only); rw [o.lt]; exact .bl _)⟩
theorem r2_gtO {lt : α → α → Bool} {x y : α} {n : Nat} (o : OrdD f lt) (s : ShD n f) (hn : n ≤ 60 := by decide) : R2D K S (rLtX K (fun i j => decide (j < i)) fun d e => PySem.W.dataLt e d) (f x) (f y) (.d (.bool (lt y x))) := fun B H v u R ex r1 r2 k =>
  .inr ⟨f x, f y, r1.mono ex, r2.mono ex, o.al x y, o.nn x, (s x).1, (s y).1, Nat.le_trans (s x).2 hn, k.val ex (by (try dsimp only); rw [o.lt]; exact .bl _)⟩
theorem r2_leO {lt : α → α → Bool} {x y : α} {n : Nat} (o : OrdD f lt) (s : ShD n f) (hn : n ≤ 60 := by decide) : R2D K S (rLtX K (fun i j => decide (i ≤ j)) fun d e => !PySem.W.dataLt e d) (f x) (f y) (.d (.bool (!lt y x))) := fun B H v u R ex r1 r2 k =>
  .inr ⟨f x, f y, r1.mono ex, r2.mono ex, o.al x y, o.nn x, (s x).1, (s y).1, Nat.le_trans (s x).2 hn, k.val ex (by (try dsimp only); rw [o.lt]; exact .bl _)⟩
theorem r2_geO {lt : α → α → Bool} {x y : α} {n : Nat} (o : OrdD f lt) (s : ShD n f) (hn : n ≤ 60 := by decide) : R2D K S (rLtX K (fun i j => decide (j ≤ i)) fun d e => !PySem.W.dataLt d e) (f x) (f y) (.d (.bool (!lt x y))) := fun B H v u R ex r1 r2 k =>
  .inr ⟨f x, f y, r1.mono ex, r2.mono ex, o.al x y, o.nn x, (s x).1, (s y).1, Nat.le_trans (s x).2 hn, k.val ex (by (try dsimp only); rw [o.lt]; exact .bl _)⟩
/-! None -/
theorem isNon_Q (h : ∀ x, f x = .none → False) (x : Option α) : isNon (encQ f x) = x.isNone := by
  cases x with
  | none => rfl
  | some x =>
    show isNon (f x) = false
    cases e : f x <;> first | rfl | exact (h x e).elim
theorem isNon_F (h : ∀ x, f x = .none → False) (x : α) : isNon (f x) = false := isNon_Q h (some x)
theorem r2_isNQ {x : Option α} (h : ∀ x, f x = .none → False) : R2D K S (fun x y H Q => y = .non ∧ Q (.bl (decide (x = .non))) H) (encQ f x) .none (.d (.bool x.isNone)) := by have := r2_isN (K := K) (S := S) (d := encQ f x); rwa [isNon_Q h] at this
theorem r2_notNQ {x : Option α} (h : ∀ x, f x = .none → False) : R2D K S (fun x y H Q => y = .non ∧ Q (.bl (!decide (x = .non))) H) (encQ f x) .none (.d (.bool (!x.isNone))) := by have := r2_notN (K := K) (S := S) (d := encQ f x); rwa [isNon_Q h] at this
theorem r2_isNF {x : α} (h : ∀ x, f x = .none → False) : R2D K S (fun x y H Q => y = .non ∧ Q (.bl (decide (x = .non))) H) (f x) .none (.d (.bool false)) := by have := r2_isN (K := K) (S := S) (d := f x); rwa [isNon_F h] at this
theorem r2_notNF {x : α} (h : ∀ x, f x = .none → False) : R2D K S (fun x y H Q => y = .non ∧ Q (.bl (!decide (x = .non))) H) (f x) .none (.d (.bool true)) := by have := r2_notN (K := K) (S := S) (d := f x); rwa [isNon_F h] at this
/-! subscripts -/
theorem r2_ixP2 {p : α × α} {k : Int} (h0 : 0 ≤ k) (h : k < 2) : R2D K S (rIxX K) (p2 f f p) (.int k) (.d (f (pix p k))) := by
  have : k = 0 ∨ k = 1 := by omega
  rcases this with rfl | rfl <;> exact r2_ixT rfl
theorem atI_N [Inhabited α] {xs : List α} {k : Nat} (hk : 0 < k) (h : k ≤ xs.length) : atI (xs.map f) (-(k : Int)) = some (f (gi xs (xs.length - (k : Int)))) := by
  have h2 := atI_gi (xs := xs) (f := f) (i := xs.length - (k : Int)) (by omega) (by omega)
  unfold atI at h2 ⊢
  have e : ixN (xs.map f).length (-(k : Int)) = ixN (xs.map f).length (xs.length - (k : Int)) := by
    unfold ixN
    rw [List.length_map, if_neg (by omega), if_pos (by omega), if_pos (by omega), if_pos (by omega)]
    congr 1
    omega
  rw [e]; exact h2
theorem r2_ixNT [Inhabited α] {xs : List α} {k : Nat} (hk : 0 < k) (h : k ≤ xs.length) : R2D K S (rIxX K) (tM f xs) (.int (-(k : Int))) (.d (f (gi xs (xs.length - (k : Int))))) := r2_ixT (atI_N hk h)
theorem r2_ixNL [Inhabited α] {xs : List α} {k : Nat} (hk : 0 < k) (h : k ≤ xs.length) : R2D K S (rIxX K) (lM f xs) (.int (-(k : Int))) (.d (f (gi xs (xs.length - (k : Int))))) := r2_ixL (atI_N hk h)
theorem r2_mulTM {xs : List α} {n : Int} (h0 : xs ≠ []) (h1 : 2 ≤ n) (h2 : n ≤ 1000) (h3 : xs.length ≤ 1000) : R2D K S (rMulD K) (tM f xs) (.int n) (.d (tM f (List.replicate n.toNat xs).flatten)) := by
  have := r2_mulT (K := K) (S := S) (xs := xs.map f) (by simpa using h0) h1 h2 (by simpa using h3)
  have e : (List.replicate n.toNat (xs.map f)).flatten = ((List.replicate n.toNat xs).flatten).map f := by rw [List.map_flatten, List.map_replicate]
  rwa [e] at this
/-! ranges -/
theorem ei_rngV {tr : TA} {n : Int} (h : EvA K S tr ρ [.int n]) (h0 : -(2 ^ 62) ≤ n) (hn : n ≤ 16000000) : EvI K S (iRng1 tr) ρ ((List.range n.toNat).map fun i : Nat => .int (i : Int)) := by
  have := ei_rng1 h h0 hn
  unfold rangeD at this
  simpa using this
theorem ei_rng2V {tr : TA} {a b : Int} (h : EvA K S tr ρ [.int a, .int b]) (hb : -(2 ^ 62) ≤ a ∧ a < 2 ^ 62 ∧ -(2 ^ 62) ≤ b ∧ b < 2 ^ 62 ∧ b - a ≤ 16000000) : EvI K S (iRng2 tr) ρ ((List.range (b - a).toNat).map fun i : Nat => .int (a + (i : Int))) :=
  ei_rng2 h ⟨hb.1, hb.2.1, hb.2.2.1, hb.2.2.2.1⟩ hb.2.2.2.2
theorem ev_lstRgV {n : Int} (h : EvD K S te ρ (.int n)) (h0 : -(2 ^ 62) ≤ n) (hn : n ≤ 16000000) : EvO K S (tLstRg (tRg1 te)) ρ (oL PyData.int ((List.range n.toNat).map fun i : Nat => (i : Int))) := fun B H Fr σ R w k => h.use w fun v B1 H1 g1 r => by
  cases r
  refine ⟨_, rfl, ⟨by omega, by omega, by omega, by omega, by omega⟩, fun p hp => ?_⟩
  have e : rgV 0 n = ((List.range n.toNat).map fun i : Nat => (i : Int)).map V.int := by unfold rgV; simp [Function.comp_def]
  have ra : RpAll K B1 (rgV 0 n) (((List.range n.toNat).map fun i : Nat => (i : Int)).map PyData.int) := by rw [e]; exact RpAll.of_ints
  have q := Ow.newList (S := S) (H := upd H1 p (.lst (rgV 0 n))) (fresh_of g1.sub hp) upd_same ra
  rw [List.map_map] at q
  exact k _ (fun a => a = p) B1 _ (g1.trans (Gr.made g1.sub _ hp)) q fun a e => e ▸ fresh_of g1.h hp
theorem ev_tupRgV {n : Int} (h : EvD K S te ρ (.int n)) (h0 : -(2 ^ 62) ≤ n) (hn : n ≤ 16000000) : EvD K S (tTupRg (tRg1 te)) ρ (tM PyData.int ((List.range n.toNat).map fun i : Nat => (i : Int))) := .mk fun B H Fr σ R w k => h.use w fun v B1 H1 g1 r => by
  cases r
  refine ⟨_, rfl, ⟨by omega, by omega, by omega, by omega, by omega⟩, fun p hp => ?_⟩
  have e : rgV 0 n = ((List.range n.toNat).map fun i : Nat => (i : Int)).map V.int := by unfold rgV; simp [Function.comp_def]
  have ra : RpAll K B1 (rgV 0 n) (((List.range n.toNat).map fun i : Nat => (i : Int)).map PyData.int) := by rw [e]; exact RpAll.of_ints
  exact k _ (upd B1 p (.tup (rgV 0 n))) _ (g1.trans (Gr.laid g1.sub _ hp)) (.tup upd_same (ra.mono (Ex.new (fresh_of g1.sub hp))))
/-! calls of built-ins -/
theorem rc_listLM {xs : List α} : RcD K S (rLstO K) [lM f xs] (oL f xs) := by have := rc_listL (K := K) (S := S) (ds := xs.map f); rwa [List.map_map] at this
theorem rc_listTM {xs : List α} : RcD K S (rLstO K) [tM f xs] (oL f xs) := by have := rc_listT (K := K) (S := S) (ds := xs.map f); rwa [List.map_map] at this
/-! drawn -/
theorem en_ofV {xs : List α} (b : Bool) {j : Nat} (hs : ρ[j]? = some (some .src)) (h : EvD K S te ρ (seqD b (xs.map f))) (h0 : xs ≠ []) (hn : xs.length < 2 ^ 62) : EvN K S (tCall (spOf K) [] E0 (tCons (tVar j) (tCons te tNil))) ρ (NT f fun y => y ∈ xs) :=
  en_call (b, xs.map f) hs (ea_cons h ea_nil) ⟨by simpa using h0, by simpa using hn⟩ fun d hd => by obtain ⟨x, hx, e⟩ := List.mem_map.mp hd; exact ⟨x, e.symm, hx⟩
theorem perm_map_inv {f : α → β} {ys l : List β} (h : ys.Perm l) : ∀ xs : List α, l = xs.map f → ∃ zs : List α, ys = zs.map f ∧ zs.Perm xs := by
  induction h with
  | nil => intro xs e; exact ⟨[], rfl, by cases xs with | nil => exact .nil | cons _ _ => simp at e⟩
  | cons a h ih =>
    intro xs e
    cases xs with
    | nil => simp at e
    | cons x xs =>
      rw [List.map_cons] at e
      injection e with e1 e2
      obtain ⟨zs, e3, p⟩ := ih xs e2
      exact ⟨x :: zs, by rw [List.map_cons, e1, e3], p.cons x⟩
  | swap a b l =>
    intro xs e
    match xs, e with
    | x :: y :: xs, e =>
      simp only [List.map_cons, List.cons.injEq] at e
      exact ⟨y :: x :: xs, by simp [e], List.Perm.swap _ _ _⟩
  | trans h1 h2 ih1 ih2 =>
    intro xs e
    obtain ⟨zs, e1, p1⟩ := ih2 xs e
    obtain ⟨us, e2, p2⟩ := ih1 zs e1
    exact ⟨us, e2, p2.trans p1⟩
theorem en_mixV {xs : List α} (b : Bool) {j : Nat} (hs : ρ[j]? = some (some .src)) (h : EvD K S te ρ (seqD b (xs.map f))) (hn : xs.length ≤ 100000) : EvN K S (tCall (spMix K) [] E0 (tCons (tVar j) (tCons te tNil))) ρ (NT (lM f) fun ys => ys.Perm xs) :=
  en_call (b, xs.map f) hs (ea_cons h ea_nil) (by simpa using hn) fun d ⟨ys, e, p⟩ => by
    obtain ⟨zs, e1, p1⟩ := perm_map_inv p xs rfl
    exact ⟨zs, by rw [e, e1], p1⟩
theorem en_callV {ok : α → Prop} {args : α → List D} {enc : β → D} {po : α → β → Prop} {tr : TA} (x : α) {j : Nat} (hs : ρ[j]? = some (some .src)) (ha : EvA K S tr ρ (args x)) (hx : ok x) : EvN K S (tCall (SpN K ok args fun x d => ∃ r, d = enc r ∧ po x r) [] E0 (tCons (tVar j) tr)) ρ (NT enc (po x)) :=
  en_call x hs ha hx fun d q => q
/-- a draw whose arguments are drawn -/
theorem en_callA {ok : α → Prop} {args : α → List D} {post : α → D → Prop} {tr : TA} {Qs : List D → Prop} {Q : D → Prop} {j : Nat} (hsrc : ρ[j]? = some (some .src)) (ha : EvAN K S tr ρ Qs) (hr : ∀ ds, Qs ds → ∃ x, ds = args x ∧ ok x ∧ ∀ d, post x d → Q d) :
    EvN K S (tCall (SpN K ok args post) [] E0 (tCons (tVar j) tr)) ρ Q := fun B H Fr σ R w k => by
  obtain ⟨v, F, e, qo, _⟩ := w.at hsrc
  cases qo with
  | src p q _ hS n =>
  refine ⟨.ref p, e, ha B H Fr σ _ w fun vs ds B1 H1 qs g1 r => ?_⟩
  obtain ⟨x, rfl, hx, hq⟩ := hr ds qs
  have w1 := w.growN g1
  obtain ⟨s, b1, b2, _⟩ := w1.src p q hS
  refine ⟨x, p, q, vs, B1, fun a => B1 a = none ∧ H1 a ≠ none ∧ ¬ SrcM S a, hx, by rw [List.append_nil], g1.sub, fun a h => ⟨h.1, h.2.1⟩, ⟨s, b1, b2, fun z => z.2.2 ⟨p, q, hS, .inl rfl⟩, fun z => z.2.2 ⟨p, q, hS, .inr rfl⟩⟩, r, fun v d B' H' pd a rv => ?_⟩
  exact k v d B' H' (hq d pd) (g1.trans ⟨a.b, a.sub, fun y h1 h2 n => a.fr y ⟨h2, h1, n⟩, fun p' q' e' => by rw [hS] at e'; cases e'; exact a.src p q rfl⟩) rv
theorem ean1 {P : α → Prop} (h : EvN K S ta ρ (NT f P)) : EvAN K S (tCons ta tNil) ρ fun ds => ∃ x, ds = [f x] ∧ P x := fun B H Fr σ R w k =>
  ean_cons h (ean_nil (Q := fun ds => ds = []) rfl) B H Fr σ R w fun vs ds B' H' ⟨d, r, e, ⟨x, ex, p⟩, e2⟩ => k vs ds B' H' ⟨x, by rw [e, e2, ex], p⟩
theorem ean2 {g : β → D} {P : α → Prop} {Q : β → Prop} (h : EvN K S ta ρ (NT f P)) (h2 : EvN K S tb ρ (NT g Q)) : EvAN K S (tCons ta (tCons tb tNil)) ρ fun ds => ∃ x y, ds = [f x, g y] ∧ P x ∧ Q y := fun B H Fr σ R w k =>
  ean_cons h (ean1 h2) B H Fr σ R w fun vs ds B' H' ⟨d, r, e, ⟨x, ex, p⟩, y, e2, q⟩ => k vs ds B' H' ⟨x, y, by rw [e, e2, ex], p, q⟩
theorem ean3 {g : β → D} {h : γ → D} {P : α → Prop} {Q : β → Prop} {R' : γ → Prop} (h1 : EvN K S ta ρ (NT f P)) (h2 : EvN K S tb ρ (NT g Q)) (h3 : EvN K S tc ρ (NT h R')) : EvAN K S (tCons ta (tCons tb (tCons tc tNil))) ρ fun ds => ∃ x y z, ds = [f x, g y, h z] ∧ P x ∧ Q y ∧ R' z := fun B H Fr σ R w k =>
  ean_cons h1 (ean2 h2 h3) B H Fr σ R w fun vs ds B' H' ⟨d, r, e, ⟨x, ex, p⟩, y, z, e2, q, q2⟩ => k vs ds B' H' ⟨x, y, z, by rw [e, e2, ex], p, q, q2⟩
theorem en_pickN {P : Int → Prop} {j : Nat} (hs : ρ[j]? = some (some .src)) (h : EvN K S te ρ (NT PyData.int P)) (hm : ∀ m, P m → m < 2 ^ 64) : EvN K S (tCall (spPick K) [] E0 (tCons (tVar j) (tCons te tNil))) ρ (NT PyData.int fun r => ∃ m, P m ∧ 0 ≤ r ∧ (r < m ∨ r = 0)) :=
  en_callA hs (ean1 h) fun ds ⟨m, e, p⟩ => ⟨m, e, hm m p, fun d ⟨r, e, q⟩ => ⟨r, e, m, p, q⟩⟩
theorem en_ofNV {P : List α → Prop} (b : Bool) {j : Nat} (hs : ρ[j]? = some (some .src)) (h : EvN K S te ρ (NT (fun xs : List α => seqD b (xs.map f)) P)) (hm : ∀ m, P m → m ≠ [] ∧ m.length < 2 ^ 62) : EvN K S (tCall (spOf K) [] E0 (tCons (tVar j) (tCons te tNil))) ρ (NT f fun y => ∃ m, P m ∧ y ∈ m) :=
  en_callA hs (ean1 h) fun ds ⟨m, e, p⟩ => ⟨(b, m.map f), e, ⟨by simpa using (hm m p).1, by simpa using (hm m p).2⟩, fun d hd => by obtain ⟨x, hx, e⟩ := List.mem_map.mp hd; exact ⟨x, e.symm, m, p, hx⟩⟩
theorem en_mixNV {P : List α → Prop} (b : Bool) {j : Nat} (hs : ρ[j]? = some (some .src)) (h : EvN K S te ρ (NT (fun xs : List α => seqD b (xs.map f)) P)) (hm : ∀ m, P m → m.length ≤ 100000) : EvN K S (tCall (spMix K) [] E0 (tCons (tVar j) (tCons te tNil))) ρ (NT (lM f) fun y => ∃ m, P m ∧ y.Perm m) :=
  en_callA hs (ean1 h) fun ds ⟨m, e, p⟩ => ⟨(b, m.map f), e, by simpa using hm m p, fun d ⟨ys, e, pm⟩ => by
    obtain ⟨zs, e1, p1⟩ := perm_map_inv pm m rfl
    exact ⟨zs, by rw [e, e1], m, p, p1⟩⟩
theorem en_callN1 {α1 : Type} {g : α1 → D} {P1 : α1 → Prop} {ok : α1 → Prop} {enc : β → D} {po : α1 → β → Prop} {j : Nat} (hs : ρ[j]? = some (some .src)) (h : EvN K S ta ρ (NT g P1)) (hx : ∀ x, P1 x → ok x) : EvN K S (tCall (SpN K ok (fun x => [g x]) fun x d => ∃ r, d = enc r ∧ po x r) [] E0 (tCons (tVar j) (tCons ta tNil))) ρ (NT enc fun y => ∃ x, P1 x ∧ po x y) :=
  en_callA hs (ean1 h) fun ds ⟨x, e, p⟩ => ⟨x, e, hx x p, fun d ⟨r, e, q⟩ => ⟨r, e, x, p, q⟩⟩
theorem en_callN2 {α1 α2 : Type} {g1 : α1 → D} {g2 : α2 → D} {P1 : α1 → Prop} {P2 : α2 → Prop} {ok : α1 × α2 → Prop} {enc : β → D} {po : α1 × α2 → β → Prop} {j : Nat} (hs : ρ[j]? = some (some .src)) (h1 : EvN K S ta ρ (NT g1 P1)) (h2 : EvN K S tb ρ (NT g2 P2)) (hx : ∀ x, P1 x → ∀ y, P2 y → ok (x, y)) : EvN K S (tCall (SpN K ok (fun x => [g1 x.1, g2 x.2]) fun x d => ∃ r, d = enc r ∧ po x r) [] E0 (tCons (tVar j) (tCons ta (tCons tb tNil)))) ρ (NT enc fun y => ∃ x, P1 x ∧ ∃ z, P2 z ∧ po (x, z) y) :=
  en_callA hs (ean2 h1 h2) fun ds ⟨x, y, e, p, q⟩ => ⟨(x, y), e, hx x p y q, fun d ⟨r, e, q2⟩ => ⟨r, e, x, p, y, q, q2⟩⟩
theorem en_callN3 {α1 α2 α3 : Type} {g1 : α1 → D} {g2 : α2 → D} {g3 : α3 → D} {P1 : α1 → Prop} {P2 : α2 → Prop} {P3 : α3 → Prop} {ok : α1 × α2 × α3 → Prop} {enc : β → D} {po : α1 × α2 × α3 → β → Prop} {j : Nat} (hs : ρ[j]? = some (some .src)) (h1 : EvN K S ta ρ (NT g1 P1)) (h2 : EvN K S tb ρ (NT g2 P2)) (h3 : EvN K S tc ρ (NT g3 P3)) (hx : ∀ x, P1 x → ∀ y, P2 y → ∀ z, P3 z → ok (x, y, z)) : EvN K S (tCall (SpN K ok (fun x => [g1 x.1, g2 x.2.1, g3 x.2.2]) fun x d => ∃ r, d = enc r ∧ po x r) [] E0 (tCons (tVar j) (tCons ta (tCons tb (tCons tc tNil))))) ρ (NT enc fun y => ∃ x, P1 x ∧ ∃ z, P2 z ∧ ∃ u, P3 u ∧ po (x, z, u) y) :=
  en_callA hs (ean3 h1 h2 h3) fun ds ⟨x, y, z, e, p, q, r⟩ => ⟨(x, y, z), e, hx x p y q z r, fun d ⟨r', e, q2⟩ => ⟨r', e, x, p, y, q, z, r, q2⟩⟩
theorem en_cbU {g : β → D} {r : List V → Hp → VK → Prop} {P : α → Prop} (F : α → β) (h : EvN K S ta ρ (NT f P)) (hr : ∀ x, P x → ∃ o, NoSrc o ∧ RcD K S r [f x] o ∧ o.data = g (F x)) : EvN K S (tCB r (tCons ta tNil)) ρ (NT g fun y => ∃ x, P x ∧ y = F x) :=
  en_cb (ean1 h) fun ds ⟨x, e, p⟩ => by
    obtain ⟨o, h1, h2, h3⟩ := hr x p
    subst e
    exact ⟨o, h1, h2, F x, h3, x, p, rfl⟩
theorem en_listL {P : List α → Prop} (h : EvN K S te ρ (NT (lM f) P)) : EvN K S (tCB (rLstO K) (tCons te tNil)) ρ (NT (lM f) P) := (en_cbU (g := lM f) (fun xs => xs) h fun x p => ⟨oL f x, nsL, rc_listLM, oL_data⟩).imp fun y ⟨x, p, e⟩ => e ▸ p
theorem en_listT {P : List α → Prop} (h : EvN K S te ρ (NT (tM f) P)) : EvN K S (tCB (rLstO K) (tCons te tNil)) ρ (NT (lM f) P) := (en_cbU (g := lM f) (fun xs => xs) h fun x p => ⟨oL f x, nsL, rc_listTM, oL_data⟩).imp fun y ⟨x, p, e⟩ => e ▸ p
theorem en_int {P : Int → Prop} (h : EvN K S te ρ (NT PyData.int P)) : EvN K S (tCB rIntC (tCons te tNil)) ρ (NT PyData.int P) := (en_cbU (g := PyData.int) (fun x => x) h fun x p => ⟨_, .d _, rc_intI, rfl⟩).imp fun y ⟨x, p, e⟩ => e ▸ p
theorem en_sorted {lt : α → α → Bool} {P : List α → Prop} (b : Bool) (o : OrdD f lt) (s : SrtD f) (h : EvN K S te ρ (NT (fun xs : List α => seqD b (xs.map f)) P)) : EvN K S (tCB (rSrt K) (tCons te tNil)) ρ (NT (lM f) fun y => ∃ z, P z ∧ y = srt lt z) :=
  en_cbU (g := lM f) (fun xs => srt lt xs) h fun x p => ⟨oL f (srt lt x), nsL, rc_sorted b o s, oL_data⟩
theorem en_cb2 {g : β → D} {h : γ → D} {r : List V → Hp → VK → Prop} {P : α → Prop} {Q : β → Prop} {R : γ → Prop} (h1 : EvN K S ta ρ (NT f P)) (h2 : EvN K S tb ρ (NT g Q)) (hr : ∀ a b, P a → Q b → ∃ c, RcD K S r [f a, g b] (.d (h c)) ∧ R c) : EvN K S (tCB r (tCons ta (tCons tb tNil))) ρ (NT h R) :=
  en_cb (ean2 h1 h2) fun ds ⟨x, y, e, p, q⟩ => by
    obtain ⟨c, h3, h4⟩ := hr x y p q
    subst e
    exact ⟨_, .d _, h3, c, rfl, h4⟩
theorem en_tup1 {P : α → Prop} (ha : EvN K S ta ρ (NT f P)) : EvN K S (tTup (tCons ta tNil)) ρ (NT (p1 f) P) :=
  en_tup (ean1 ha) fun ds ⟨a, e, p⟩ => by subst e; exact ⟨by rw [sizeLine_eq]; simp, a, rfl, p⟩
theorem en_tup4 {δ : Type} {td : TE} {g : β → D} {h : γ → D} {m : δ → D} {P : α → Prop} {Q : β → Prop} {R : γ → Prop} {R2 : δ → Prop} (ha : EvN K S ta ρ (NT f P)) (hb : EvN K S tb ρ (NT g Q)) (hc : EvN K S tc ρ (NT h R)) (hd : EvN K S td ρ (NT m R2)) : EvN K S (tTup (tCons ta (tCons tb (tCons tc (tCons td tNil))))) ρ (NT (p4 f g h m) fun z => P z.1 ∧ Q z.2.1 ∧ R z.2.2.1 ∧ R2 z.2.2.2) :=
  en_tup (ean_cons ha (ean3 hb hc hd)) fun ds ⟨d, r, e1, ⟨a, e2, p⟩, b, c, u, e3, q, q2, q3⟩ => by
    subst e1; subst e2; subst e3
    exact ⟨by rw [sizeLine_eq]; simp, (a, b, c, u), rfl, p, q, q2, q3⟩
theorem en_lst1 {P : α → Prop} (ha : EvN K S ta ρ (NT f P)) : EvN K S (tLst (tCons ta tNil)) ρ (NT (lM f) fun y => ∃ a0, P a0 ∧ y = [a0]) :=
  en_lst (ean1 ha) fun ds ⟨a, e, p⟩ => by subst e; exact ⟨by rw [sizeLine_eq]; simp, [a], rfl, a, p, rfl⟩
theorem en_lst2 {P Q : α → Prop} (ha : EvN K S ta ρ (NT f P)) (hb : EvN K S tb ρ (NT f Q)) : EvN K S (tLst (tCons ta (tCons tb tNil))) ρ (NT (lM f) fun y => ∃ a0 a1, P a0 ∧ Q a1 ∧ y = [a0, a1]) :=
  en_lst (ean2 ha hb) fun ds ⟨a, b, e, p, q⟩ => by subst e; exact ⟨by rw [sizeLine_eq]; simp, [a, b], rfl, a, b, p, q, rfl⟩
theorem en_lst3 {P Q R : α → Prop} (ha : EvN K S ta ρ (NT f P)) (hb : EvN K S tb ρ (NT f Q)) (hc : EvN K S tc ρ (NT f R)) : EvN K S (tLst (tCons ta (tCons tb (tCons tc tNil)))) ρ (NT (lM f) fun y => ∃ a0 a1 a2, P a0 ∧ Q a1 ∧ R a2 ∧ y = [a0, a1, a2]) :=
  en_lst (ean3 ha hb hc) fun ds ⟨a, b, c, e, p, q, r⟩ => by subst e; exact ⟨by rw [sizeLine_eq]; simp, [a, b, c], rfl, a, b, c, p, q, r, rfl⟩
theorem en_lst4 {td : TE} {P Q R R2 : α → Prop} (ha : EvN K S ta ρ (NT f P)) (hb : EvN K S tb ρ (NT f Q)) (hc : EvN K S tc ρ (NT f R)) (hd : EvN K S td ρ (NT f R2)) : EvN K S (tLst (tCons ta (tCons tb (tCons tc (tCons td tNil))))) ρ (NT (lM f) fun y => ∃ a0 a1 a2 a3, P a0 ∧ Q a1 ∧ R a2 ∧ R2 a3 ∧ y = [a0, a1, a2, a3]) :=
  en_lst (ean_cons ha (ean3 hb hc hd)) fun ds ⟨d, r, e1, ⟨a, e2, p⟩, b, c, u, e3, q, q2, q3⟩ => by
    subst e1; subst e2; subst e3
    exact ⟨by rw [sizeLine_eq]; simp, [a, b, c, u], rfl, a, b, c, u, p, q, q2, q3, rfl⟩
theorem en_ifV {c : Bool} {P Q : α → Prop} (h : EvT K S tt ρ c) (h1 : c = true → EvN K S ta ρ (NT f P)) (h2 : c = false → EvN K S tb ρ (NT f Q)) : EvN K S (tIf tt ta tb) ρ (NT f fun y => (c = true → P y) ∧ (c = false → Q y)) :=
  en_if (Qb := fun b => b = c) (h.n rfl) (fun e => (h1 e.symm).imp fun y p => ⟨fun _ => p, fun z => by rw [z] at e; cases e⟩) fun e => (h2 e.symm).imp fun y p => ⟨fun z => (by rw [z] at e; cases e), fun _ => p⟩
theorem en_ifN {P Q : α → Prop} (h : EvTN K S tt ρ fun _ => True) (h1 : EvN K S ta ρ (NT f P)) (h2 : EvN K S tb ρ (NT f Q)) : EvN K S (tIf tt ta tb) ρ (NT f fun y => P y ∨ Q y) :=
  en_if h (fun _ => h1.imp fun y p => .inl p) fun _ => h2.imp fun y p => .inr p
theorem etn_any {Q : Bool → Prop} (h : EvTN K S tt ρ Q) : EvTN K S tt ρ fun _ => True := h.mono fun _ _ => trivial
theorem etn_geI {P Q : Int → Prop} (ha : EvN K S ta ρ (NT PyData.int P)) (hb : EvN K S tb ρ (NT PyData.int Q)) : EvTN K S (tTest (tOp (rLtX K (fun i j => decide (j ≤ i)) fun d e => !PySem.W.dataLt d e) ta tb)) ρ (fun c => ∃ a b, P a ∧ Q b ∧ c = decide (b ≤ a)) :=
  etn_test (en_op ha hb fun x y ⟨a, e1, p⟩ ⟨b, e2, q⟩ => by subst e1; subst e2; exact ⟨_, r2_geI, _, rfl, a, b, p, q, rfl⟩)
theorem etn_leI {P Q : Int → Prop} (ha : EvN K S ta ρ (NT PyData.int P)) (hb : EvN K S tb ρ (NT PyData.int Q)) : EvTN K S (tTest (tOp (rLtX K (fun i j => decide (i ≤ j)) fun d e => !PySem.W.dataLt e d) ta tb)) ρ (fun c => ∃ a b, P a ∧ Q b ∧ c = decide (a ≤ b)) :=
  etn_test (en_op ha hb fun x y ⟨a, e1, p⟩ ⟨b, e2, q⟩ => by subst e1; subst e2; exact ⟨_, r2_leI, _, rfl, a, b, p, q, rfl⟩)
theorem etn_neI {P Q : Int → Prop} (ha : EvN K S ta ρ (NT PyData.int P)) (hb : EvN K S tb ρ (NT PyData.int Q)) : EvTN K S (tTest (tOp (rNeY K) ta tb)) ρ (fun c => ∃ a b, P a ∧ Q b ∧ c = !decide (a = b)) :=
  etn_test (en_op ha hb fun x y ⟨a, e1, p⟩ ⟨b, e2, q⟩ => by subst e1; subst e2; exact ⟨_, r2_neI, _, rfl, a, b, p, q, rfl⟩)
theorem etn_andT (h1 : EvTN K S tt ρ fun _ => True) (h2 : EvTN K S tu ρ fun _ => True) : EvTN K S (tAnd tt tu) ρ fun _ => True := etn_and h1 (fun _ => h2) (fun _ _ _ => trivial) fun _ => trivial
theorem etn_orT (h1 : EvTN K S tt ρ fun _ => True) (h2 : EvTN K S tu ρ fun _ => True) : EvTN K S (tOr tt tu) ρ fun _ => True := etn_or h1 (fun _ => h2) (fun _ _ _ => trivial) fun _ => trivial
theorem LcR.sub {Qt : α → Bool → Prop} {h : α → β} {f : β → D} {xs : List α} {ds : List D} (hl : LcR Qt (fun x d => d = f (h x)) xs ds) : ∃ ys : List β, ds = ys.map f ∧ ys.Sublist (xs.map h) := by
  induction hl with
  | nil => exact ⟨[], rfl, .slnil⟩
  | out _ _ ih => obtain ⟨ys, e, s⟩ := ih; exact ⟨ys, e, by rw [List.map_append]; exact s.trans (List.sublist_append_left _ _)⟩
  | add _ _ e ih => obtain ⟨ys, e2, s⟩ := ih; exact ⟨ys ++ [_], by rw [List.map_append, e2, e]; rfl, by rw [List.map_append]; exact s.append (List.Sublist.refl _)⟩
theorem en_lcS {wi : TI} {g : TG} {vs : List Nat} (f : β → D) (xs : List α) (e : α → D) (h : α → β) (hi : EvI K S wi ρ (xs.map e)) (hb : ∀ x, x ∈ xs → ∃ ρ2 js, GtD K S g (wipeE ρ vs) (e x) ρ2 js ∧ (∀ j ∈ js, j ∈ vs) ∧ EvTN K S tt ρ2 (fun _ => True) ∧ EvD K S te ρ2 (f (h x))) :
    EvN K S (tLc wi g tt te vs) ρ (NT (lM f) fun ys => ys.Sublist (xs.map h)) :=
  en_lc xs e (fun _ _ => True) (fun x d => d = f (h x)) hi (fun x hx => by
    obtain ⟨ρ2, js, h1, h2, h3, h4⟩ := hb x hx
    exact ⟨ρ2, js, h1, h2, h3, fun _ => h4.n rfl⟩) fun ds hl => by
    obtain ⟨ys, rfl, s⟩ := hl.sub
    exact ⟨ys, rfl, s⟩
/-! statements -/
theorem sw_setV {xs v : List α} {x : α} {n : Int} (f : α → D) (hi : ρ[i]? = some (some (oL f xs))) (h : EvD K S te ρ (f x)) (hn : EvD K S ti ρ (.int n)) (h0 : 0 ≤ n) (h1 : n < xs.length) (ev : v = xs.set n.toNat x) (k : ∀ y, y = v → E.nx (ρ.set i (some (oL f y)))) : StW K S (tAsg te (gSub (tVar i) ti rSetX)) ρ E := sw_setLM hi h hn h0 h1 (ev ▸ k v rfl)
theorem sw_appV {xs : List α} {x : α} (f : α → D) (hi : ρ[i]? = some (some (oL f xs))) (h : EvD K S te ρ (f x)) (hz : xs.length < 16000000) (k : ∀ y, y = xs ++ [x] → E.nx (ρ.set i (some (oL f y)))) : StW K S (tDrop (tBM K "list" rAppend (tVar i) (tCons te tNil))) ρ E := sw_appM hi h (lt_sz hz) (k _ rfl)
theorem sw_appNV {xs : List α} {P : α → Prop} (f : α → D) (hi : ρ[i]? = some (some (oL f xs))) (h : EvN K S te ρ (NT f P)) (hz : xs.length < 16000000) (k : ∀ x, P x → ∀ y, y = xs ++ [x] → E.nx (ρ.set i (some (oL f y)))) : StW K S (tDrop (tBM K "list" rAppend (tVar i) (tCons te tNil))) ρ E := sw_appMN hi h (lt_sz hz) fun d ⟨x, e, p⟩ => ⟨x, e, k x p _ rfl⟩
theorem sw_tgtV {g : TG} {v : α} (f : α → D) (h : EvD K S te ρ (f v)) (k : ∀ x, x = v → ∃ ρ2 js, GtD K S g ρ (f x) ρ2 js ∧ E.nx ρ2) : StW K S (tAsg te g) ρ E := by
  obtain ⟨ρ2, js, h1, h2⟩ := k v rfl
  exact sw_tgt h h1 h2
theorem sw_tgtNV {g : TG} {P : α → Prop} (f : α → D) (h : EvN K S te ρ (NT f P)) (k : ∀ x, P x → ∃ ρ2 js, GtD K S g ρ (f x) ρ2 js ∧ E.nx ρ2) : StW K S (tAsg te g) ρ E := sw_tgtN h fun d ⟨x, e, p⟩ => by subst e; exact k x p
theorem sw_ifNV (h : EvTN K S tt ρ fun _ => True) (h1 : True → StW K S ts ρ E) (h2 : True → StW K S us ρ E) : StW K S (tIfS tt ts us) ρ E := sw_ifN h h1 h2
theorem spf_useV {ok : α → Prop} {args : α → List D} {enc : β → D} {fv : α → β} {t : TS} {N : List Str} {vs : List V} {H : Hp} {Q : VK} {E : XK} (W : α → (β → Prop) → Prop) (hs : SpF K ok args (fun x => .d (enc (fv x))) vs H Q E) (hv : ∀ x, ok x → W x fun r => r = fv x)
    (h : ∀ x rt, W x rt → StW K none t (ent N (args x)) { nx := fun _ => ∃ r, O.d (enc r) = .d .none ∧ rt r, rt := fun o => ∃ r, o = .d (enc r) ∧ rt r }) : t { nx := fun _ H' => Q .non H', rt := Q } (L2.start N vs) H :=
  spf_use hs fun x hx => sw_mono (h x _ (hv x hx)) (fun _ ⟨r, e, z⟩ => by rw [← z]; exact e) (fun _ z => z) (fun _ z => z) fun o ⟨r, e, z⟩ => by rw [e, z]
theorem spn_useV {ok : α → Prop} {args : α → List D} {enc : β → D} {po : α → β → Prop} {t : TS} {N : List Str} {vs : List V} {H : Hp} {Q : VK} {E : XK} (W : α → (β → Prop) → Prop) (hs : SpN K ok args (fun x d => ∃ r, d = enc r ∧ po x r) vs H Q E) (hv : ∀ x, ok x → W x (po x))
    (h : ∀ x p q rt, W x rt → StW K (some (p, q)) t (entS N (args x)) { nx := fun _ => ∃ r, O.d (enc r) = .d .none ∧ rt r, rt := fun o => ∃ r, o = .d (enc r) ∧ rt r }) : t { nx := fun _ H' => Q .non H', rt := Q } (L2.start N vs) H :=
  spn_use hs fun x p q hx => sw_mono (h x p q _ (hv x hx)) (fun _ ⟨r, e, z⟩ => ⟨r, by injection e with e; exact e.symm, z⟩) (fun _ z => z) (fun _ z => z) fun o ⟨r, e, z⟩ => by subst e; exact ⟨.d _, r, rfl, z⟩
theorem spl_useV {t : TS} {N : List Str} {vs : List V} {H : Hp} {Q : VK} {E : XK} (W : (Bool → Prop) → Prop) (hs : SpL K vs H Q E) (hv : W fun r => r = true)
    (h : ∀ rt : Bool → Prop, W rt → ∀ ns : List Int, ns.length ≤ 63 → (∀ z ∈ ns, Builtin.Int.intBits z ≤ 1048576) → StW K none t (some (.scr ns) :: List.replicate (N.length - 1) none) { nx := fun _ => False, rt := fun o => NoSrc o ∧ ∃ r, o = .d (.bool r) ∧ rt r }) : t { nx := fun _ H' => Q .non H', rt := Q } (L2.start N vs) H :=
  spl_use hs fun ns hn hb => sw_mono (h _ hv ns hn hb) (fun _ z => z) (fun _ z => z) (fun _ z => z) fun o ⟨_, r, e, z⟩ => by rw [e, z]
theorem law_rt {p q : Addr} {rt : Bool → Prop} (h : StW K (some (p, q)) us ρ { nx := fun _ => False, rt := fun o => ∃ r, o = .d (.bool r) ∧ rt r }) : StW K (some (p, q)) us ρ { nx := fun _ => False, rt := fun o => NoSrc o ∧ ∃ r, o = .d (.bool r) ∧ rt r } :=
  sw_mono h (fun _ z => z) (fun _ z => z) (fun _ z => z) fun o ⟨r, e, z⟩ => ⟨by rw [e]; exact .d _, r, e, z⟩
end
end DL

set_option Elab.async false
set_option linter.all false
set_option maxRecDepth 100000
set_option maxHeartbeats 2000000
/-! VS: lists' methods, stars, data of any kind, a list or a tuple -/
namespace DL
open PySem PySem.Spec PyProof.Rows L2 StX
open Evl (Ex Ex.refl Ex.trans Ex.new Ex.mut)
section
variable {X : Cx} {K : PySem.W.Frag} {e : Expr} {es : List Expr} {te : TE} {t : TA} {p : Pos}
theorem pa_starR (hK : X.K = K) (he : PE X e te) (hr : PA X es t) (hs : starEach (.Starred e p :: es) X.env = (true, eval e X.env) :: starEach es X.env := by rfl) : PA X (.Starred e p :: es) (tStar K te t) := hK ▸ pa_star he hr hs
theorem mt_indexR {k : Nat} (hK : X.K = K) (hr : Room k X.A) : MtR X "list.index" (rIndexD K) := hK ▸ mt_indexD (hu65 hr)
theorem mt_lcountR (hK : X.K = K) : MtR X "list.count" (rCntI K) := hK ▸ mt_lcount
end
section
variable {K : PySem.W.Frag} {S : Option (Addr × Addr)} {ρ : Env} {ta tb tc te ti : TE} {tr : TA} {tt tu : TT} {ts us : TS} {α β γ σ : Type} {f : α → D} {i j l : Nat} {E : DE} {d e : D}
/-! stars -/
theorem ea_star {xs ys : List α} (h : EvD K S te ρ (tM f xs)) (hr : EvA K S tr ρ (ys.map f)) : EvA K S (tStar K te tr) ρ ((xs ++ ys).map f) := fun B H Fr σ R w k =>
  h.use w fun v B1 H1 g1 r1 => by
    cases r1 with
    | tup hl ra => exact ⟨_, _, rfl, .inl (Evl.ex_t g1.sub (sqt_of hl)), hr B1 H1 Fr σ _ (w.grow g1) fun vs B2 H2 g2 r2 => k _ B2 H2 (g1.trans g2) (by rw [List.map_append]; exact (ra.mono g2.b).append r2)⟩
theorem ea_starL {xs ys : List α} (h : EvD K S te ρ (lM f xs)) (hr : EvA K S tr ρ (ys.map f)) : EvA K S (tStar K te tr) ρ ((xs ++ ys).map f) := fun B H Fr σ R w k =>
  h.use w fun v B1 H1 g1 r1 => by
    cases r1 with
    | lst hl ra => exact ⟨_, _, rfl, .inr (SqL.of (g1.sub _ _ hl)), hr B1 H1 Fr σ _ (w.grow g1) fun vs B2 H2 g2 r2 => k _ B2 H2 (g1.trans g2) (by rw [List.map_append]; exact (ra.mono g2.b).append r2)⟩
theorem ea_nilM : EvA K S tNil ρ (([] : List α).map f) := ea_nil
theorem ea_consM {x : α} {xs : List α} (h : EvD K S ta ρ (f x)) (hr : EvA K S tr ρ (xs.map f)) : EvA K S (tCons ta tr) ρ ((x :: xs).map f) := ea_cons h hr
theorem ev_lstS (f : α → D) (xs : List α) (h : EvA K S tr ρ (xs.map f)) (hz : xs.length ≤ 16000000) : EvO K S (tLst tr) ρ (oL f xs) :=
  ev_is (ev_lst h (by rw [List.length_map]; exact le_sz hz)) (by simp [oL, Function.comp_def])
theorem ev_tupS (f : α → D) (xs : List α) (h : EvA K S tr ρ (xs.map f)) (hz : xs.length ≤ 16000000) : EvD K S (tTup tr) ρ (tM f xs) :=
  ev_tup h (by rw [List.length_map]; exact le_sz hz)
/-! methods of lists -/
theorem sw_extV {xs ys : List α} (f : α → D) (hi : ρ[i]? = some (some (oL f xs))) (h : EvD K S te ρ (lM f ys)) (hz : xs.length + ys.length ≤ 16000000) (k : ∀ y, y = xs ++ ys → E.nx (ρ.set i (some (oL f y)))) : StW K S (tDrop (tBM K "list" rExtend (tVar i) (tCons te tNil))) ρ E := fun B H Fr σ D w kk => by
  rw [oL_ds] at hi
  obtain ⟨p, vs, ev, hH, ra, _⟩ := w.upL hi
  refine ⟨.ref p, ev, .inl ⟨rfl, _, SqL.of hH⟩, h.use w fun v B1 H1 g r => ?_⟩
  have w1 := w.grow g
  obtain ⟨p', vs1, ev1, hH1, ra1, up⟩ := w1.upL hi
  rw [ev] at ev1
  cases ev1
  cases r with
  | lst hl rb =>
    have hl' := g.sub _ _ hl
    refine ⟨_, _, _, _, rfl, rfl, hH1, hl', by rw [ra1.length, rb.length, List.length_map, List.length_map]; exact le_sz hz, ?_⟩
    obtain ⟨w2, a2⟩ := up _ ((xs ++ ys).map f) (by rw [List.map_append]; exact ra1.append rb)
    refine kk.nx _ σ B1 _ (k _ rfl) ((g.aft w).trans a2) ?_
    rw [oL_ds]; exact w2
theorem ew_pop {xs : List α} {Q : O → Env → Prop} [Inhabited α] (hi : ρ[i]? = some (some (oL f xs))) (h0 : xs ≠ []) (q : Q (.d (f (gi xs (xs.length - 1 : Int)))) (ρ.set i (some (oL f xs.dropLast)))) :
    EvW K S (tBM0 K "list" rPop (tVar i)) ρ Q := fun B H Fr σ R w k => by
  rw [oL_ds] at hi
  obtain ⟨p, vs, ev, hH, ra, up⟩ := w.upL hi
  have hl := ra.length
  rw [List.length_map] at hl
  have hx : xs.length - 1 < xs.length := by have : 0 < xs.length := List.length_pos_iff.mpr h0; omega
  have eg : gi xs (xs.length - 1 : Int) = xs[xs.length - 1] := by rw [gi_eq (by omega) (by omega)]; congr 1; omega
  obtain ⟨v, e1, rv⟩ := ra.getD (i := xs.length - 1) (d := f xs[xs.length - 1]) (by rw [List.getElem?_map, List.getElem?_eq_getElem hx]; rfl)
  refine ⟨.ref p, ev, .inl ⟨rfl, _, SqL.of hH⟩, _, _, v, rfl, rfl, hH, by rw [hl]; exact e1, ?_⟩
  have rd : RpAll K B vs.dropLast (xs.dropLast.map f) := by
    rw [List.dropLast_eq_take, List.dropLast_eq_take, List.map_take, hl]; exact ra.take _
  obtain ⟨w2, a2⟩ := up _ _ rd
  refine k v (.d (f xs[xs.length - 1])) (fun _ => False) _ B _ (by rw [eg, oL_ds] at q; exact q) a2 (.d _ _ _ rv fun _ z => z) (fun _ z => z.elim) ?_
  exact w2.less fun a z => z.elim id fun z => z.elim
theorem sw_popV {xs : List α} [Inhabited α] (f : α → D) (hi : ρ[i]? = some (some (oL f xs))) (h0 : xs ≠ []) (k : ∀ x y, x = gi xs (xs.length - 1 : Int) → y = xs.dropLast → E.nx ((ρ.set i (some (oL f y))).set j (some (.d (f x))))) : StW K S (tAsg (tBM0 K "list" rPop (tVar i)) (gName j)) ρ E :=
  sw_asgW (ew_pop hi h0 (k _ _ rfl rfl))
theorem sw_popT {xs : List α} [Inhabited α] {g : TG} (f : α → D) (hi : ρ[i]? = some (some (oL f xs))) (h0 : xs ≠ []) (k : ∀ x y, x = gi xs (xs.length - 1 : Int) → y = xs.dropLast → ∃ ρ2 js, GtD K S g (ρ.set i (some (oL f y))) (f x) ρ2 js ∧ E.nx ρ2) : StW K S (tAsg (tBM0 K "list" rPop (tVar i)) g) ρ E := fun B H Fr σ D w kk => by
  obtain ⟨ρ2, js, hg, hn⟩ := k _ _ rfl rfl
  refine ew_pop (Q := fun o ρ1 => o = .d (f (gi xs (xs.length - 1 : Int))) ∧ ρ1 = ρ.set i (some (oL f xs.dropLast))) hi h0 ⟨rfl, rfl⟩ B H Fr σ _ w fun v o F ρ' B' H' ⟨e1, e2⟩ a qo n w' => ?_
  subst e1; subst e2
  cases qo with
  | d _ _ _ rv nf =>
    have w2 : Wd K S B' H' Fr σ (ρ.set i (some (oL f xs.dropLast))) := w'.less fun a z => .inl z
    exact hg B' H' Fr σ v _ w2 rv fun σ2 w3 _ _ => kk.nx ρ2 σ2 B' H' hn a w3
/-- xs.pop(k) -/
theorem ew_popN {xs : List α} {Q : O → Env → Prop} {P : Int → Prop} [Inhabited α] (hi : ρ[i]? = some (some (oL f xs))) (h : EvN K S te ρ (NT PyData.int P)) (hP : ∀ k, P k → 0 ≤ k ∧ k < xs.length ∧ k < 2 ^ 62) (q : ∀ n, P n → Q (.d (f (gi xs n))) (ρ.set i (some (oL f (xs.eraseIdx n.toNat))))) :
    EvW K S (tBM K "list" rPopAt (tVar i) (tCons te tNil)) ρ Q := fun B H Fr σ R w k => by
  rw [oL_ds] at hi
  obtain ⟨p, vs, ev, hH, ra, _⟩ := w.upL hi
  refine ⟨.ref p, ev, .inl ⟨rfl, _, SqL.of hH⟩, h B H Fr σ _ w fun v d B1 H1 ⟨n, e, hn⟩ g r => ?_⟩
  subst e
  cases r
  obtain ⟨h0, h1, h2⟩ := hP n hn
  have w1 := w.growN g
  obtain ⟨p', vs1, ev1, hH1, ra1, up⟩ := w1.upL hi
  rw [ev] at ev1
  cases ev1
  have hl := ra1.length
  rw [List.length_map] at hl
  have hx : xs[n.toNat]? = some xs[n.toNat] := List.getElem?_eq_getElem (by omega)
  obtain ⟨y, hy, ry⟩ := ra1.getD (i := n.toNat) (d := f xs[n.toNat]) (by rw [List.getElem?_map, hx]; rfl)
  refine ⟨p, vs1, n, n.toNat, y, rfl, rfl, hH1, by omega, by omega, ?_, hy, ?_⟩
  · have : ixN vs1.length n = some n.toNat := by unfold ixN; rw [if_pos h0, if_pos (by omega)]
    exact (ixN_seq this).1
  · obtain ⟨w2, a2⟩ := up _ _ (ra1.eraseIdx n.toNat)
    have e3 : ((xs.map f).eraseIdx n.toNat).map O.d = (xs.eraseIdx n.toNat).map fun x => O.d (f x) := by rw [map_erase, List.map_map]; rfl
    rw [e3] at w2
    refine k y (.d (f xs[n.toNat])) (fun _ => False) _ B1 _ ?_ ((g.aft w).trans a2) (.d _ _ _ ry fun _ z => z) (fun _ z => z.elim) (w2.less fun a z => z.elim id fun z => z.elim)
    have := q n hn
    rw [gi_eq h1 h0] at this
    exact this
/-- ys.append(xs.pop(k)) -/
theorem sw_appPop {xs ys : List α} {P : Int → Prop} [Inhabited α] (f : α → D) (hij : i ≠ j) (hj : ρ[j]? = some (some (oL f ys))) (hi : ρ[i]? = some (some (oL f xs))) (h : EvN K S te ρ (NT PyData.int P)) (hP : ∀ k, P k → 0 ≤ k ∧ k < xs.length ∧ k < 2 ^ 62) (hz : ys.length < 16000000)
    (k : ∀ n, P n → ∀ y x, y = ys ++ [gi xs n] → x = xs.eraseIdx n.toNat → E.nx ((ρ.set i (some (oL f x))).set j (some (oL f y)))) : StW K S (tDrop (tBM K "list" rAppend (tVar j) (tCons (tBM K "list" rPopAt (tVar i) (tCons te tNil)) tNil))) ρ E :=
  sw_appW ⟨_, hj⟩ (ew_popN hi h hP fun n hn => ⟨_, by rw [List.getElem?_set_ne hij]; exact hj, by simpa using lt_sz hz, by simpa [oL] using k n hn _ _ rfl rfl⟩)
/-- x = xs.pop(k) -/
theorem sw_popKV {xs : List α} {P : Int → Prop} [Inhabited α] (f : α → D) (hi : ρ[i]? = some (some (oL f xs))) (h : EvN K S te ρ (NT PyData.int P)) (hP : ∀ k, P k → 0 ≤ k ∧ k < xs.length ∧ k < 2 ^ 62) (k : ∀ n, P n → ∀ x y, x = gi xs n → y = xs.eraseIdx n.toNat → E.nx ((ρ.set i (some (oL f y))).set j (some (.d (f x))))) : StW K S (tAsg (tBM K "list" rPopAt (tVar i) (tCons te tNil)) (gName j)) ρ E :=
  sw_asgW (ew_popN hi h hP fun n hn => k n hn _ _ rfl rfl)
theorem ints_of {B : Hp} {v : V} {xs : List Int} {H : Hp} (ex : Ex B H) (r : Rp K B v (lM PyData.int xs)) : ∃ a, v = .ref a ∧ SqL K H a (xs.map V.int) := by
  cases r with
  | lst hl ra => rw [ra.ints] at hl; exact ⟨_, rfl, SqL.of (ex _ _ hl)⟩
theorem ev_count {xs : List Int} {x : Int} (h : EvD K S te ρ (lM PyData.int xs)) (hx : EvD K S ta ρ (.int x)) : EvD K S (tBM K "list" (rCntI K) te (tCons ta tNil)) ρ (.int (xs.count x : Int)) := .mk fun B H Fr σ R w k => h.use w fun v B1 H1 g1 r1 => by
  obtain ⟨a, e, hl⟩ := ints_of g1.sub r1
  refine ⟨by subst e; exact .inl ⟨rfl, _, hl⟩, hx.use (w.grow g1) fun u B2 H2 g2 r2 => ?_⟩
  cases r2
  obtain ⟨a', e', hl'⟩ := ints_of g2.sub (r1.mono g2.b)
  exact ⟨a', xs, x, e', rfl, hl', k _ B2 H2 (g1.trans g2) (.int _)⟩
theorem ev_index [DecidableEq α] {xs : List α} {x : α} {n : Nat} (eq : EqD f) (s : ShD n f) (h : EvD K S te ρ (lM f xs)) (hx : EvD K S ta ρ (f x)) (hm : x ∈ xs) (hn : n ≤ 62 := by decide) : EvD K S (tBM K "list" (rIndexD K) te (tCons ta tNil)) ρ (.int (ixOf x xs : Int)) := .mk fun B H Fr σ R w k => h.use w fun v B1 H1 g1 r1 => by
  have q1 : ∃ a, v = .ref a ∧ ∃ vs, SqL K H1 a vs := by
    cases r1 with | lst hl ra => exact ⟨_, rfl, _, SqL.of (g1.sub _ _ hl)⟩
  obtain ⟨a, rfl, vs, hl⟩ := q1
  refine ⟨.inl ⟨rfl, _, hl⟩, hx.use (w.grow g1) fun u B2 H2 g2 r2 => ?_⟩
  have rl := ((r1.mono g2.b).mono g2.sub).dp (shd_lM s xs).1
  have rx := (r2.mono g2.sub).dp (s x).1
  have hlt : ixOf x xs < xs.length := List.findIdx_lt_length_of_exists ⟨x, hm, by simp⟩
  refine ⟨a, u, f x, xs.map f, ixOf x xs, f (xs[ixOf x xs]'hlt), rfl, rfl, rl, rx, ((shd_lM s xs).shaped (by omega)), ((s x).shaped (by omega)), by simp [hlt], ?_, fun m z' hm' hz' => ?_, k _ B2 H2 (g1.trans g2) (.int _)⟩
  · rw [eq]
    have := List.findIdx_getElem (xs := xs) (p := fun y => decide (y = x)) (w := hlt)
    exact this
  · rw [List.getElem?_map] at hz'
    obtain ⟨y, hy, rfl⟩ := Option.map_eq_some_iff.mp hz'
    rw [eq]
    obtain ⟨hlt2, ey⟩ := List.getElem?_eq_some_iff.mp hy
    have := List.not_of_lt_findIdx (p := fun y => decide (y = x)) (xs := xs) hm'
    rw [ey] at this
    simpa using this
/-! triples by a place -/
theorem r2_ixP3 {p : α × α × α} {k : Int} (h0 : 0 ≤ k) (h : k < 3) : R2D K S (rIxX K) (p3 f f f p) (.int k) (.d (f (pix3 p k))) := by
  have : k = 0 ∨ k = 1 ∨ k = 2 := by omega
  rcases this with rfl | rfl | rfl <;> exact r2_ixT rfl
/-! a list or a tuple -/
theorem imd_sKx {x : Bool × List α} : x.1 = false → ImD f → Im (sK f x) := fun h hf => by
  obtain ⟨b, xs⟩ := x; cases h; exact imd_tM hf xs
theorem r2_ixK [Inhabited α] {x : Bool × List α} {k : Int} (h0 : 0 ≤ k) (h : k < x.2.length) : R2D K S (rIxX K) (sK f x) (.int k) (.d (f (gi x.2 k))) := by
  obtain ⟨b, xs⟩ := x
  cases b
  · exact r2_ixM h0 h
  · exact r2_ixLM h0 h
theorem rc_lenK {x : Bool × List α} : RcD K S (rLenX K) [sK f x] (.d (.int x.2.length)) := by
  obtain ⟨b, xs⟩ := x
  cases b
  · exact rc_lenM
  · exact rc_lenLM
theorem rc_sumK {x : Bool × List Int} : RcD K S (rSumX K) [sK PyData.int x] (.d (.int x.2.sum)) := by
  obtain ⟨b, xs⟩ := x
  cases b
  · exact rc_sumT
  · exact rc_sumL
theorem rc_listK {x : Bool × List α} : RcD K S (rLstO K) [sK f x] (oL f x.2) := by
  obtain ⟨b, xs⟩ := x
  cases b
  · exact rc_listTM
  · exact rc_listLM
theorem rc_tupleLM {xs : List α} : RcD K S (rTupO K) [lM f xs] (.d (tM f xs)) := rc_tupleL
theorem rc_tupleTM {xs : List α} : RcD K S (rTupO K) [tM f xs] (.d (tM f xs)) := rc_tupleT
theorem rc_tupleK {x : Bool × List α} : RcD K S (rTupO K) [sK f x] (.d (tM f x.2)) := by
  obtain ⟨b, xs⟩ := x
  cases b
  · exact rc_tupleTM
  · exact rc_tupleLM
theorem ei_K {x : Bool × List α} (h : EvD K S te ρ (sK f x)) : EvI K S (iSeq K te) ρ (x.2.map f) := by
  obtain ⟨b, xs⟩ := x
  cases b
  · exact ei_tup h
  · exact ei_list h
theorem shd_sK {n : Nat} (h : ShD n f) : ShD (n + 1) (sK f) := fun x => by
  obtain ⟨b, xs⟩ := x
  cases b
  · exact shd_tM h xs
  · exact shd_lM h xs
/-! data of any kind -/
theorem r2_geD {j : Int} (h : IsI d) : R2D K S (rLtX K (fun i j => decide (j ≤ i)) fun d e => !PySem.W.dataLt d e) d (.int j) (.d (.bool (decide (j ≤ dInt d)))) := by obtain ⟨i, rfl⟩ := h; exact r2_geI
theorem r2_gtD {j : Int} (h : IsI d) : R2D K S (rLtX K (fun i j => decide (j < i)) fun d e => PySem.W.dataLt e d) d (.int j) (.d (.bool (decide (j < dInt d)))) := by obtain ⟨i, rfl⟩ := h; exact r2_gtI
theorem r2_ltD {j : Int} (h : IsI d) : R2D K S (rLtX K (fun i j => decide (i < j)) PySem.W.dataLt) d (.int j) (.d (.bool (decide (dInt d < j)))) := by obtain ⟨i, rfl⟩ := h; exact r2_ltI
theorem r2_leD {j : Int} (h : IsI d) : R2D K S (rLtX K (fun i j => decide (i ≤ j)) fun d e => !PySem.W.dataLt e d) d (.int j) (.d (.bool (decide (dInt d ≤ j)))) := by obtain ⟨i, rfl⟩ := h; exact r2_leI
theorem rc_lenD (h : IsT d) : RcD K S (rLenX K) [d] (.d (.int (dTup d).length)) := by obtain ⟨xs, rfl⟩ := h; exact rc_lenT
theorem ei_D (h : EvD K S te ρ d) (ht : IsT d) : EvI K S (iSeq K te) ρ ((dTup d).map fun d => d) := by obtain ⟨xs, rfl⟩ := ht; exact ei_tupD h
theorem r2_ixD {k : Int} (h : IsT d) (h0 : 0 ≤ k) (h1 : k < (dTup d).length) : R2D K S (rIxX K) d (.int k) (.d (gi (dTup d) k)) := by
  obtain ⟨xs, rfl⟩ := h
  have := atI_gi (f := fun d : D => d) h0 h1
  rw [List.map_id'] at this
  exact r2_ixT this
/-! drawn lists -/
theorem en_op2L {r : R2} {f : α → D} {g : β → D} {h : γ → D} {P : α → Prop} {Q : β → Prop} {R : List γ → Prop} (ha : EvN K S ta ρ (NT f P)) (hb : EvN K S tb ρ (NT g Q)) (hr : ∀ a b, P a → Q b → ∃ c, R2D K S r (f a) (g b) (oL h c) ∧ R c) : EvN K S (tOp r ta tb) ρ (NT (lM h) R) := fun B H Fr σ R' w k =>
  ha B H Fr σ _ w fun v d1 B1 H1 ⟨a, e1, p⟩ g1 r1 => hb B1 H1 Fr σ _ (w.growN g1) fun u d2 B2 H2 ⟨b, e2, q⟩ g2 r2 => by
    subst e1; subst e2
    obtain ⟨c, h1, h2⟩ := hr a b p q
    have w2 := (w.growN g1).growN g2
    refine h1 B2 H2 v u R' g2.sub (r1.mono g2.b) r2 (Res.n w2 nsL fun v B' H' g3 r3 => k v (lM h c) B' H' ⟨c, rfl, h2⟩ ((g1.trans g2).trans g3) (by rw [oL_data] at r3; exact r3))
theorem en_tupT1 {P : α → Prop} (ha : EvN K S ta ρ (NT f P)) : EvN K S (tTup (tCons ta tNil)) ρ (NT (tM f) fun y => ∃ a0, P a0 ∧ y = [a0]) :=
  en_tup (ean1 ha) fun ds ⟨a, e, p⟩ => by subst e; exact ⟨by rw [sizeLine_eq]; simp, [a], rfl, a, p, rfl⟩
theorem en_tupT2 {P Q : α → Prop} (ha : EvN K S ta ρ (NT f P)) (hb : EvN K S tb ρ (NT f Q)) : EvN K S (tTup (tCons ta (tCons tb tNil))) ρ (NT (tM f) fun y => ∃ a0 a1, P a0 ∧ Q a1 ∧ y = [a0, a1]) :=
  en_tup (ean2 ha hb) fun ds ⟨a, b, e, p, q⟩ => by subst e; exact ⟨by rw [sizeLine_eq]; simp, [a, b], rfl, a, b, p, q, rfl⟩
theorem en_tupT3 {P Q R : α → Prop} (ha : EvN K S ta ρ (NT f P)) (hb : EvN K S tb ρ (NT f Q)) (hc : EvN K S tc ρ (NT f R)) : EvN K S (tTup (tCons ta (tCons tb (tCons tc tNil)))) ρ (NT (tM f) fun y => ∃ a0 a1 a2, P a0 ∧ Q a1 ∧ R a2 ∧ y = [a0, a1, a2]) :=
  en_tup (ean3 ha hb hc) fun ds ⟨a, b, c, e, p, q, r⟩ => by subst e; exact ⟨by rw [sizeLine_eq]; simp, [a, b, c], rfl, a, b, c, p, q, r, rfl⟩
theorem en_lcR {g : TG} {vs : List Nat} (f : β → D) (P : Int → Nat → β → Prop) {Pn : Int → Prop} (ha : EvN K S ta ρ (NT PyData.int Pn)) (hb : ∀ n, Pn n → -(2 ^ 62) ≤ n ∧ n ≤ 16000000 ∧ ∀ x, x ∈ List.range n.toNat → ∃ ρ2 js, GtD K S g (wipeE ρ vs) (.int (x : Int)) ρ2 js ∧ (∀ j ∈ js, j ∈ vs) ∧ EvN K S te ρ2 (NT f (P n x))) :
    EvN K S (tLc (iRng1 (tCons ta tNil)) g tYes te vs) ρ (NT (lM f) fun ys => ∃ n, Pn n ∧ All2 (P n) (List.range n.toNat) ys) := fun B H Fr σ R w k => by
  unfold tLc iRng1
  refine ean1 ha B H Fr σ _ w fun us ds B1 H1 ⟨n, e, pn⟩ g1 r1 => ?_
  · skip
    subst e
    obtain ⟨h1, h2, h3⟩ := hb n pn
    cases r1 with
    | cons r t =>
      cases r
      cases t
      have hi : EvI K S (fun σ H R => R (Itr 0 n.toNat) H) ρ ((List.range n.toNat).map fun i : Nat => PyData.int (i : Int)) := fun B H Fr σ R w k => by
        refine k _ B H (Gr.refl w.ex) ?_ (by rw [List.length_map, List.length_range, sizeLine_eq]; omega)
        have := its_rng (K := K) (B := B) (lo := 0) (n := n.toNat)
        unfold rangeD at this
        simpa using this
      have key := en_lcM f (P n) (List.range n.toNat) (fun i : Nat => PyData.int (i : Int)) hi h3 (te := te) (g := g) (vs := vs) B1 H1 Fr σ R (w.growN g1) fun v d B2 H2 ⟨ys, e, q⟩ g2 r2 => k v d B2 H2 ⟨ys, e, n, pn, q⟩ (g1.trans g2) r2
      unfold tLc at key
      exact ⟨n, rfl, by omega, by omega, key⟩
theorem ev_as {d2 : D} (e : d = d2) (h : EvD K S te ρ d) : EvD K S te ρ d2 := e ▸ h
theorem ev_qv [Inhabited α] {x : Option α} (h : EvD K S te ρ (encQ f x)) (hs : x.isSome = true) : EvD K S te ρ (f (qv x)) := by
  cases x with
  | none => cases hs
  | some x => exact h
/-! one part drawn -/
theorem en_op2P {r : R2} {f : α → D} {g : β → D} {h : γ → D} {a : α} {Q : β → Prop} {R : γ → Prop} (ha : EvD K S ta ρ (f a)) (hb : EvN K S tb ρ (NT g Q)) (hr : ∀ b, Q b → ∃ c, R2D K S r (f a) (g b) (.d (h c)) ∧ R c) : EvN K S (tOp r ta tb) ρ (NT h R) := en_op2 (EvN.of ha) hb fun x b e q => by subst e; exact hr b q
theorem en_op2Q {r : R2} {f : α → D} {g : β → D} {h : γ → D} {P : α → Prop} {b : β} {R : γ → Prop} (ha : EvN K S ta ρ (NT f P)) (hb : EvD K S tb ρ (g b)) (hr : ∀ a, P a → ∃ c, R2D K S r (f a) (g b) (.d (h c)) ∧ R c) : EvN K S (tOp r ta tb) ρ (NT h R) := en_op2 ha (EvN.of hb) fun x b q e => by subst e; exact hr x q
theorem en_op2LP {r : R2} {f : α → D} {g : β → D} {h : γ → D} {a : α} {Q : β → Prop} {R : List γ → Prop} (ha : EvD K S ta ρ (f a)) (hb : EvN K S tb ρ (NT g Q)) (hr : ∀ b, Q b → ∃ c, R2D K S r (f a) (g b) (oL h c) ∧ R c) : EvN K S (tOp r ta tb) ρ (NT (lM h) R) := en_op2L (EvN.of ha) hb fun x b e q => by subst e; exact hr b q
theorem en_op2LQ {r : R2} {f : α → D} {g : β → D} {h : γ → D} {P : α → Prop} {b : β} {R : List γ → Prop} (ha : EvN K S ta ρ (NT f P)) (hb : EvD K S tb ρ (g b)) (hr : ∀ a, P a → ∃ c, R2D K S r (f a) (g b) (oL h c) ∧ R c) : EvN K S (tOp r ta tb) ρ (NT (lM h) R) := en_op2L ha (EvN.of hb) fun x b q e => by subst e; exact hr x q
theorem en_cb2P {g : β → D} {h : γ → D} {r : List V → Hp → VK → Prop} {a : α} {Q : β → Prop} {R : γ → Prop} (h1 : EvD K S ta ρ (f a)) (h2 : EvN K S tb ρ (NT g Q)) (hr : ∀ b, Q b → ∃ c, RcD K S r [f a, g b] (.d (h c)) ∧ R c) : EvN K S (tCB r (tCons ta (tCons tb tNil))) ρ (NT h R) := en_cb2 (EvN.of h1) h2 fun x b e q => by subst e; exact hr b q
theorem en_cb2Q {g : β → D} {h : γ → D} {r : List V → Hp → VK → Prop} {P : α → Prop} {b : β} {R : γ → Prop} (h1 : EvN K S ta ρ (NT f P)) (h2 : EvD K S tb ρ (g b)) (hr : ∀ a, P a → ∃ c, RcD K S r [f a, g b] (.d (h c)) ∧ R c) : EvN K S (tCB r (tCons ta (tCons tb tNil))) ρ (NT h R) := en_cb2 h1 (EvN.of h2) fun x b q e => by subst e; exact hr x q
end
end DL

set_option Elab.async false
set_option linter.all false
set_option maxRecDepth 100000
set_option maxHeartbeats 2000000
/-! VM: dicts -/
namespace DL
open PySem PySem.Spec PyProof.Rows L2
open Evl (Ex Ex.refl Ex.trans Ex.new Ex.mut)
/-! ### dict(pairs), keys that are tuples -/
section
variable {X : Cx}
def mergeT (kvs more : List (List Key × V)) : List (List Key × V) := more.foldl (fun acc kv => putK acc kv.1 kv.2) kvs
theorem KT.merge {H : Hp} : ∀ {more : List (List Key × V)} {rs : List (List Key × Addr × Value)} {kvs : List (List Key × V)} {vs : List (List Key × Addr × Value)}, KT H more rs → KT H kvs vs → KT H (mergeT kvs more) (storedAllH vs rs)
  | [], _, _, _, .nil, h => h
  | c :: more, _, kvs, vs, .cons (b := q) h t, r => by
    obtain ⟨h1, h2, h3⟩ := h
    have h2' : H q.2.1 = some (.tup (c.1.map kV)) := h2
    have e := KT.merge t (r.put c.1 h2' h3)
    rw [h1] at e
    unfold mergeT storedAllH at e ⊢
    rw [List.foldl_cons, List.foldl_cons, h1]
    exact e
theorem pairs_ofT {pins : List (Addr × Obj)} {σ : L2.St} {H : Hp} {s : Shared} (I : Inv X pins σ H s) : ∀ {ps : List Addr} {kvs : List (List Key × V)}, Paired (fun p kv => ∃ b, SqT X.K H p [.ref b, kv.2] ∧ H b = some (.tup (kv.1.map kV))) ps kvs →
    ∃ prs : List (List Key × Addr × Value), KT H kvs prs ∧ prs.length = ps.length ∧ ∀ (j : Nat) (q : List Key × Addr × Value), prs[j]? = some q → ∃ p : Addr, ps[j]? = some p ∧ IsTup s.heap p #[.ref q.2.1, q.2.2]
  | _, _, .nil => ⟨[], .nil, rfl, fun j q e => by simp at e⟩
  | _, _, .cons (a := p) (b := kv) h t => by
    obtain ⟨prs, r, hl, hp⟩ := pairs_ofT I t
    obtain ⟨b, hq, hb⟩ := h
    obtain ⟨its, rv, ht, _⟩ := I.tuple hq
    obtain ⟨u, y, ei, ru, ry⟩ := vals2 rv
    subst ei
    cases ru
    refine ⟨(kv.1, b, y) :: prs, .cons ⟨rfl, hb, ry⟩ r, by rw [List.length_cons, List.length_cons, hl], fun j q e => ?_⟩
    cases j with
    | zero =>
      have e' : (kv.1, b, y) = q := Option.some.inj e
      subst e'
      exact ⟨p, rfl, ht⟩
    | succ j =>
      obtain ⟨p', e1, e2⟩ := hp j q (by simpa using e)
      exact ⟨p', by simpa using e1, e2⟩
theorem call_dictPT (hcalm : X.calm = true) (hu : X.A.units + 2 < cLine) : CallR X (.type "dict") (fun xs H Q => ∃ (a : Addr) (ps : List Addr) (kvs : List (List Key × V)), xs = [.ref a] ∧ SqL X.K H a (ps.map V.ref) ∧ Paired (fun p kv => ∃ b, SqT X.K H p [.ref b, kv.2] ∧ H b = some (.tup (kv.1.map kV))) ps kvs ∧
    ∀ p, H p = none → Q (.ref p) (upd H p (.dT (mergeT [] kvs)))) := by
  intro pins s σ H xs us Q I r q
  obtain ⟨a, ps, kvs, ex, hq, hp, q⟩ := q
  subst ex
  obtain ⟨u, eu, rx⟩ := vals1 r
  subst eu
  cases rx
  obtain ⟨its, rv, pl, hz⟩ := I.list hq
  have ei := refs_at rv
  subst ei
  rw [List.length_map] at hz
  obtain ⟨prs, rel, hl, hpr⟩ := pairs_ofT I hp
  obtain ⟨o, n, ho, hc, hd, hdat⟩ := pl
  have hlv : (prs.map fun q => ((Value.ref q.2.1, q.2.2) : Value × Value)).length = ps.length := by rw [List.length_map, hl]
  refine call_dict_pairsH (knd := tupleKind (mixKind X.prog X.w)) (ps := prs) (PairArg.list a (ps.map Value.ref).toArray (fun j => ps.getD j 0) (prs.map fun q => (Value.ref q.2.1, q.2.2))) (I.ok.hd hcalm) (show X.A.units + 2 < cLine from hu) ⟨⟨o, n, ho, hc, hd, hdat⟩, ?_, fun j k v e => ?_⟩ ⟨?_, fun i key v e => ?_⟩ (fun h' hk x hx => ?_) (by rw [hlv]; exact hz) fun h' tk hd' k => ?_
  · rw [hlv]; simp
  · rw [List.getElem?_map] at e
    obtain ⟨q, hqj, e2⟩ := Option.map_eq_some_iff.mp e
    obtain ⟨p', e3, e4⟩ := hpr j q hqj
    cases e2
    refine ⟨by simp [e3], .inl ?_⟩
    have : ps.getD j 0 = p' := by rw [List.getD_eq_getElem?_getD, e3]; rfl
    show s.heap.IsTuple (ps.getD j 0) _
    rw [this]
    exact e4
  · rw [List.length_map]
  · unfold PairRel at e
    rw [List.getElem?_map] at e
    obtain ⟨q, hqj, e2⟩ := Option.map_eq_some_iff.mp e
    cases e2
    exact ⟨q.1, q.2.1, hqj, rfl⟩
  · have all : ∀ {l : List (List Key × V)} {m : List (List Key × Addr × Value)}, KT H l m → ∀ x ∈ m, H x.2.1 = some (.tup (x.1.map kV)) := by
      intro l m q
      induction q with
      | nil => intro x hx; exact nomatch hx
      | @cons p q ps qs hq t ih =>
        intro x hx
        rcases List.mem_cons.mp hx with e | hx
        · subst e
          rw [← hq.1]; exact hq.2.1
        · exact ih x hx
    obtain ⟨o', i', n', h1, r'⟩ := key_of I.hok (all rel x hx)
    exact ⟨o', i', n', hk _ _ (Nat.ne_of_lt (Heap.lt_size h1)) (by simp) h1, r'⟩
  · have hm : (s.heap.objs.size == sysModules) = false := beq_eq_false_iff_ne.mpr (Nat.ne_of_gt I.big)
    have hlen : (mergeT [] kvs).length ≤ sizeLine := by
      have : ∀ (more acc : List (List Key × V)), (mergeT acc more).length ≤ acc.length + more.length := by
        intro more
        induction more with
        | nil => intro acc; simp [mergeT]
        | cons c more ih =>
          intro acc
          have h1 := ih (putK acc c.1 c.2)
          have h2 := length_putK acc c.1 c.2
          have e : mergeT acc (c :: more) = mergeT (putK acc c.1 c.2) more := rfl
          rw [e, List.length_cons]
          omega
      have h1 := this kvs []
      have h2 := Paired.length rel
      rw [List.length_nil] at h1
      omega
    obtain ⟨o2, es, ep, h1, h2, h3, h4, _, h5⟩ := hd'
    have hf : H s.heap.objs.size = none := I.hok.fresh (Nat.le_refl _)
    have rel' : KT (upd H s.heap.objs.size (.dT (mergeT [] kvs))) (mergeT [] kvs) (storedAllH [] prs) := (KT.merge rel .nil).keeps fun b ys e => (by rw [upd_ne (ne_of_none e hf)]; exact e)
    exact ⟨.ref s.heap.objs.size, upd H s.heap.objs.size (.dT (mergeT [] kvs)), I.laid (t' := tk) (fun b u e => k b u (by simp) e) (Nat.le_refl _) (show ObjOk X.prog X.w _ _ _ (.dT (mergeT [] kvs)) from ⟨hlen, hm, storedAllH [] prs, rel', o2, es, ep, h1, h2, h3, h4, h5⟩), rfl, q _ hf⟩
end
section
variable {K : PySem.W.Frag} {S : Option (Addr × Addr)} {ρ : Env} {ta tb tc te ti : TE} {tr : TA} {tt tu : TT} {ts us : TS} {α β γ σ : Type} {f : α → D} {g : β → D} {i j l : Nat} {E : DE} {d e : D} {B H : Hp}
/-! ### keys -/
theorem keyD_inj : ∀ {a b : Key}, keyD a = keyD b → a = b
  | .inl _, .inl _, e => by cases e; rfl
  | .inr _, .inr _, e => by cases e; rfl
  | .inl _, .inr _, e => by cases e
  | .inr _, .inl _, e => by cases e
theorem keyDs_inj : ∀ {a b : List Key}, a.map keyD = b.map keyD → a = b
  | [], [], _ => rfl
  | x :: a, y :: b, e => by
    simp only [List.map_cons, List.cons.injEq] at e
    rw [keyD_inj e.1, keyDs_inj e.2]
  | [], _ :: _, e => by cases e
  | _ :: _, [], e => by cases e
structure KOk (f : α → D) (kf : α → Key) : Prop where
  eq : ∀ x, keyD (kf x) = f x
  inj : ∀ x y, kf x = kf y → x = y
structure KTk (f : α → D) (kf : α → List Key) : Prop where
  eq : ∀ x, keyT (kf x) = f x
  inj : ∀ x y, kf x = kf y → x = y
abbrev kI : Int → Key := Sum.inl
abbrev kS : Str → Key := Sum.inr
theorem kok_int : KOk PyData.int kI := ⟨fun _ => rfl, fun _ _ e => by cases e; rfl⟩
theorem kok_str : KOk PyData.str kS := ⟨fun _ => rfl, fun _ _ e => by cases e; rfl⟩
abbrev ktT (kf : α → Key) : List α → List Key := fun xs => xs.map kf
abbrev kt1 (kf : α → Key) : α → List Key := fun x => [kf x]
abbrev kt2 {α β : Type} (k1 : α → Key) (k2 : β → Key) : α × β → List Key := fun x => [k1 x.1, k2 x.2]
abbrev kt3 {α β γ : Type} (k1 : α → Key) (k2 : β → Key) (k3 : γ → Key) : α × β × γ → List Key := fun x => [k1 x.1, k2 x.2.1, k3 x.2.2]
abbrev kt4 {α β γ δ : Type} (k1 : α → Key) (k2 : β → Key) (k3 : γ → Key) (k4 : δ → Key) : α × β × γ × δ → List Key := fun x => [k1 x.1, k2 x.2.1, k3 x.2.2.1, k4 x.2.2.2]
theorem ktk_T {kf : α → Key} (h : KOk f kf) : KTk (tM f) (ktT kf) := ⟨fun xs => by
    show PyData.tuple ((xs.map kf).map keyD) = _
    rw [List.map_map]
    exact congrArg PyData.tuple (List.map_congr_left fun x _ => h.eq x), fun xs ys e => by
    induction xs generalizing ys with
    | nil => cases ys with | nil => rfl | cons _ _ => cases e
    | cons x xs ih => cases ys with
      | nil => cases e
      | cons y ys => simp only [ktT, List.map_cons, List.cons.injEq] at e; rw [h.inj _ _ e.1, ih ys e.2]⟩
theorem ktk_p2 {k1 : α → Key} {k2 : β → Key} (h1 : KOk f k1) (h2 : KOk g k2) : KTk (p2 f g) (kt2 k1 k2) := ⟨fun x => by simp [keyT, kt2, h1.eq, h2.eq], fun x y e => by
  simp only [kt2, List.cons.injEq, and_true] at e
  exact Prod.ext (h1.inj _ _ e.1) (h2.inj _ _ e.2)⟩
theorem ktk_p3 {h : γ → D} {k1 : α → Key} {k2 : β → Key} {k3 : γ → Key} (h1 : KOk f k1) (h2 : KOk g k2) (h3 : KOk h k3) : KTk (p3 f g h) (kt3 k1 k2 k3) := ⟨fun x => by simp [keyT, kt3, h1.eq, h2.eq, h3.eq], fun x y e => by
  simp only [kt3, List.cons.injEq, and_true] at e
  exact Prod.ext (h1.inj _ _ e.1) (Prod.ext (h2.inj _ _ e.2.1) (h3.inj _ _ e.2.2))⟩
theorem ktk_p4 {δ : Type} {h : γ → D} {m : δ → D} {k1 : α → Key} {k2 : β → Key} {k3 : γ → Key} {k4 : δ → Key} (h1 : KOk f k1) (h2 : KOk g k2) (h3 : KOk h k3) (h4 : KOk m k4) : KTk (p4 f g h m) (kt4 k1 k2 k3 k4) := ⟨fun x => by simp [keyT, kt4, h1.eq, h2.eq, h3.eq, h4.eq], fun x y e => by
  simp only [kt4, List.cons.injEq, and_true] at e
  exact Prod.ext (h1.inj _ _ e.1) (Prod.ext (h2.inj _ _ e.2.1) (Prod.ext (h3.inj _ _ e.2.2.1) (h4.inj _ _ e.2.2.2)))⟩
/-- the key's value -/
theorem rp_key {kf : α → Key} (ok : KOk f kf) {x : α} {u : V} (r : Rp K B u (f x)) : u = kV (kf x) := by
  rw [← ok.eq] at r
  cases e : kf x with
  | inl n => rw [e] at r; cases r; rfl
  | inr n => rw [e] at r; cases r; rfl
theorem rpAll_keys : ∀ {ks : List Key} {vs : List V}, RpAll K B vs (ks.map keyD) → vs = ks.map kV
  | [], _, .nil => rfl
  | k :: ks, _, .cons r t => by
    rw [List.map_cons, rpAll_keys t, rp_key (kf := fun x : Key => x) (f := keyD) ⟨fun _ => rfl, fun _ _ e => e⟩ r]
theorem rp_keyT {kf : α → List Key} (ok : KTk f kf) {x : α} {u : V} (r : Rp K B u (f x)) : ∃ b, u = .ref b ∧ B b = some (.tup ((kf x).map kV)) := by
  rw [← ok.eq] at r
  unfold keyT at r
  cases r with
  | tup h ra => rw [rpAll_keys ra] at h; exact ⟨_, rfl, h⟩
/-! ### rows of keys -/
section
variable {κ : Type} [DecidableEq κ] [DecidableEq α] {kf : α → κ}
theorem val_dget (inj : ∀ x y, kf x = kf y → x = y) (k : α) : ∀ {kvs : List (κ × V)} {m : List (α × β)}, kvs.map (·.1) = m.map (fun p => kf p.1) → RpAll K B (kvs.map (·.2)) (m.map fun p => g p.2) →
    (dget m k = none → valV kvs (kf k) = none) ∧ ∀ y, dget m k = some y → ∃ v, valV kvs (kf k) = some v ∧ Rp K B v (g y)
  | [], [], _, _ => ⟨fun _ => rfl, fun y e => by cases e⟩
  | (c, v) :: kvs, (x, y) :: m, e, r => by
    simp only [List.map_cons, List.cons.injEq] at e
    obtain ⟨e1, e2⟩ := e
    subst e1
    cases r with
    | cons r1 r2 =>
    have ih := val_dget inj k e2 r2
    by_cases h : x = k
    · subst h
      refine ⟨fun z => ?_, fun y' z => ?_⟩
      · simp [dget] at z
      · simp [dget] at z
        subst z
        exact ⟨v, by simp [valV], r1⟩
    · have h' : ¬ kf x = kf k := fun z => h (inj _ _ z)
      have e3 : dget ((x, y) :: m) k = dget m k := by simp [dget, h]
      rw [e3, valV_neg h']
      exact ih
  | [], _ :: _, e, _ => by cases e
  | _ :: _, [], e, _ => by cases e
theorem any_keys (inj : ∀ x y, kf x = kf y → x = y) (k : α) : ∀ {kvs : List (κ × V)} {m : List (α × β)}, kvs.map (·.1) = m.map (fun p => kf p.1) → (kvs.any fun p => decide (p.1 = kf k)) = m.any fun p => decide (p.1 = k)
  | [], [], _ => rfl
  | (c, v) :: kvs, (x, y) :: m, e => by
    simp only [List.map_cons, List.cons.injEq] at e
    obtain ⟨e1, e2⟩ := e
    subst e1
    rw [List.any_cons, List.any_cons, any_keys inj k e2]
    congr 1
    by_cases h : x = k
    · subst h; simp
    · have h' : ¬ kf x = kf k := fun z => h (inj _ _ z)
      rw [decide_eq_false h, decide_eq_false h']
  | [], _ :: _, e => by cases e
  | _ :: _, [], e => by cases e
theorem put_dput (inj : ∀ x y, kf x = kf y → x = y) {k : α} {v : V} {y : β} (r : Rp K B v (g y)) {kvs : List (κ × V)} {m : List (α × β)} (e : kvs.map (·.1) = m.map (fun p => kf p.1)) (ra : RpAll K B (kvs.map (·.2)) (m.map fun p => g p.2)) :
    (putK kvs (kf k) v).map (·.1) = (dput m k y).map (fun p => kf p.1) ∧ RpAll K B ((putK kvs (kf k) v).map (·.2)) ((dput m k y).map fun p => g p.2) := by
  unfold putK dput
  rw [any_keys inj k e]
  by_cases h : (m.any fun p => decide (p.1 = k)) = true
  · rw [if_pos h, if_pos h]
    clear h
    induction kvs generalizing m with
    | nil => cases m with | nil => exact ⟨rfl, .nil⟩ | cons _ _ => cases e
    | cons c kvs ih => cases m with
      | nil => cases e
      | cons x m =>
        simp only [List.map_cons, List.cons.injEq] at e
        cases ra with
        | cons r1 r2 =>
        obtain ⟨h1, h2⟩ := ih e.2 r2
        by_cases hx : x.1 = k
        · have hc : c.1 = kf k := by rw [e.1, hx]
          simp only [List.map_cons, hx, hc, if_true, List.cons.injEq, true_and]
          exact ⟨h1, .cons r h2⟩
        · have hc : ¬ c.1 = kf k := fun z => hx (inj _ _ (by rw [← e.1, z]))
          simp only [List.map_cons, hx, hc, if_false, List.cons.injEq]
          exact ⟨⟨e.1, h1⟩, .cons r1 h2⟩
  · rw [if_neg h, if_neg h]
    simp only [List.map_append, List.map_cons, List.map_nil, e]
    exact ⟨trivial, ra.append (.cons r .nil)⟩
end
/-! ### dicts as data -/
theorem rp_dM {kf : α → Key} (ok : KOk f kf) {m : List (α × β)} {v : V} (r : Rp K B v (dM f g m)) : ∃ a kvs, v = .ref a ∧ Rd B a (.dK kvs) ∧ kvs.map (·.1) = m.map (fun p => kf p.1) ∧ RpAll K B (kvs.map (·.2)) (m.map fun p => g p.2) := by
  have key : ∀ d, Rp K B v d → ∀ ds, d = .dict ds → ds = m.map (fun p => (f p.1, g p.2)) → ∃ a kvs, v = .ref a ∧ Rd B a (.dK kvs) ∧ kvs.map (·.1) = m.map (fun p => kf p.1) ∧ RpAll K B (kvs.map (·.2)) (m.map fun p => g p.2) := by
    intro d r ds e1 e2
    cases r with
    | dk h ra hk =>
      injection e1 with e1
      subst e1
      subst e2
      refine ⟨_, _, rfl, h, ?_, by simpa [List.map_map, Function.comp_def] using ra⟩
      refine List.map_inj_right (f := keyD) (fun a b => keyD_inj) |>.mp ?_
      rw [List.map_map, List.map_map]
      rw [List.map_map] at hk
      refine hk.trans (List.map_congr_left fun p _ => (ok.eq p.1).symm)
    | dt h ra hk =>
      injection e1 with e1
      subst e1
      cases m with
      | nil => cases e2
      | cons p m =>
        simp only [List.map_cons, List.cons.injEq, Prod.mk.injEq] at e2
        have := e2.1.1
        rw [← ok.eq] at this
        cases hkf : kf p.1 <;> rw [hkf] at this <;> cases this
    | _ => cases e1
  exact key _ r _ rfl rfl
theorem rp_dT {kf : α → List Key} (ok : KTk f kf) {m : List (α × β)} {v : V} (r : Rp K B v (dT f g m)) : ∃ a kvs, v = .ref a ∧ Rd B a (.dT kvs) ∧ kvs.map (·.1) = m.map (fun p => kf p.1) ∧ RpAll K B (kvs.map (·.2)) (m.map fun p => g p.2) := by
  have key : ∀ d, Rp K B v d → ∀ ds, d = .dict ds → ds = (.none, .none) :: m.map (fun p => (f p.1, g p.2)) → ∃ a kvs, v = .ref a ∧ Rd B a (.dT kvs) ∧ kvs.map (·.1) = m.map (fun p => kf p.1) ∧ RpAll K B (kvs.map (·.2)) (m.map fun p => g p.2) := by
    intro d r ds e1 e2
    cases r with
    | dt h ra hk =>
      injection e1 with e1
      subst e1
      injection e2 with e3 e2
      subst e2
      refine ⟨_, _, rfl, h, ?_, by simpa [List.map_map, Function.comp_def] using ra⟩
      refine List.map_inj_right (f := keyT) (fun a b e => keyDs_inj (PyData.tuple.inj e)) |>.mp ?_
      rw [List.map_map, List.map_map]
      rw [List.map_map] at hk
      refine hk.trans (List.map_congr_left fun p _ => (ok.eq p.1).symm)
    | dk h ra hk =>
      injection e1 with e1
      subst e1
      subst e2
      rename_i kvs
      cases kvs with
      | nil => cases hk
      | cons c kvs =>
        simp only [List.map_cons, List.cons.injEq] at hk
        cases hc : c.1 <;> rw [hc] at hk <;> cases hk.1
    | _ => cases e1
  exact key _ r _ rfl rfl
section
variable [DecidableEq α]
theorem dgd_of [Inhabited β] {m : List (α × β)} {k : α} {y : β} (h : dget m k = some y) : dgd m k = y := by unfold dgd; rw [h]; rfl
theorem get_of [Inhabited β] {m : List (α × β)} {k : α} (h : dhas m k = true) : dget m k = some (dgd m k) := by
  unfold dhas at h
  obtain ⟨y, e⟩ := Option.isSome_iff_exists.mp h
  rw [dgd_of e, e]
theorem dget_K {kf : α → Key} (ok : KOk f kf) {m : List (α × β)} {v u : V} {k : α} (ex : Ex B H) (r : Rp K B v (dM f g m)) (q : Rp K B u (f k)) : ∃ a o, v = .ref a ∧ DGet H a u o ∧ o.isSome = dhas m k ∧ ∀ y, dget m k = some y → ∃ w, o = some w ∧ Rp K B w (g y) := by
  obtain ⟨a, kvs, rfl, hd, hk, ra⟩ := rp_dM ok r
  have hu := rp_key ok q
  obtain ⟨h1, h2⟩ := val_dget ok.inj k hk ra
  refine ⟨a, _, rfl, .inl ⟨kvs, kf k, Evl.ex_rd ex hd, hu, rfl⟩, ?_, h2⟩
  unfold dhas
  cases e : dget m k with
  | none => rw [h1 e]; rfl
  | some y => obtain ⟨w, e1, _⟩ := h2 y e; rw [e1]; rfl
theorem dget_T {kf : α → List Key} (ok : KTk f kf) {m : List (α × β)} {v u : V} {k : α} (ex : Ex B H) (r : Rp K B v (dT f g m)) (q : Rp K B u (f k)) : ∃ a o, v = .ref a ∧ DGet H a u o ∧ o.isSome = dhas m k ∧ ∀ y, dget m k = some y → ∃ w, o = some w ∧ Rp K B w (g y) := by
  obtain ⟨a, kvs, rfl, hd, hk, ra⟩ := rp_dT ok r
  obtain ⟨b, hu, hb⟩ := rp_keyT ok q
  obtain ⟨h1, h2⟩ := val_dget ok.inj k hk ra
  refine ⟨a, _, rfl, .inr ⟨kvs, kf k, b, Evl.ex_rd ex hd, hu, ex _ _ hb, rfl⟩, ?_, h2⟩
  unfold dhas
  cases e : dget m k with
  | none => rw [h1 e]; rfl
  | some y => obtain ⟨w, e1, _⟩ := h2 y e; rw [e1]; rfl
theorem r2_getK [Inhabited β] {kf : α → Key} (ok : KOk f kf) {m : List (α × β)} {k : α} (hk : dhas m k = true) : R2D K S (rIxX K) (dM f g m) (f k) (.d (g (dgd m k))) := fun B H v u R ex r q kk => by
  obtain ⟨a, o, rfl, hg, _, h2⟩ := dget_K ok ex r q
  obtain ⟨w, rfl, rw'⟩ := h2 _ (get_of hk)
  exact .inr ⟨a, w, rfl, hg, kk.val ex rw'⟩
theorem r2_getT [Inhabited β] {kf : α → List Key} (ok : KTk f kf) {m : List (α × β)} {k : α} (hk : dhas m k = true) : R2D K S (rIxX K) (dT f g m) (f k) (.d (g (dgd m k))) := fun B H v u R ex r q kk => by
  obtain ⟨a, o, rfl, hg, _, h2⟩ := dget_T ok ex r q
  obtain ⟨w, rfl, rw'⟩ := h2 _ (get_of hk)
  exact .inr ⟨a, w, rfl, hg, kk.val ex rw'⟩
theorem r2_inK {kf : α → Key} (ok : KOk f kf) {m : List (α × β)} {k : α} : R2D K S (rInX K false) (f k) (dM f g m) (.d (.bool (dhas m k))) := fun B H v u R ex q r kk => by
  obtain ⟨a, o, rfl, hg, e, _⟩ := dget_K ok ex r q
  exact .inr ⟨a, o, rfl, hg, by rw [e]; exact kk.val ex (.bl _)⟩
theorem r2_inT {kf : α → List Key} (ok : KTk f kf) {m : List (α × β)} {k : α} : R2D K S (rInX K false) (f k) (dT f g m) (.d (.bool (dhas m k))) := fun B H v u R ex q r kk => by
  obtain ⟨a, o, rfl, hg, e, _⟩ := dget_T ok ex r q
  exact .inr ⟨a, o, rfl, hg, by rw [e]; exact kk.val ex (.bl _)⟩
theorem r2_ninK {kf : α → Key} (ok : KOk f kf) {m : List (α × β)} {k : α} : R2D K S (rInX K true) (f k) (dM f g m) (.d (.bool (!dhas m k))) := fun B H v u R ex q r kk => by
  obtain ⟨a, o, rfl, hg, e, _⟩ := dget_K ok ex r q
  exact .inr ⟨a, o, rfl, hg, by rw [e]; exact kk.val ex (.bl _)⟩
theorem r2_ninT {kf : α → List Key} (ok : KTk f kf) {m : List (α × β)} {k : α} : R2D K S (rInX K true) (f k) (dT f g m) (.d (.bool (!dhas m k))) := fun B H v u R ex q r kk => by
  obtain ⟨a, o, rfl, hg, e, _⟩ := dget_T ok ex r q
  exact .inr ⟨a, o, rfl, hg, by rw [e]; exact kk.val ex (.bl _)⟩
end
theorem rc_lenDK {kf : α → Key} (ok : KOk f kf) {m : List (α × β)} : RcD K S (rLenX K) [dM f g m] (.d (.int (m.length : Int))) := fun B H vs R ex r kk => by
  cases r with
  | cons r t =>
  cases t
  obtain ⟨a, kvs, rfl, hd, hk, ra⟩ := rp_dM ok r
  have e := congrArg List.length hk
  rw [List.length_map, List.length_map] at e
  exact .inr ⟨a, kvs, rfl, Evl.ex_rd ex hd, by rw [e]; exact kk.val ex (.int _)⟩
theorem rc_keysK {kf : α → Key} (ok : KOk f kf) {m : List (α × β)} : RcD K S (rLstO K) [dM f g m] (oL f (m.map (·.1))) := fun B H vs R ex r kk => by
  cases r with
  | cons r t =>
  cases t
  obtain ⟨a, kvs, rfl, hd, hk, ra⟩ := rp_dM ok r
  rw [oL_ds] at kk
  refine .inr (.inl ⟨a, kvs, rfl, Evl.ex_rd ex hd, kk.lst ex ?_⟩)
  clear ra hd kk r
  induction kvs generalizing m with
  | nil => cases m with | nil => exact .nil | cons _ _ => cases hk
  | cons c kvs ih => cases m with
    | nil => cases hk
    | cons p m =>
      simp only [List.map_cons, List.cons.injEq] at hk ⊢
      refine .cons ?_ (ih hk.2)
      rw [hk.1, ← ok.eq]
      cases kf p.1 with
      | inl n => exact .int n
      | inr n => exact .str n
/-- list(d.values()) -/
theorem ev_listV {kf : α → Key} (ok : KOk f kf) {m : List (α × β)} (h : EvD K S te ρ (dM f g m)) : EvO K S (tCB (rLstO K) (tCons (tDVal te) tNil)) ρ (oL g (m.map (·.2))) := fun B H Fr σ R w kk =>
  h.use w fun v B1 H1 g1 r1 => by
    obtain ⟨a, kvs, rfl, hd, hk, ra⟩ := rp_dM ok r1
    refine ⟨a, kvs, rfl, Evl.ex_rd g1.sub hd, fun p hp => ?_⟩
    have e2 : Ex B1 (upd H1 p (valsO p a)) := g1.sub.trans (Ex.new hp)
    refine .inr (.inr ⟨p, a, kvs, rfl, upd_same, Evl.ex_rd e2 hd, fun l hl => ?_⟩)
    rw [oL_ds] at kk
    have ra' : RpAll K B1 (kvs.map fun kv => kv.2) ((m.map (·.2)).map g) := by rw [List.map_map]; exact ra
    refine kk _ (fun a => a = l) B1 _ ((g1.trans (Gr.made g1.sub _ hp)).trans (Gr.made e2 _ hl)) (Ow.newList (fresh_of e2 hl) upd_same ra') fun b z => ?_
    subst z
    exact fresh_of g1.h (fresh_of (Ex.new hp) hl)
/-! ### owned dicts -/
abbrev oK (kf : α → Key) (g : β → D) (m : List (α × β)) : O := .kd (m.map fun p => (kf p.1, .d (g p.2)))
abbrev oT (kf : α → List Key) (g : β → D) (m : List (α × β)) : O := .td (m.map fun p => (kf p.1, .d (g p.2)))
theorem oK_data {kf : α → Key} (ok : KOk f kf) {m : List (α × β)} : (oK kf g m).data = dM f g m := by
  show PyData.dict (O.dataK _) = _
  rw [O.dataK_map, List.map_map]
  exact congrArg PyData.dict (List.map_congr_left fun p _ => by simp [ok.eq, O.data])
theorem oT_data {kf : α → List Key} (ok : KTk f kf) {m : List (α × β)} : (oT kf g m).data = dT f g m := by
  show PyData.dict (_ :: O.dataT _) = _
  rw [O.dataT_map, List.map_map]
  exact congrArg (fun z => PyData.dict (_ :: z)) (List.map_congr_left fun p _ => by simp [ok.eq, O.data])
theorem nsK {kf : α → Key} {m : List (α × β)} : NoSrc (oK kf g m) := .kd _ fun x hx => by obtain ⟨p, _, rfl⟩ := List.mem_map.mp hx; exact .d _
theorem nsT {kf : α → List Key} {m : List (α × β)} : NoSrc (oT kf g m) := .td _ fun x hx => by obtain ⟨p, _, rfl⟩ := List.mem_map.mp hx; exact .d _
theorem its_of {κ : Type} : ∀ {kvs : List (κ × V)} {os : List (κ × D)}, kvs.map (·.1) = os.map (·.1) → RpAll K B (kvs.map (·.2)) (os.map (·.2)) → ∃ its : List (κ × V × O), its.map (fun x => (x.1, x.2.1)) = kvs ∧ its.map (fun x => (x.1, x.2.2)) = os.map (fun x => (x.1, O.d x.2)) ∧ ∀ (i : Nat) x, its[i]? = some x → ∃ d, x.2.2 = O.d d ∧ Rp K B x.2.1 d
  | [], [], _, _ => ⟨[], rfl, rfl, fun i x e => by simp at e⟩
  | c :: kvs, p :: os, e, r => by
    simp only [List.map_cons, List.cons.injEq] at e
    cases r with
    | cons r1 r2 =>
    obtain ⟨its, h1, h2, h3⟩ := its_of e.2 r2
    refine ⟨(c.1, c.2, .d p.2) :: its, by rw [List.map_cons, h1], by rw [List.map_cons, h2, List.map_cons, e.1], fun i x hx => ?_⟩
    cases i with
    | zero => simp at hx; subst hx; exact ⟨_, rfl, r1⟩
    | succ i => exact h3 i x (by simpa using hx)
  | [], _ :: _, e, _ => by cases e
  | _ :: _, [], e, _ => by cases e
theorem Ow.newK {p : Addr} {kf : α → Key} {kvs : List (Key × V)} {m : List (α × β)} (hB : B p = none) (hH : H p = some (.dK kvs)) (hk : kvs.map (·.1) = m.map (fun p => kf p.1)) (r : RpAll K B (kvs.map (·.2)) (m.map fun p => g p.2)) : Ow K S B H (.ref p) (oK kf g m) fun a => a = p := by
  obtain ⟨its, h1, h2, h3⟩ := its_of (kvs := kvs) (os := m.map fun p => (kf p.1, g p.2)) (by simpa [List.map_map, Function.comp_def] using hk) (by simpa [List.map_map, Function.comp_def] using r)
  rw [List.map_map] at h2
  have key := Ow.kd (K := K) (S := S) (B := B) (H := H) p its (fun a => a = p) (fun _ _ => False) hB (by rw [h1]; exact hH) (fun i x hx => by
    obtain ⟨d, e, q⟩ := h3 i x hx
    rw [e]
    exact .d _ _ _ q fun _ z => z) (fun _ _ _ _ z => z.elim) (fun _ z => z) (fun _ _ z => z.elim) (fun a => ⟨.inl, fun z => z.elim id fun ⟨_, z⟩ => z.elim⟩)
  rw [h2] at key
  exact key
theorem Ow.newT {p : Addr} {kf : α → List Key} {kvs : List (List Key × V)} {m : List (α × β)} (hB : B p = none) (hH : H p = some (.dT kvs)) (hk : kvs.map (·.1) = m.map (fun p => kf p.1)) (r : RpAll K B (kvs.map (·.2)) (m.map fun p => g p.2)) : Ow K S B H (.ref p) (oT kf g m) fun a => a = p := by
  obtain ⟨its, h1, h2, h3⟩ := its_of (kvs := kvs) (os := m.map fun p => (kf p.1, g p.2)) (by simpa [List.map_map, Function.comp_def] using hk) (by simpa [List.map_map, Function.comp_def] using r)
  rw [List.map_map] at h2
  have key := Ow.td (K := K) (S := S) (B := B) (H := H) p its (fun a => a = p) (fun _ _ => False) hB (by rw [h1]; exact hH) (fun i x hx => by
    obtain ⟨d, e, q⟩ := h3 i x hx
    rw [e]
    exact .d _ _ _ q fun _ z => z) (fun _ _ _ _ z => z.elim) (fun _ z => z) (fun _ _ z => z.elim) (fun a => ⟨.inl, fun z => z.elim id fun ⟨_, z⟩ => z.elim⟩)
  rw [h2] at key
  exact key
theorem its_back {κ : Type} : ∀ {its : List (κ × V × O)} {os : List (κ × D)} {Q : Nat → V → O → Prop}, its.map (fun x => (x.1, x.2.2)) = os.map (fun x => (x.1, O.d x.2)) → (∀ (i : Nat) x, its[i]? = some x → Q i x.2.1 x.2.2) → (∀ i v d, Q i v (.d d) → Rp K B v d) → (its.map fun x => (x.1, x.2.1)).map (·.1) = os.map (·.1) ∧ RpAll K B ((its.map fun x => (x.1, x.2.1)).map (·.2)) (os.map (·.2))
  | [], [], _, _, _, _ => ⟨rfl, .nil⟩
  | x :: its, p :: os, Q, e, h, q => by
    simp only [List.map_cons, List.cons.injEq, Prod.mk.injEq] at e
    obtain ⟨h1, h2⟩ := its_back (Q := fun i => Q (i + 1)) e.2 (fun i y hy => h (i + 1) y (by simpa using hy)) fun i v d => q (i + 1) v d
    have hx := h 0 x (by simp)
    rw [e.1.2] at hx
    refine ⟨?_, .cons (q _ _ _ hx) h2⟩
    simp only [List.map_cons, e.1.1, h1]
  | [], _ :: _, _, e, _, _ => by cases e
  | _ :: _, [], _, e, _, _ => by cases e
theorem Ow.datasK {kf : α → Key} {v : V} {F : Set'} {o : O} (h : Ow K S B H v o F) : ∀ {m : List (α × β)}, o = oK kf g m → ∃ p kvs, v = .ref p ∧ B p = none ∧ H p = some (.dK kvs) ∧ kvs.map (·.1) = m.map (fun p => kf p.1) ∧ RpAll K B (kvs.map (·.2)) (m.map fun p => g p.2) ∧ ∀ a, F a ↔ a = p := by
  intro m e
  cases h with
  | kd p its _ Fs hB hH ih hd hp hn hF =>
    injection e with e
    have e' : its.map (fun x => (x.1, x.2.2)) = (m.map fun p => (kf p.1, g p.2)).map (fun x => (x.1, O.d x.2)) := by rw [List.map_map]; exact e
    obtain ⟨h1, h2⟩ := its_back (K := K) (B := B) (Q := fun i v o => Ow K S B H v o (Fs i)) e' ih fun i v d q => q.dinv.1
    rw [List.map_map, List.map_map] at h1
    rw [List.map_map, List.map_map] at h2
    refine ⟨p, _, rfl, hB, hH, by rw [List.map_map]; exact h1, by rw [List.map_map]; exact h2, fun a => ⟨fun ha => ?_, fun z => (hF a).mpr (.inl z)⟩⟩
    rcases (hF a).mp ha with z | ⟨i, z⟩
    · exact z
    · have hx := List.getElem?_eq_getElem (hn i a z)
      have := ih i _ hx
      have hm : (its.map fun x => (x.1, x.2.2))[i]? = some ((its[i]'(hn i a z)).1, (its[i]'(hn i a z)).2.2) := by rw [List.getElem?_map, hx]; rfl
      rw [e, List.getElem?_map] at hm
      obtain ⟨p', _, e2⟩ := Option.map_eq_some_iff.mp hm
      injection e2 with _ e2
      rw [← e2] at this
      exact absurd z (this.dinv.2 a)
  | _ => cases e
theorem Ow.datasT {kf : α → List Key} {v : V} {F : Set'} {o : O} (h : Ow K S B H v o F) : ∀ {m : List (α × β)}, o = oT kf g m → ∃ p kvs, v = .ref p ∧ B p = none ∧ H p = some (.dT kvs) ∧ kvs.map (·.1) = m.map (fun p => kf p.1) ∧ RpAll K B (kvs.map (·.2)) (m.map fun p => g p.2) ∧ ∀ a, F a ↔ a = p := by
  intro m e
  cases h with
  | td p its _ Fs hB hH ih hd hp hn hF =>
    injection e with e
    have e' : its.map (fun x => (x.1, x.2.2)) = (m.map fun p => (kf p.1, g p.2)).map (fun x => (x.1, O.d x.2)) := by rw [List.map_map]; exact e
    obtain ⟨h1, h2⟩ := its_back (K := K) (B := B) (Q := fun i v o => Ow K S B H v o (Fs i)) e' ih fun i v d q => q.dinv.1
    rw [List.map_map, List.map_map] at h1
    rw [List.map_map, List.map_map] at h2
    refine ⟨p, _, rfl, hB, hH, by rw [List.map_map]; exact h1, by rw [List.map_map]; exact h2, fun a => ⟨fun ha => ?_, fun z => (hF a).mpr (.inl z)⟩⟩
    rcases (hF a).mp ha with z | ⟨i, z⟩
    · exact z
    · have hx := List.getElem?_eq_getElem (hn i a z)
      have := ih i _ hx
      have hm : (its.map fun x => (x.1, x.2.2))[i]? = some ((its[i]'(hn i a z)).1, (its[i]'(hn i a z)).2.2) := by rw [List.getElem?_map, hx]; rfl
      rw [e, List.getElem?_map] at hm
      obtain ⟨p', _, e2⟩ := Option.map_eq_some_iff.mp hm
      injection e2 with _ e2
      rw [← e2] at this
      exact absurd z (this.dinv.2 a)
  | _ => cases e
theorem Wd.upK {Fr : Set'} {σ : L2.St} {kf : α → Key} {m : List (α × β)} (w : Wd K S B H Fr σ ρ) (e : ρ[i]? = some (some (oK kf g m))) : ∃ p kvs, σ[i]? = some (some (.ref p)) ∧ H p = some (.dK kvs) ∧ kvs.map (·.1) = m.map (fun p => kf p.1) ∧ RpAll K B (kvs.map (·.2)) (m.map fun p => g p.2) ∧
    ∀ kvs' (m' : List (α × β)), kvs'.map (·.1) = m'.map (fun p => kf p.1) → RpAll K B (kvs'.map (·.2)) (m'.map fun p => g p.2) → Wd K S B (upd H p (.dK kvs')) Fr σ (ρ.set i (some (oK kf g m'))) ∧ Aft S B H Fr B (upd H p (.dK kvs')) := by
  have w' : Wd K S B H (fun a => Fr a ∨ False) σ ρ := w.less fun a z => z.elim id fun z => z.elim
  obtain ⟨v, F, e1, q, n, k⟩ := w'.mod e fun _ z => z.elim
  obtain ⟨p, kvs, rfl, hB, hH, hk, ra, hF⟩ := q.datasK rfl
  refine ⟨p, kvs, e1, hH, hk, ra, fun kvs' m' hk' r' => ?_⟩
  refine k (upd H p (.dK kvs')) (oK kf g m') (fun a => a = p) (fun a ha => upd_ne fun z => ha ((hF a).mpr z)) (fun a ha => ?_) (Ow.newK hB upd_same hk' r') fun a z => .inl ((hF a).mpr z)
  rw [(hF a).mp ha, upd_same]
  simp
theorem Wd.upT {Fr : Set'} {σ : L2.St} {kf : α → List Key} {m : List (α × β)} (w : Wd K S B H Fr σ ρ) (e : ρ[i]? = some (some (oT kf g m))) : ∃ p kvs, σ[i]? = some (some (.ref p)) ∧ H p = some (.dT kvs) ∧ kvs.map (·.1) = m.map (fun p => kf p.1) ∧ RpAll K B (kvs.map (·.2)) (m.map fun p => g p.2) ∧
    ∀ kvs' (m' : List (α × β)), kvs'.map (·.1) = m'.map (fun p => kf p.1) → RpAll K B (kvs'.map (·.2)) (m'.map fun p => g p.2) → Wd K S B (upd H p (.dT kvs')) Fr σ (ρ.set i (some (oT kf g m'))) ∧ Aft S B H Fr B (upd H p (.dT kvs')) := by
  have w' : Wd K S B H (fun a => Fr a ∨ False) σ ρ := w.less fun a z => z.elim id fun z => z.elim
  obtain ⟨v, F, e1, q, n, k⟩ := w'.mod e fun _ z => z.elim
  obtain ⟨p, kvs, rfl, hB, hH, hk, ra, hF⟩ := q.datasT rfl
  refine ⟨p, kvs, e1, hH, hk, ra, fun kvs' m' hk' r' => ?_⟩
  refine k (upd H p (.dT kvs')) (oT kf g m') (fun a => a = p) (fun a ha => upd_ne fun z => ha ((hF a).mpr z)) (fun a ha => ?_) (Ow.newT hB upd_same hk' r') fun a z => .inl ((hF a).mpr z)
  rw [(hF a).mp ha, upd_same]
  simp
/-! ### new dicts -/
def tDNew : TE := fun σ H Q => tDNewK σ H Q ∨ tDNewT σ H Q
theorem ev_dnewK (kf : α → Key) (g : β → D) : EvO K S tDNew ρ (oK kf g []) := fun B H Fr σ R w k => .inl fun p hp =>
  k _ (fun a => a = p) B _ (Gr.made w.ex _ hp) (Ow.newK (fresh_of w.ex hp) upd_same rfl .nil) fun a z => z ▸ hp
theorem ev_dnewT (kf : α → List Key) (g : β → D) : EvO K S tDNew ρ (oT kf g []) := fun B H Fr σ R w k => .inr fun p hp =>
  k _ (fun a => a = p) B _ (Gr.made w.ex _ hp) (Ow.newT (fresh_of w.ex hp) upd_same rfl .nil) fun a z => z ▸ hp
theorem ev_frzK {kf : α → Key} (ok : KOk f kf) {m : List (α × β)} (h : EvO K S te ρ (oK kf g m)) : EvD K S te ρ (dM f g m) := by
  have := ev_frz h nsK
  rwa [oK_data ok] at this
theorem ev_frzT {kf : α → List Key} (ok : KTk f kf) {m : List (α × β)} (h : EvO K S te ρ (oT kf g m)) : EvD K S te ρ (dT f g m) := by
  have := ev_frz h nsT
  rwa [oT_data ok] at this
theorem ev_borK {kf : α → Key} (ok : KOk f kf) {m : List (α × β)} {o : O} (i : Nat) (h : ρ[i]? = some (some (oK kf g m))) (im : OIm o) (e : EvO K S te (ρ.set i (some (.d (dM f g m)))) o) : EvO K S te ρ o :=
  ev_bor i h nsK im (by rw [oK_data ok]; exact e)
theorem ev_borT {kf : α → List Key} (ok : KTk f kf) {m : List (α × β)} {o : O} (i : Nat) (h : ρ[i]? = some (some (oT kf g m))) (im : OIm o) (e : EvO K S te (ρ.set i (some (.d (dT f g m)))) o) : EvO K S te ρ o :=
  ev_bor i h nsT im (by rw [oT_data ok]; exact e)
theorem sw_frzK {kf : α → Key} (ok : KOk f kf) {m : List (α × β)} (i : Nat) (h : ρ[i]? = some (some (oK kf g m))) (k : StW K S ts (ρ.set i (some (.d (dM f g m)))) E) : StW K S ts ρ E :=
  sw_frz i h nsK (by rw [oK_data ok]; exact k)
theorem sw_frzT {kf : α → List Key} (ok : KTk f kf) {m : List (α × β)} (i : Nat) (h : ρ[i]? = some (some (oT kf g m))) (k : StW K S ts (ρ.set i (some (.d (dT f g m)))) E) : StW K S ts ρ E :=
  sw_frz i h nsT (by rw [oT_data ok]; exact k)
theorem sw_asgK {v : List (α × β)} (kf : α → Key) (g : β → D) (h : EvO K S te ρ (oK kf g v)) (k : ∀ x, x = v → E.nx (ρ.set i (some (oK kf g x)))) : StW K S (tAsg te (gName i)) ρ E := sw_asg h (k v rfl)
theorem sw_asgT {v : List (α × β)} (kf : α → List Key) (g : β → D) (h : EvO K S te ρ (oT kf g v)) (k : ∀ x, x = v → E.nx (ρ.set i (some (oT kf g x)))) : StW K S (tAsg te (gName i)) ρ E := sw_asg h (k v rfl)
section
variable [DecidableEq α]
theorem keys_len {κ : Type} {kf : α → κ} {kvs : List (κ × V)} {m : List (α × β)} (h : kvs.map (·.1) = m.map (fun p => kf p.1)) : kvs.length = m.length := by
  have e := congrArg List.length h
  rwa [List.length_map, List.length_map] at e
theorem sw_putK {kf : α → Key} (ok : KOk f kf) {m : List (α × β)} {k0 : α} {y : β} (hi : ρ[i]? = some (some (oK kf g m))) (h : EvD K S te ρ (g y)) (hk : EvD K S ti ρ (f k0)) (hz : m.length < 16000000) (k : ∀ m', m' = dput m k0 y → E.nx (ρ.set i (some (oK kf g m')))) : StW K S (tAsg te (gSub (tVar i) ti rSetX)) ρ E := fun B H Fr σ D w kk => by
  refine h.use w fun v B1 H1 g1 r1 => ?_
  have w1 := w.grow g1
  obtain ⟨p, kvs, ev, _⟩ := w1.upK hi
  refine ⟨.ref p, ev, hk.use w1 fun u B2 H2 g2 r2 => ?_⟩
  have w2 := w1.grow g2
  obtain ⟨p', kvs, ev2, hH, hks, ra, up⟩ := w2.upK hi
  rw [ev] at ev2
  cases ev2
  have hu := rp_key ok r2
  obtain ⟨e1, e2⟩ := put_dput ok.inj (r1.mono g2.b) hks ra
  obtain ⟨w3, a3⟩ := up _ _ e1 e2
  refine .inr ⟨p, _, rfl, .inl ⟨kvs, kf k0, hH, hu, ?_, rfl⟩, ?_⟩
  · rw [keys_len hks]; exact lt_sz hz
  · exact kk.nx _ σ B2 _ (k _ rfl) (((g1.trans g2).aft w).trans a3) w3
theorem sw_putT {kf : α → List Key} (ok : KTk f kf) {m : List (α × β)} {k0 : α} {y : β} (hi : ρ[i]? = some (some (oT kf g m))) (h : EvD K S te ρ (g y)) (hk : EvD K S ti ρ (f k0)) (hz : m.length < 16000000) (k : ∀ m', m' = dput m k0 y → E.nx (ρ.set i (some (oT kf g m')))) : StW K S (tAsg te (gSub (tVar i) ti rSetX)) ρ E := fun B H Fr σ D w kk => by
  refine h.use w fun v B1 H1 g1 r1 => ?_
  have w1 := w.grow g1
  obtain ⟨p, kvs, ev, _⟩ := w1.upT hi
  refine ⟨.ref p, ev, hk.use w1 fun u B2 H2 g2 r2 => ?_⟩
  have w2 := w1.grow g2
  obtain ⟨p', kvs, ev2, hH, hks, ra, up⟩ := w2.upT hi
  rw [ev] at ev2
  cases ev2
  obtain ⟨b, hu, hb⟩ := rp_keyT ok r2
  obtain ⟨e1, e2⟩ := put_dput ok.inj (r1.mono g2.b) hks ra
  obtain ⟨w3, a3⟩ := up _ _ e1 e2
  refine .inr ⟨p, _, rfl, .inr ⟨kvs, kf k0, b, hH, hu, w2.ex _ _ hb, ?_, rfl⟩, ?_⟩
  · rw [keys_len hks]; exact lt_sz hz
  · exact kk.nx _ σ B2 _ (k _ rfl) (((g1.trans g2).aft w).trans a3) w3
theorem sw_putKN {kf : α → Key} (ok : KOk f kf) {m : List (α × β)} {k0 : α} {P : β → Prop} (hi : ρ[i]? = some (some (oK kf g m))) (h : EvN K S te ρ (NT g P)) (hk : EvD K S ti ρ (f k0)) (hz : m.length < 16000000) (k : ∀ y, P y → ∀ m', m' = dput m k0 y → E.nx (ρ.set i (some (oK kf g m')))) : StW K S (tAsg te (gSub (tVar i) ti rSetX)) ρ E := fun B H Fr σ D w kk => by
  refine h B H Fr σ _ w fun v d B1 H1 ⟨y, ey, hy⟩ g1 r1 => ?_
  subst ey
  have w1 := w.growN g1
  obtain ⟨p, kvs, ev, _⟩ := w1.upK hi
  refine ⟨.ref p, ev, hk.use w1 fun u B2 H2 g2 r2 => ?_⟩
  have w2 := w1.grow g2
  obtain ⟨p', kvs, ev2, hH, hks, ra, up⟩ := w2.upK hi
  rw [ev] at ev2
  cases ev2
  have hu := rp_key ok r2
  obtain ⟨e1, e2⟩ := put_dput ok.inj (r1.mono g2.b) hks ra
  obtain ⟨w3, a3⟩ := up _ _ e1 e2
  refine .inr ⟨p, _, rfl, .inl ⟨kvs, kf k0, hH, hu, ?_, rfl⟩, ?_⟩
  · rw [keys_len hks]; exact lt_sz hz
  · exact kk.nx _ σ B2 _ (k _ hy _ rfl) (((g1.aft w).trans (g2.aft w1)).trans a3) w3
/-! ### dict comprehensions -/
theorem dput_len (m : List (α × β)) (k : α) (v : β) : (dput m k v).length ≤ m.length + 1 := by
  unfold dput
  split
  · simp
  · simp
theorem dcat_len : ∀ (ps m : List (α × β)), (dcat m ps).length ≤ m.length + ps.length
  | [], m => by simp [dcat]
  | p :: ps, m => by
    have h1 := dcat_len ps (dput m p.1 p.2)
    have h2 := dput_len m p.1 p.2
    have e : dcat m (p :: ps) = dcat (dput m p.1 p.2) ps := rfl
    rw [e, List.length_cons]
    omega
theorem dcat_snoc (m ps : List (α × β)) (p : α × β) : dcat m (ps ++ [p]) = dput (dcat m ps) p.1 p.2 := by
  unfold dcat
  rw [List.foldl_append]
  rfl
theorem ev_dc {γ : Type} {wi : TI} {tg : TG} {vs : List Nat} {kf : α → Key} (ok : KOk f kf) (g : β → D) (xs : List γ) (e : γ → D) (p : γ → Bool) (hkey : γ → α) (hval : γ → β) (hi : EvI K S wi ρ (xs.map e))
    (hb : ∀ x, x ∈ xs → ∃ ρ2 js, GtD K S tg (wipeE ρ vs) (e x) ρ2 js ∧ (∀ j ∈ js, j ∈ vs) ∧ EvT K S tt ρ2 (p x) ∧ (p x = true → EvD K S ta ρ2 (f (hkey x))) ∧ (p x = true → EvD K S tb ρ2 (g (hval x)))) :
    EvO K S (tDc wi tg tt ta tb vs) ρ (oK kf g (dcat [] ((xs.filter p).map fun x => (hkey x, hval x)))) := fun B H Fr σ R w k => hi B H Fr σ _ w fun J B1 H1 g1 it hz => by
  intro Dl hD
  have hB1 := fresh_of g1.sub hD
  have hxs : (xs.map e).length = xs.length := by simp
  refine ⟨fun i m H' => m = xs.length - i ∧ i ≤ xs.length ∧ ∃ B' acc, Gr B1 H1 B' H' ∧ B' Dl = none ∧ H' Dl = some (.dK acc) ∧ acc.map (·.1) = (dcat [] (((xs.take i).filter p).map fun x => (hkey x, hval x))).map (fun q => kf q.1) ∧ RpAll K B' (acc.map (·.2)) ((dcat [] (((xs.take i).filter p).map fun x => (hkey x, hval x))).map fun q => g q.2),
    ⟨xs.length, by simp, Nat.zero_le _, B1, [], Gr.made g1.sub _ hD, hB1, upd_same, rfl, by simpa [dcat] using RpAll.nil⟩, ?_⟩
  rintro i m H' ⟨rfl, hle, B', acc, g2, hBD, hHD, ks, ra⟩
  obtain ⟨go, stop⟩ := it B' H' g2.b g2.sub i
  by_cases hlt : i < xs.length
  · have hx := List.getElem?_eq_getElem hlt
    obtain ⟨go1, yl⟩ := go (e xs[i]) (by rw [List.getElem?_map, hx]; rfl)
    refine .inr ⟨go1, fun H3 => i + 1 ≤ xs.length ∧ ∃ B' acc, Gr B1 H1 B' H3 ∧ B' Dl = none ∧ H3 Dl = some (.dK acc) ∧ acc.map (·.1) = (dcat [] (((xs.take (i + 1)).filter p).map fun x => (hkey x, hval x))).map (fun q => kf q.1) ∧ RpAll K B' (acc.map (·.2)) ((dcat [] (((xs.take (i + 1)).filter p).map fun x => (hkey x, hval x))).map fun q => g q.2), fun H3 q => ⟨xs.length - (i + 1), by omega, rfl, q.1, q.2⟩, fun v H3 hy => ?_⟩
    obtain ⟨B3, g3, rv⟩ := yl v H3 hy
    obtain ⟨ρ2, js, hg, hjs, ht, hk', hv'⟩ := hb xs[i] (List.getElem_mem hlt)
    have w3 := (((w.grow g1).grow g2).grow g3).wipe vs
    refine hg B3 H3 Fr _ v _ w3 rv fun σ2 w4 l4 eq => ⟨?_, ?_⟩
    · exact wipe_same eq (l4.trans (wipe_length σ vs)) hjs
    · refine ht B3 H3 Fr σ2 _ w4 fun B4 H4 g4 => ?_
      have hB3 : B3 Dl = none := g3.out hBD (by rw [hHD]; simp)
      have hH3 : H3 Dl = some (.dK acc) := g3.h _ _ hHD
      have hB4 : B4 Dl = none := g4.out hB3 (by rw [hH3]; simp)
      have hH4 : H4 Dl = some (.dK acc) := g4.h _ _ hH3
      have tf := take_filter (p := p) (f := fun x => (hkey x, hval x)) hx
      cases hp : p xs[i] with
      | false =>
        refine ⟨hlt, B4, acc, (g2.trans g3).trans g4, hB4, hH4, ?_⟩
        rw [hp] at tf
        simp only [Bool.false_eq_true, if_false, List.append_nil] at tf
        rw [tf]
        exact ⟨ks, ra.mono (g3.b.trans g4.b)⟩
      | true =>
        rw [hp] at tf
        simp only [if_true] at tf
        refine (hk' hp).use (w4.grow g4) fun u B5 H5 g5 r5 => (hv' hp).use ((w4.grow g4).grow g5) fun z B6 H6 g6 r6 => ?_
        have hH6 := g6.h _ _ (g5.h _ _ hH4)
        have hB6 : B6 Dl = none := g6.out (g5.out hB4 (by rw [hH4]; simp)) (by rw [g5.h _ _ hH4]; simp)
        obtain ⟨e1, e2⟩ := put_dput (κ := Key) ok.inj (k := hkey xs[i]) r6 ks (ra.mono (((g3.b.trans g4.b).trans g5.b).trans g6.b))
        refine ⟨acc, kf (hkey xs[i]), rp_key ok r5, hH6, ?_, hlt, B6, _, ?_, hB6, upd_same, ?_⟩
        · rw [keys_len ks]
          have h1 := dcat_len (((xs.take i).filter p).map fun x => (hkey x, hval x)) ([] : List (α × β))
          have h2 : (((xs.take i).filter p).map fun x => (hkey x, hval x)).length ≤ i := by
            rw [List.length_map]
            exact Nat.le_trans (List.length_filter_le _ _) (by rw [List.length_take]; omega)
          simp only [List.length_nil] at h1
          omega
        · have g7 := (((g2.trans g3).trans g4).trans g5).trans g6
          refine ⟨g7.b, fun a u h => ?_, fun a u h => ?_, g7.new⟩
          · rw [upd_ne (ne_of_none h hD)]; exact g7.h a u h
          · rw [upd_ne (ne_of_none h hB6)]; exact g7.sub a u h
        · rw [tf, dcat_snoc]
          exact ⟨e1, e2⟩
  · have hi' : i = xs.length := by omega
    subst hi'
    refine .inl ⟨stop (by simp), ?_⟩
    rw [List.take_length] at ks ra
    refine k _ (fun a => a = Dl) B' H' (g1.trans g2) (Ow.newK hBD hHD ks ra) fun a z => z ▸ fresh_of g1.h hD
theorem ev_dcM {γ : Type} {wi : TI} {tg : TG} {vs : List Nat} {kf : α → Key} (ok : KOk f kf) (g : β → D) (xs : List γ) (e : γ → D) (hkey : γ → α) (hval : γ → β) (hi : EvI K S wi ρ (xs.map e))
    (hb : ∀ x, x ∈ xs → ∃ ρ2 js, GtD K S tg (wipeE ρ vs) (e x) ρ2 js ∧ (∀ j ∈ js, j ∈ vs) ∧ EvD K S ta ρ2 (f (hkey x)) ∧ EvD K S tb ρ2 (g (hval x))) :
    EvO K S (tDc wi tg tYes ta tb vs) ρ (oK kf g (dcat [] (xs.map fun x => (hkey x, hval x)))) := by
  have := ev_dc (tt := tYes) ok g xs e (fun _ => true) hkey hval hi fun x hx => by
    obtain ⟨ρ2, js, h1, h2, h3, h4⟩ := hb x hx
    exact ⟨ρ2, js, h1, h2, et_yes, fun _ => h3, fun _ => h4⟩
  rwa [List.filter_eq_self.mpr fun _ _ => rfl] at this
/-! ### dict(..) -/
def rDict (K : PySem.W.Frag) : List V → Hp → VK → Prop := fun xs H Q => (∃ (a : Addr) (ps : List Addr) (kvs : List (Key × V)), xs = [.ref a] ∧ SqL K H a (ps.map V.ref) ∧ Paired (fun p kv => SqT K H p [kV kv.1, kv.2]) ps kvs ∧
    ∀ p, H p = none → Q (.ref p) (upd H p (.dK (mergeK [] kvs)))) ∨ (∃ (a : Addr) (kvs : List (Key × V)), xs = [.ref a] ∧ Rd H a (.dK kvs) ∧ ∀ p, H p = none → Q (.ref p) (upd H p (.dK kvs))) ∨
  ∃ (a : Addr) (ps : List Addr) (kvs : List (List Key × V)), xs = [.ref a] ∧ SqL K H a (ps.map V.ref) ∧ Paired (fun p kv => ∃ b, SqT K H p [.ref b, kv.2] ∧ H b = some (.tup (kv.1.map kV))) ps kvs ∧
    ∀ p, H p = none → Q (.ref p) (upd H p (.dT (mergeT [] kvs)))
theorem rc_dictK {kf : α → Key} (ok : KOk f kf) {m : List (α × β)} : RcD K S (rDict K) [dM f g m] (oK kf g m) := fun B H vs R ex r kk => by
  cases r with
  | cons r t =>
  cases t
  obtain ⟨a, kvs, rfl, hd, hk, ra⟩ := rp_dM ok r
  exact .inr (.inl ⟨a, kvs, rfl, Evl.ex_rd ex hd, fun p hp => kk _ (fun a => a = p) B _ (Gr.made ex _ hp) (Ow.newK (fresh_of ex hp) upd_same hk ra) fun a z => z ▸ hp⟩)
theorem pairs_rp {kf : α → Key} (ok : KOk f kf) (ex : Ex B H) : ∀ {ps : List (α × β)} {vs : List V}, RpAll K B vs (ps.map (p2 f g)) → ∃ (as : List Addr) (kvs : List (Key × V)), vs = as.map V.ref ∧ Paired (fun p kv => SqT K H p [kV kv.1, kv.2]) as kvs ∧ kvs.map (·.1) = ps.map (fun p => kf p.1) ∧ RpAll K B (kvs.map (·.2)) (ps.map fun p => g p.2)
  | [], _, .nil => ⟨[], [], rfl, .nil, rfl, .nil⟩
  | p :: ps, _, .cons r t => by
    obtain ⟨as, kvs, rfl, h1, h2, h3⟩ := pairs_rp ok ex t
    cases r with
    | tup h ra =>
    cases ra with
    | cons r1 ra =>
    cases ra with
    | cons r2 ra =>
    cases ra
    rename_i a u v
    have := rp_key ok r1
    subst this
    exact ⟨a :: as, (kf p.1, v) :: kvs, rfl, .cons (Evl.ex_t ex (sqt_of h)) h1, by simp [h2], .cons r2 h3⟩
theorem merge_dcat {kf : α → Key} (inj : ∀ x y, kf x = kf y → x = y) : ∀ {more : List (Key × V)} {ps : List (α × β)} {kvs : List (Key × V)} {m : List (α × β)}, more.map (·.1) = ps.map (fun p => kf p.1) → RpAll K B (more.map (·.2)) (ps.map fun p => g p.2) → kvs.map (·.1) = m.map (fun p => kf p.1) → RpAll K B (kvs.map (·.2)) (m.map fun p => g p.2) →
    (mergeK kvs more).map (·.1) = (dcat m ps).map (fun p => kf p.1) ∧ RpAll K B ((mergeK kvs more).map (·.2)) ((dcat m ps).map fun p => g p.2)
  | [], [], _, _, _, _, h, r => ⟨h, r⟩
  | c :: more, p :: ps, kvs, m, e, t, h, r => by
    simp only [List.map_cons, List.cons.injEq] at e
    cases t with
    | cons t1 t2 =>
    obtain ⟨h1, h2⟩ := put_dput inj (k := p.1) t1 h r
    have := merge_dcat inj e.2 t2 h1 h2
    rw [← e.1] at this
    exact this
  | [], _ :: _, _, _, e, _, _, _ => by cases e
  | _ :: _, [], _, _, e, _, _, _ => by cases e
theorem rc_dictP {kf : α → Key} (ok : KOk f kf) {ps : List (α × β)} : RcD K S (rDict K) [lM (p2 f g) ps] (oK kf g (dcat [] ps)) := fun B H vs R ex r kk => by
  cases r with
  | cons r t =>
  cases t
  cases r with
  | lst h ra =>
  obtain ⟨as, kvs, rfl, h1, h2, h3⟩ := pairs_rp ok ex ra
  obtain ⟨h4, h5⟩ := merge_dcat (K := K) (B := B) (g := g) ok.inj h2 h3 (kvs := []) (m := []) rfl .nil
  exact .inl ⟨_, as, kvs, rfl, SqL.of (ex _ _ h), h1, fun p hp => kk _ (fun a => a = p) B _ (Gr.made ex _ hp) (Ow.newK (fresh_of ex hp) upd_same h4 h5) fun a z => z ▸ hp⟩
theorem pairs_rpT {kf : α → List Key} (ok : KTk f kf) (ex : Ex B H) : ∀ {ps : List (α × β)} {vs : List V}, RpAll K B vs (ps.map (p2 f g)) → ∃ (as : List Addr) (kvs : List (List Key × V)), vs = as.map V.ref ∧ Paired (fun p kv => ∃ b, SqT K H p [.ref b, kv.2] ∧ H b = some (.tup (kv.1.map kV))) as kvs ∧ kvs.map (·.1) = ps.map (fun p => kf p.1) ∧ RpAll K B (kvs.map (·.2)) (ps.map fun p => g p.2)
  | [], _, .nil => ⟨[], [], rfl, .nil, rfl, .nil⟩
  | p :: ps, _, .cons r t => by
    obtain ⟨as, kvs, rfl, h1, h2, h3⟩ := pairs_rpT ok ex t
    cases r with
    | tup h ra =>
    cases ra with
    | cons r1 ra =>
    cases ra with
    | cons r2 ra =>
    cases ra
    rename_i a u v
    obtain ⟨b, rfl, hb⟩ := rp_keyT ok r1
    exact ⟨a :: as, (kf p.1, v) :: kvs, rfl, .cons ⟨b, Evl.ex_t ex (sqt_of h), ex _ _ hb⟩ h1, by simp [h2], .cons r2 h3⟩
theorem merge_dcatT {kf : α → List Key} (inj : ∀ x y, kf x = kf y → x = y) : ∀ {more : List (List Key × V)} {ps : List (α × β)} {kvs : List (List Key × V)} {m : List (α × β)}, more.map (·.1) = ps.map (fun p => kf p.1) → RpAll K B (more.map (·.2)) (ps.map fun p => g p.2) → kvs.map (·.1) = m.map (fun p => kf p.1) → RpAll K B (kvs.map (·.2)) (m.map fun p => g p.2) →
    (mergeT kvs more).map (·.1) = (dcat m ps).map (fun p => kf p.1) ∧ RpAll K B ((mergeT kvs more).map (·.2)) ((dcat m ps).map fun p => g p.2)
  | [], [], _, _, _, _, h, r => ⟨h, r⟩
  | c :: more, p :: ps, kvs, m, e, t, h, r => by
    simp only [List.map_cons, List.cons.injEq] at e
    cases t with
    | cons t1 t2 =>
    obtain ⟨h1, h2⟩ := put_dput inj (k := p.1) t1 h r
    have := merge_dcatT inj e.2 t2 h1 h2
    rw [← e.1] at this
    exact this
  | [], _ :: _, _, _, e, _, _, _ => by cases e
  | _ :: _, [], _, _, e, _, _, _ => by cases e
theorem rc_dictPT {kf : α → List Key} (ok : KTk f kf) {ps : List (α × β)} : RcD K S (rDict K) [lM (p2 f g) ps] (oT kf g (dcat [] ps)) := fun B H vs R ex r kk => by
  cases r with
  | cons r t =>
  cases t
  cases r with
  | lst h ra =>
  obtain ⟨as, kvs, rfl, h1, h2, h3⟩ := pairs_rpT ok ex ra
  obtain ⟨h4, h5⟩ := merge_dcatT (K := K) (B := B) (g := g) ok.inj h2 h3 (kvs := []) (m := []) rfl .nil
  exact .inr (.inr ⟨_, as, kvs, rfl, SqL.of (ex _ _ h), h1, fun p hp => kk _ (fun a => a = p) B _ (Gr.made ex _ hp) (Ow.newT (fresh_of ex hp) upd_same h4 h5) fun a z => z ▸ hp⟩)
end
end
section
variable {X : Cx} {K : PySem.W.Frag} {pos : Pos}
theorem pe_dnew : PE X (.Dict [] [] pos) tDNew := ⟨fun pins s σ H Q I h => h.elim (pe_dnewK.run pins s σ H Q I) (pe_dnewT.run pins s σ H Q I)⟩
theorem cr_dictR {k : Nat} (hK : X.K = K) (hc : X.calm = true) (hr : Room k X.A) : CallR X (.type "dict") (rDict K) := hK ▸ (call_dictP hc).or (call_dictD.or (call_dictPT hc (by have := hu64 hr; omega)))
end
end DL

set_option Elab.async false
set_option linter.all false
set_option maxRecDepth 100000
set_option maxHeartbeats 2000000
/-! VX: defs of drawn values, drawn turns, d.get -/
namespace DL
open PySem PySem.Spec PyProof.Rows L2
open Evl (Ex Ex.refl Ex.trans Ex.new Ex.mut)
section
variable {K : PySem.W.Frag} {S : Option (Addr × Addr)} {ρ : Env} {ta tb tc td te ti : TE} {tr : TA} {tt tu : TT} {ts us : TS} {α β γ σ : Type} {f : α → D} {g : β → D} {i j l : Nat} {E : DE} {B H : Hp}
theorem en_callF1 {α1 : Type} {g1 : α1 → D} {P1 : α1 → Prop} {ok : α1 → Prop} {enc : β → D} {Fv : α1 → β} (h : EvN K S ta ρ (NT g1 P1)) (hx : ∀ x, P1 x → ok x) : EvN K S (tCall (SpF K ok (fun x => [g1 x]) fun x => .d (enc (Fv x))) [] E0 (tCons ta tNil)) ρ (NT enc fun y => ∃ x, P1 x ∧ y = Fv x) :=
  en_callF (ean1 h) fun ds ⟨x, e, p⟩ => ⟨x, e, hx x p, .d _, ⟨Fv x, rfl, x, p, rfl⟩⟩
theorem en_callF2 {α1 α2 : Type} {g1 : α1 → D} {g2 : α2 → D} {P1 : α1 → Prop} {P2 : α2 → Prop} {ok : α1 × α2 → Prop} {enc : β → D} {Fv : α1 × α2 → β} (h1 : EvN K S ta ρ (NT g1 P1)) (h2 : EvN K S tb ρ (NT g2 P2)) (hx : ∀ x, P1 x → ∀ y, P2 y → ok (x, y)) : EvN K S (tCall (SpF K ok (fun x => [g1 x.1, g2 x.2]) fun x => .d (enc (Fv x))) [] E0 (tCons ta (tCons tb tNil))) ρ (NT enc fun z => ∃ x, P1 x ∧ ∃ y, P2 y ∧ z = Fv (x, y)) :=
  en_callF (ean2 h1 h2) fun ds ⟨x, y, e, p, q⟩ => ⟨(x, y), e, hx x p y q, .d _, ⟨_, rfl, x, p, y, q, rfl⟩⟩
theorem en_callF3 {α1 α2 α3 : Type} {g1 : α1 → D} {g2 : α2 → D} {g3 : α3 → D} {P1 : α1 → Prop} {P2 : α2 → Prop} {P3 : α3 → Prop} {ok : α1 × α2 × α3 → Prop} {enc : β → D} {Fv : α1 × α2 × α3 → β} (h1 : EvN K S ta ρ (NT g1 P1)) (h2 : EvN K S tb ρ (NT g2 P2)) (h3 : EvN K S tc ρ (NT g3 P3)) (hx : ∀ x, P1 x → ∀ y, P2 y → ∀ z, P3 z → ok (x, y, z)) : EvN K S (tCall (SpF K ok (fun x => [g1 x.1, g2 x.2.1, g3 x.2.2]) fun x => .d (enc (Fv x))) [] E0 (tCons ta (tCons tb (tCons tc tNil)))) ρ (NT enc fun w => ∃ x, P1 x ∧ ∃ y, P2 y ∧ ∃ z, P3 z ∧ w = Fv (x, y, z)) :=
  en_callF (ean3 h1 h2 h3) fun ds ⟨x, y, z, e, p, q, r⟩ => ⟨(x, y, z), e, hx x p y q z r, .d _, ⟨_, rfl, x, p, y, q, z, r, rfl⟩⟩
theorem en_callF4 {α1 α2 α3 α4 : Type} {g1 : α1 → D} {g2 : α2 → D} {g3 : α3 → D} {g4 : α4 → D} {P1 : α1 → Prop} {P2 : α2 → Prop} {P3 : α3 → Prop} {P4 : α4 → Prop} {ok : α1 × α2 × α3 × α4 → Prop} {enc : β → D} {Fv : α1 × α2 × α3 × α4 → β} (h1 : EvN K S ta ρ (NT g1 P1)) (h2 : EvN K S tb ρ (NT g2 P2)) (h3 : EvN K S tc ρ (NT g3 P3)) (h4 : EvN K S td ρ (NT g4 P4)) (hx : ∀ x, P1 x → ∀ y, P2 y → ∀ z, P3 z → ∀ w, P4 w → ok (x, y, z, w)) : EvN K S (tCall (SpF K ok (fun x => [g1 x.1, g2 x.2.1, g3 x.2.2.1, g4 x.2.2.2]) fun x => .d (enc (Fv x))) [] E0 (tCons ta (tCons tb (tCons tc (tCons td tNil))))) ρ (NT enc fun v => ∃ x, P1 x ∧ ∃ y, P2 y ∧ ∃ z, P3 z ∧ ∃ w, P4 w ∧ v = Fv (x, y, z, w)) :=
  en_callF (ean_cons h1 (ean3 h2 h3 h4)) fun ds ⟨d, r, e, ⟨x, ex, p⟩, y, z, w, e2, q, r2, r3⟩ => ⟨(x, y, z, w), by rw [e, e2, ex], hx x p y q z r2 w r3, .d _, ⟨_, rfl, x, p, y, q, z, r2, w, r3, rfl⟩⟩
/-- a loop of drawn turns -/
theorem ein_rngV {P : Int → Prop} (h : EvN K S te ρ (NT PyData.int P)) (hs : ∀ n, P n → -(2 ^ 62) ≤ n ∧ n ≤ 16000000) : EvIN K S (iRng1 (tCons te tNil)) ρ (fun ds => ∃ xs : List Nat, ds = xs.map (fun i : Nat => PyData.int (i : Int)) ∧ ∃ n, P n ∧ xs = List.range n.toNat) := fun B H Fr σ R w k => ean1 h B H Fr σ _ w fun vs ds B1 H1 ⟨n, e, hn⟩ g r => by
  subst e
  obtain ⟨h0, h1⟩ := hs n hn
  cases r with
  | cons r t =>
    cases r
    cases t
    refine ⟨n, rfl, by omega, by omega, k _ B1 H1 _ ⟨_, rfl, n, hn, rfl⟩ g ?_ (by rw [List.length_map, List.length_range, sizeLine_eq]; omega)⟩
    have := its_rng (K := K) (B := B1) (lo := 0) (n := n.toNat)
    unfold rangeD at this
    simpa using this
/-! d.get -/
theorem isD_K {kf : α → Key} {m : List (α × β)} (ok : KOk f kf) {v : V} (ex : Ex B H) (r : Rp K B v (dM f g m)) : ∃ a, v = .ref a ∧ IsD H a := by
  obtain ⟨a, kvs, rfl, hd, _⟩ := rp_dM ok r
  exact ⟨a, rfl, .inl ⟨kvs, Evl.ex_rd ex hd⟩⟩
theorem isD_T {kf : α → List Key} {m : List (α × β)} (ok : KTk f kf) {v : V} (ex : Ex B H) (r : Rp K B v (dT f g m)) : ∃ a, v = .ref a ∧ IsD H a := by
  obtain ⟨a, kvs, rfl, hd, _⟩ := rp_dT ok r
  exact ⟨a, rfl, .inr ⟨kvs, Evl.ex_rd ex hd⟩⟩
variable [DecidableEq α]
theorem ev_getK {kf : α → Key} (ok : KOk f kf) {m : List (α × β)} {k0 : α} {y : β} (h : EvD K S ta ρ (dM f g m)) (hk : EvD K S tb ρ (f k0)) (hv : EvD K S tc ρ (g y)) : EvD K S (tDGet2 ta tb tc) ρ (g (dgetD m k0 y)) := .mk fun B H Fr σ R w kk => h.use w fun v B1 H1 g1 r1 => by
  obtain ⟨a, rfl, hd⟩ := isD_K ok g1.sub r1
  refine ⟨a, rfl, hd, hk.use (w.grow g1) fun u B2 H2 g2 r2 => hv.use ((w.grow g1).grow g2) fun z B3 H3 g3 r3 => ?_⟩
  obtain ⟨a', o, e, hg, _, ho⟩ := dget_K ok g3.sub ((r1.mono g2.b).mono g3.b) (r2.mono g3.b)
  cases e
  refine ⟨o, hg, kk _ B3 H3 ((g1.trans g2).trans g3) ?_⟩
  unfold dgetD
  cases e : dget m k0 with
  | none =>
    have : o.isSome = false := by rename_i hs; rw [hs]; unfold dhas; rw [e]; rfl
    cases o with
    | none => exact r3
    | some _ => cases this
  | some y' =>
    obtain ⟨w', e1, r⟩ := ho y' e
    rw [e1]
    exact r
theorem ev_getT {kf : α → List Key} (ok : KTk f kf) {m : List (α × β)} {k0 : α} {y : β} (h : EvD K S ta ρ (dT f g m)) (hk : EvD K S tb ρ (f k0)) (hv : EvD K S tc ρ (g y)) : EvD K S (tDGet2 ta tb tc) ρ (g (dgetD m k0 y)) := .mk fun B H Fr σ R w kk => h.use w fun v B1 H1 g1 r1 => by
  obtain ⟨a, rfl, hd⟩ := isD_T ok g1.sub r1
  refine ⟨a, rfl, hd, hk.use (w.grow g1) fun u B2 H2 g2 r2 => hv.use ((w.grow g1).grow g2) fun z B3 H3 g3 r3 => ?_⟩
  obtain ⟨a', o, e, hg, _, ho⟩ := dget_T ok g3.sub ((r1.mono g2.b).mono g3.b) (r2.mono g3.b)
  cases e
  refine ⟨o, hg, kk _ B3 H3 ((g1.trans g2).trans g3) ?_⟩
  unfold dgetD
  cases e : dget m k0 with
  | none =>
    have : o.isSome = false := by rename_i hs; rw [hs]; unfold dhas; rw [e]; rfl
    cases o with
    | none => exact r3
    | some _ => cases this
  | some y' =>
    obtain ⟨w', e1, r⟩ := ho y' e
    rw [e1]
    exact r
end
section
variable {X : Cx} {K : PySem.W.Frag} {o e f : Expr} {td ty tx : TE} {apos cpos : Pos} {k : Nat}
theorem pe_dget2R (hr : Room k X.A) (ho : PE X o td) (he : PE X e ty) (hf : PE X f tx) (m : M2 X o "get" apos e f cpos) : PE X (.Call (.Attribute o "get" apos) [e, f] [] cpos) (tDGet2 td ty tx) := pe_dget2 (hu1 hr) ho he hf m
end
end DL

set_option Elab.async false
set_option linter.all false
set_option maxRecDepth 100000
set_option maxHeartbeats 2000000
/-! VY: xs.remove(k), owned lists by a test -/
namespace DL
open PySem PySem.Spec PyProof.Rows L2
open Evl (Ex Ex.refl Ex.trans Ex.new Ex.mut)
section
variable {K : PySem.W.Frag} {S : Option (Addr × Addr)} {ρ : Env} {ta tb tc td te ti : TE} {tr : TA} {tt tu : TT} {ts us : TS} {α β γ σ : Type} {f : α → D} {g : β → D} {i j l : Nat} {E : DE} {B H : Hp}
theorem sw_remV {xs : List Int} {k : Int} (hi : ρ[i]? = some (some (oL PyData.int xs))) (h : EvD K S te ρ (.int k)) (hk : k ∈ xs) (q : ∀ y, y = xs.erase k → E.nx (ρ.set i (some (oL PyData.int y)))) : StW K S (tDrop (tBM K "list" rRemI (tVar i) (tCons te tNil))) ρ E := fun B H Fr σ D w kk => by
  rw [oL_ds] at hi
  obtain ⟨p, vs, ev, hH, ra, _⟩ := w.upL hi
  refine ⟨.ref p, ev, .inl ⟨rfl, _, SqL.of hH⟩, h.use w fun v B1 H1 g r => ?_⟩
  have w1 := w.grow g
  obtain ⟨p', vs1, ev1, hH1, ra1, up⟩ := w1.upL hi
  rw [ev] at ev1
  cases ev1
  cases r
  have e1 := ra1.ints
  rw [e1] at hH1
  obtain ⟨j, j1, j2, j3, j4⟩ := L2.first_at hk
  refine ⟨_, xs, k, j, rfl, rfl, hH1, j2, j3, ?_⟩
  rw [j4]
  obtain ⟨w2, a2⟩ := up ((xs.erase k).map V.int) ((xs.erase k).map PyData.int) RpAll.of_ints
  refine kk.nx _ σ B1 _ (q _ rfl) ((g.aft w).trans a2) ?_
  rw [oL_ds]; exact w2
theorem ev_ifO {b : Bool} (f : α → D) {x y : List α} (h : EvT K S tt ρ b) (h1 : b = true → EvO K S ta ρ (oL f x)) (h2 : b = false → EvO K S tb ρ (oL f y)) : EvO K S (tIf tt ta tb) ρ (oL f (if b = true then x else y)) := by
  cases b with
  | true => exact ev_if h (fun _ => by simpa using h1 rfl) (fun z => by cases z)
  | false => exact ev_if h (fun z => by cases z) (fun _ => by simpa using h2 rfl)
theorem maxD_map {lt : α → α → Bool} (o : OrdD f lt) : ∀ (xs : List α) (x : α), PySem.W.maxD (f x) (xs.map f) = f (xs.foldl (fun a y => if lt a y = true then y else a) x)
  | [], x => rfl
  | y :: xs, x => by
    have := maxD_map o xs (if lt x y = true then y else x)
    unfold PySem.W.maxD at this ⊢
    rw [List.map_cons, List.foldl_cons, List.foldl_cons, ← this, o.lt]
    cases lt x y <;> rfl
theorem minD_map {lt : α → α → Bool} (o : OrdD f lt) : ∀ (xs : List α) (x : α), PySem.W.minD (f x) (xs.map f) = f (xs.foldl (fun a y => if lt y a = true then y else a) x)
  | [], x => rfl
  | y :: xs, x => by
    have := minD_map o xs (if lt y x = true then y else x)
    unfold PySem.W.minD at this ⊢
    rw [List.map_cons, List.foldl_cons, List.foldl_cons, ← this, o.lt]
    cases lt y x <;> rfl
theorem rc_bestO {F : D → List D → D} {G : List α → α → α} {n : Nat} [Inhabited α] {lt : α → α → Bool} (hF : ∀ xs x, F (f x) (xs.map f) = f (G xs x)) (b : Bool) (o : OrdD f lt) (s : ShD n f) (hn : n ≤ 50) {x : α} {xs : List α} : RcD K S (rBest K F) [seqD b ((x :: xs).map f)] (.d (f (G xs x))) := fun B H vs R ex r k => by
  cases r with | cons r t =>
  cases t
  obtain ⟨ws, hs, rb⟩ := RpAll.sq ex r
  have hx := sh_all (n := n) (xs := (x :: xs).map f) fun d hd => by obtain ⟨y, _, rfl⟩ := List.mem_map.mp hd; exact s y
  refine ⟨_, ws, f x, xs.map f, rfl, by simpa using hs, ⟨fun d hd e he => ?_, fun d hd => ?_⟩, by simpa using hx.1, by have := hx.2; simp only [List.map_cons] at this; omega, fun v rv => ?_⟩
  · rw [← List.map_cons] at hd he
    obtain ⟨y, _, rfl⟩ := List.mem_map.mp hd
    obtain ⟨z, _, rfl⟩ := List.mem_map.mp he
    exact o.al y z
  · rw [← List.map_cons] at hd
    obtain ⟨y, _, rfl⟩ := List.mem_map.mp hd
    exact o.nn y
  · have rv := rv B (by simpa using rb)
    rw [hF] at rv
    exact k.val ex rv
theorem rc_maxO {n : Nat} [Inhabited α] (b : Bool) {lt : α → α → Bool} (o : OrdD f lt) (s : ShD n f) {xs : List α} (h : xs ≠ []) (hn : n ≤ 50 := by decide) : RcD K S (rBest K PySem.W.maxD) [seqD b (xs.map f)] (.d (f (mxO lt xs))) := by
  cases xs with
  | nil => exact absurd rfl h
  | cons x xs => exact rc_bestO (G := fun xs x => xs.foldl (fun a y => if lt a y = true then y else a) x) (maxD_map o) b o s hn
theorem rc_minO {n : Nat} [Inhabited α] (b : Bool) {lt : α → α → Bool} (o : OrdD f lt) (s : ShD n f) {xs : List α} (h : xs ≠ []) (hn : n ≤ 50 := by decide) : RcD K S (rBest K PySem.W.minD) [seqD b (xs.map f)] (.d (f (mnO lt xs))) := by
  cases xs with
  | nil => exact absurd rfl h
  | cons x xs => exact rc_bestO (G := fun xs x => xs.foldl (fun a y => if lt y a = true then y else a) x) (minD_map o) b o s hn
theorem rc_sortedK {x : Bool × List α} {lt : α → α → Bool} (o : OrdD f lt) (s : SrtD f) : RcD K S (rSrt K) [sK f x] (oL f (srt lt x.2)) := by
  obtain ⟨b, xs⟩ := x
  cases b
  · exact rc_sorted false o s
  · exact rc_sorted true o s
theorem sw_setNV {xs v : List α} {x : α} {c : Nat} (f : α → D) (hi : ρ[i]? = some (some (oL f xs))) (h : EvD K S te ρ (f x)) (hn : EvD K S ti ρ (.int (-(c : Int)))) (h0 : 0 < c) (h1 : c ≤ xs.length) (ev : v = xs.set (xs.length - c) x) (k : ∀ y, y = v → E.nx (ρ.set i (some (oL f y)))) : StW K S (tAsg te (gSub (tVar i) ti rSetX)) ρ E := by
  have hl : ixN (xs.map fun x => O.d (f x)).length (-(c : Int)) = some (xs.length - c) := by
    unfold ixN
    rw [if_neg (by omega), List.length_map, if_pos (by omega)]
    congr 1
    omega
  refine sw_setL hi h hn hl ?_
  have e : (xs.map fun x => O.d (f x)).set (xs.length - c) (.d (f x)) = (xs.set (xs.length - c) x).map fun x => O.d (f x) := by rw [List.map_set]
  rw [e, ← ev]
  exact k v rfl
theorem ev_toP2 [Inhabited α] {xs : List α} (h : EvD K S te ρ (tM f xs)) (hl : xs.length = 2) : EvD K S te ρ (p2 f f (gi xs (0 : Int), gi xs (1 : Int))) := by
  match xs, hl with
  | [a, b], _ => exact h
theorem ev_toP3 [Inhabited α] {xs : List α} (h : EvD K S te ρ (tM f xs)) (hl : xs.length = 3) : EvD K S te ρ (p3 f f f (gi xs (0 : Int), gi xs (1 : Int), gi xs (2 : Int))) := by
  match xs, hl with
  | [a, b, c], _ => exact h
theorem ev_toP4 [Inhabited α] {xs : List α} (h : EvD K S te ρ (tM f xs)) (hl : xs.length = 4) : EvD K S te ρ (p4 f f f f (gi xs (0 : Int), gi xs (1 : Int), gi xs (2 : Int), gi xs (3 : Int))) := by
  match xs, hl with
  | [a, b, c, d], _ => exact h
theorem ev_asP1 {x : α} (h : EvD K S te ρ (.tuple [f x])) : EvD K S te ρ (tM f [x]) := h
theorem ev_asP2 {x : α × α} (h : EvD K S te ρ (p2 f f x)) : EvD K S te ρ (tM f [x.1, x.2]) := h
theorem ev_asP3 {x : α × α × α} (h : EvD K S te ρ (p3 f f f x)) : EvD K S te ρ (tM f [x.1, x.2.1, x.2.2]) := h
theorem ev_asP4 {x : α × α × α × α} (h : EvD K S te ρ (p4 f f f f x)) : EvD K S te ρ (tM f [x.1, x.2.1, x.2.2.1, x.2.2.2]) := h
theorem ev_asP5 {x : α × α × α × α × α} (h : EvD K S te ρ (p5 f f f f f x)) : EvD K S te ρ (tM f [x.1, x.2.1, x.2.2.1, x.2.2.2.1, x.2.2.2.2]) := h
theorem en_toKL {f : α → D} {P : List α → Prop} (h : EvN K S te ρ (NT (lM f) P)) : EvN K S te ρ (NT (sK f) fun y => ∃ z, (P z) ∧ y = (true, z)) := h.mono fun d ⟨y, e, q⟩ => ⟨(true, y), e, y, q, rfl⟩
theorem en_toKT {f : α → D} {P : List α → Prop} (h : EvN K S te ρ (NT (tM f) P)) : EvN K S te ρ (NT (sK f) fun y => ∃ z, (P z) ∧ y = (false, z)) := h.mono fun d ⟨y, e, q⟩ => ⟨(false, y), e, y, q, rfl⟩
end
end DL

set_option Elab.async false
set_option linter.all false
set_option maxRecDepth 100000
set_option maxHeartbeats 2000000
/-! VK: walks over a dict's keys (the dict is locked meanwhile) -/
namespace DL
open PySem PySem.Spec PyProof.Rows L2
open Evl (Ex Ex.refl Ex.trans Ex.new Ex.mut)
def isDc (u : HO) : Prop := (∃ kvs, u = .dK kvs) ∨ ∃ kvs, u = .dT kvs
/-- the same thing, but for a dict's lock -/
def Sm (u u' : HO) : Prop := u' = u ∨ (isDc u ∧ ∃ od, u' = .frz od u) ∨ (isDc u' ∧ ∃ od, u = .frz od u')
def Lk (B B' : Hp) : Prop := ∀ a u, B a = some u → ∃ u', B' a = some u' ∧ Sm u u'
section
variable {K : PySem.W.Frag} {S : Option (Addr × Addr)} {B B' H H' : Hp} {Fr F : Set'} {σ : L2.St} {ρ : Env} {v : V} {o : O}
theorem Lk.plain (L : Lk B B') {a : Addr} {u : HO} (h : B a = some u) (n1 : ¬ isDc u) (n2 : ∀ od u', isDc u' → u ≠ .frz od u') : B' a = some u := by
  obtain ⟨u', h1, h2⟩ := L a u h
  rcases h2 with e | ⟨d, _⟩ | ⟨d, od, e⟩
  · rw [h1, e]
  · exact absurd d n1
  · exact absurd e (n2 od u' d)
theorem Lk.rd (L : Lk B B') {a : Addr} {u : HO} (hd : isDc u) (h : Rd B a u) : Rd B' a u := by
  rcases h with h | ⟨od, h⟩
  · obtain ⟨u', h1, h2⟩ := L a u h
    rcases h2 with e | ⟨_, od, e⟩ | ⟨d, od, e⟩
    · exact .inl (by rw [h1, e])
    · exact .inr ⟨od, by rw [h1, e]⟩
    · subst e
      rcases hd with ⟨_, z⟩ | ⟨_, z⟩ <;> cases z
  · obtain ⟨u', h1, h2⟩ := L a _ h
    rcases h2 with e | ⟨d, _⟩ | ⟨d, od2, e⟩
    · exact .inr ⟨od, by rw [h1, e]⟩
    · rcases d with ⟨_, z⟩ | ⟨_, z⟩ <;> cases z
    · cases e
      exact .inl h1
theorem nd_lst {xs : List V} : ¬ isDc (.lst xs) := fun h => by rcases h with ⟨_, z⟩ | ⟨_, z⟩ <;> cases z
theorem nd_tup {xs : List V} : ¬ isDc (.tup xs) := fun h => by rcases h with ⟨_, z⟩ | ⟨_, z⟩ <;> cases z
mutual
theorem Rp.lk (L : Lk B B') : ∀ {d : D} {v : V}, Rp K B v d → Rp K B' v d
  | _, _, .non => .non
  | _, _, .bl b => .bl b
  | _, _, .int i => .int i
  | _, _, .str x => .str x
  | _, _, .lst h r => .lst (L.plain h nd_lst fun _ _ _ z => by cases z) (RpAll.lk L r)
  | _, _, .tup h r => .tup (L.plain h nd_tup fun _ _ _ z => by cases z) (RpAll.lk L r)
  | _, _, .dk h r k => .dk (L.rd (.inl ⟨_, rfl⟩) h) (RpAll.lk L r) k
  | _, _, .dt h r k => .dt (L.rd (.inr ⟨_, rfl⟩) h) (RpAll.lk L r) k
theorem RpAll.lk (L : Lk B B') : ∀ {ds : List D} {vs : List V}, RpAll K B vs ds → RpAll K B' vs ds
  | _, _, .nil => .nil
  | _, _, .cons h r => .cons (Rp.lk L h) (RpAll.lk L r)
end
theorem sql_lk (L : Lk B B') {a : Addr} {xs : List V} (h : SqL K B a xs) : SqL K B' a xs := by
  rcases h with h | h
  · refine .inl ?_
    rcases h with h | ⟨od, h⟩
    · exact .inl (L.plain h nd_lst fun _ _ _ z => by cases z)
    · refine .inr ⟨od, L.plain h (fun d => ?_) fun od' u' d z => ?_⟩
      · rcases d with ⟨_, z⟩ | ⟨_, z⟩ <;> cases z
      · cases z
        exact nd_lst d
  · exact .inr h
theorem Ow.lk (h : Ow K S B H v o F) (L : Lk B B') (nb : ∀ a, F a → B' a = none) (nh : ∀ a, F a → H' a = H a) : Ow K S B' H' v o F := by
  induction h with
  | d v x F h n => exact .d v x F (h.lk L) n
  | l p its F Fs hB hH ih hd hp hn hF IH =>
    have hFp : F p := (hF p).mpr (.inl rfl)
    exact .l p its F Fs (nb p hFp) (by rw [nh p hFp]; exact hH) (fun i x hx => IH i x hx (fun a ha => nb a ((hF a).mpr (.inr ⟨i, ha⟩))) fun a ha => nh a ((hF a).mpr (.inr ⟨i, ha⟩))) hd hp hn hF
  | kd p its F Fs hB hH ih hd hp hn hF IH =>
    have hFp : F p := (hF p).mpr (.inl rfl)
    exact .kd p its F Fs (nb p hFp) (by rw [nh p hFp]; exact hH) (fun i x hx => IH i x hx (fun a ha => nb a ((hF a).mpr (.inr ⟨i, ha⟩))) fun a ha => nh a ((hF a).mpr (.inr ⟨i, ha⟩))) hd hp hn hF
  | td p its F Fs hB hH ih hd hp hn hF IH =>
    have hFp : F p := (hF p).mpr (.inl rfl)
    exact .td p its F Fs (nb p hFp) (by rw [nh p hFp]; exact hH) (fun i x hx => IH i x hx (fun a ha => nb a ((hF a).mpr (.inr ⟨i, ha⟩))) fun a ha => nh a ((hF a).mpr (.inr ⟨i, ha⟩))) hd hp hn hF
  | src p q F hS n => exact .src p q F hS n
  | scr a ns F h n => exact .scr a ns F (sql_lk L h) n
theorem Wd.lk (w : Wd K S B H Fr σ ρ) (ex : Ex B' H') (L : Lk B B') (nb : ∀ a, B a = none → B' a = none) (nh : ∀ a, B a = none → H' a = H a) : Wd K S B' H' Fr σ ρ := by
  obtain ⟨Fs, h1, h2, h3⟩ := w.own
  refine ⟨ex, w.len, fun a ha => ?_, fun p q e => ?_, Fs, fun i o e => ?_, h2, h3⟩
  · obtain ⟨f1, f2⟩ := w.fr a ha
    exact ⟨nb a f1, by rw [nh a f1]; exact f2⟩
  · obtain ⟨s, b1, b2, f1, f2⟩ := w.src p q e
    exact ⟨s.same (nh p b1) (nh q b2), nb p b1, nb q b2, f1, f2⟩
  · obtain ⟨v, e1, q⟩ := h1 i o e
    exact ⟨v, e1, q.lk L (fun a ha => nb a (q.there a ha).1) fun a ha => nh a (q.there a ha).1⟩
/-! ### the lock -/
theorem lk_lock {a : Addr} {u : HO} {od : Obj} (h : B a = some u) (hd : isDc u) : Lk B (upd B a (.frz od u)) := fun b w e => by
  by_cases c : b = a
  · subst c
    rw [h] at e
    cases e
    exact ⟨_, upd_same, .inr (.inl ⟨hd, od, rfl⟩)⟩
  · exact ⟨w, by rw [upd_ne c]; exact e, .inl rfl⟩
theorem lk_unlock {a : Addr} {u : HO} {od : Obj} (h : B a = some (.frz od u)) (hd : isDc u) : Lk B (upd B a u) := fun b w e => by
  by_cases c : b = a
  · subst c
    rw [h] at e
    cases e
    exact ⟨_, upd_same, .inr (.inr ⟨hd, od, rfl⟩)⟩
  · exact ⟨w, by rw [upd_ne c]; exact e, .inl rfl⟩
theorem upd_ex {B H : Hp} (e : Ex B H) (a : Addr) (u : HO) : Ex (upd B a u) (upd H a u) := fun b w h => by
  by_cases c : b = a
  · subst c; rw [upd_same] at h ⊢; exact h
  · rw [upd_ne c] at h ⊢; exact e b w h
/-- locked, or (by the caller) locked already -/
def tLockX (t : TE) : TE := fun σ H Q => tLockE t σ H Q ∨ t σ H Q
theorem pe_lockX {X : Cx} {e : Expr} {t : TE} (h : PE X e t) : PE X e (tLockX t) := ⟨fun pins s σ H Q I hw => hw.elim (fun z => (pe_lock h).run pins s σ H Q I z) fun z => h.run pins s σ H Q I z⟩
/-- in worlds where the dict at slot i is locked -/
theorem ev_lockX {te : TE} {α β : Type} {f : α → D} {g : β → D} {kf : α → Key} {m : List (α × β)} {i : Nat} (ok : KOk f kf) (hi : ρ[i]? = some (some (.d (dM f g m))))
    (e : ∀ (B H : Hp) (Fr : Set') (R : VK) (a : Addr) (od : Obj) (kvs : List (Key × V)), Wd K S B H Fr σ ρ → σ[i]? = some (some (.ref a)) → B a = some (.frz od (.dK kvs)) → kvs.map (·.1) = m.map (fun p => kf p.1) →
      (∀ v F B' H', Gr B H B' H' → Ow K S B' H' v o F → (∀ a, F a → H a = none) → R v H') → te σ H R)
    {B H : Hp} {Fr : Set'} {R : VK} (w : Wd K S B H Fr σ ρ) (k : ∀ v F B' H', Gr B H B' H' → Ow K S B' H' v o F → (∀ a, F a → H a = none) → R v H') : tLockX te σ H R := by
  obtain ⟨v, ev, r⟩ := w.rp hi
  obtain ⟨a, kvs, rfl, hr, hk, _⟩ := rp_dM ok r
  rcases hr with hr | ⟨od, hr⟩
  · refine .inl ⟨a, _, w.ex _ _ hr, trivial, fun od => ?_⟩
    have L := lk_lock (od := od) hr (.inl ⟨kvs, rfl⟩)
    have w1 : Wd K S (upd B a (.frz od (.dK kvs))) (upd H a (.frz od (.dK kvs))) Fr σ ρ := w.lk (upd_ex w.ex _ _) L (fun b hb => by
      rw [upd_ne (fun z => by subst z; rw [hr] at hb; cases hb)]; exact hb) fun b hb => upd_ne fun z => by subst z; rw [hr] at hb; cases hb
    refine e _ _ Fr _ a od kvs w1 ev upd_same hk fun v F B2 H2 g q fr => ⟨g.h _ _ upd_same, ?_⟩
    have hB2 : B2 a = some (.frz od (.dK kvs)) := g.b _ _ upd_same
    refine k v F (upd B2 a (.dK kvs)) (upd H2 a (.dK kvs)) ⟨fun b u h => ?_, fun b u h => ?_, upd_ex g.sub _ _, fun b hb => ?_⟩ (q.lk (lk_unlock hB2 (.inl ⟨kvs, rfl⟩)) (fun b hb => ?_) fun b hb => ?_) fun b hb => ?_
    · by_cases c : b = a
      · subst c; rw [hr] at h; cases h; exact upd_same
      · rw [upd_ne c]; exact g.b b u (by rw [upd_ne c]; exact h)
    · by_cases c : b = a
      · subst c; rw [w.ex _ _ hr] at h; cases h; exact upd_same
      · rw [upd_ne c]; exact g.h b u (by rw [upd_ne c]; exact h)
    · by_cases c : b = a
      · subst c; exact .inl (by rw [hr]; simp)
      · rw [upd_ne c] at hb
        have := g.new b hb
        rw [upd_ne c, upd_ne c] at this
        exact this
    · have := (q.there b hb).1
      rw [upd_ne (fun z => by subst z; rw [hB2] at this; cases this)]; exact this
    · have := (q.there b hb).1
      exact upd_ne fun z => by subst z; rw [hB2] at this; cases this
    · have h1 := fr b hb
      by_cases c : b = a
      · subst c; rw [upd_same] at h1; cases h1
      · rw [upd_ne c] at h1; exact h1
  · exact .inr (e B H Fr R a od kvs w ev hr hk k)
theorem its_keys {α : Type} {f : α → D} {kf : α → Key} (ok : KOk f kf) {a : Addr} {od : Obj} {kvs : List (Key × V)} {ks : List α} (h : B a = some (.frz od (.dK kvs))) (hk : kvs.map (·.1) = ks.map kf) : ItS K B (Itk a od kvs) (ks.map f) := fun B1 H1 e1 e2 i => by
  have h1 : H1 a = some (.frz od (.dK kvs)) := e2 _ _ (e1 _ _ h)
  have hl : kvs.length = ks.length := by have := congrArg List.length hk; simpa using this
  refine ⟨fun d hd => ?_, fun hi => ⟨h1, by rw [hi]; simp [hl]⟩⟩
  rw [List.getElem?_map] at hd
  obtain ⟨x, hx, rfl⟩ := Option.map_eq_some_iff.mp hd
  have hi : i < ks.length := (List.getElem?_eq_some_iff.mp hx).1
  refine ⟨⟨h1, by omega⟩, fun y H2 ⟨e, k, w, hkw, ey⟩ => ?_⟩
  subst e
  refine ⟨B1, Gr.refl e2, ?_⟩
  have q1 : (kvs.map (·.1))[i]? = some k := by rw [List.getElem?_map, hkw]; rfl
  rw [hk, List.getElem?_map, hx] at q1
  have q1 : kf x = k := Option.some.inj q1
  rw [ey, ← q1, ← ok.eq]
  cases kf x with
  | inl n => exact .int n
  | inr n => exact .str n
end
section
variable {K : PySem.W.Frag} {S : Option (Addr × Addr)} {ρ : Env} {te : TE} {tt : TT} {α β γ : Type} {f : α → D} {g : β → D} {i : Nat}
/-- a comprehension in one world -/
theorem lc_at {B H : Hp} {Fr : Set'} {σ : L2.St} {R : VK} {wi : TI} {tg : TG} {vs : List Nat} (xs : List α) (e : α → D) (p : α → Bool) (f : α → D) (w : Wd K S B H Fr σ ρ) (hz : xs.length ≤ sizeLine)
    (hi : ∀ R' : It → Hp → Prop, (∀ J B' H', Gr B H B' H' → ItS K B' J (xs.map e) → R' J H') → wi σ H R')
    (hb : ∀ x, x ∈ xs → ∃ ρ2 js, GtD K S tg (wipeE ρ vs) (e x) ρ2 js ∧ (∀ j ∈ js, j ∈ vs) ∧ EvT K S tt ρ2 (p x) ∧ (p x = true → EvD K S te ρ2 (f x)))
    (k : ∀ v F B' H', Gr B H B' H' → Ow K S B' H' v (.l (((xs.filter p).map f).map O.d)) F → (∀ a, F a → H a = none) → R v H') : tLc wi tg tt te vs σ H R := hi _ fun J B1 H1 g1 it => by
  intro Dl hD
  have hB1 := fresh_of g1.sub hD
  refine ⟨fun i m H' => m = xs.length - i ∧ i ≤ xs.length ∧ ∃ B' acc, Gr B1 H1 B' H' ∧ B' Dl = none ∧ H' Dl = some (.lst acc) ∧ RpAll K B' acc (((xs.take i).filter p).map f),
    ⟨xs.length, by simp, Nat.zero_le _, B1, [], Gr.made g1.sub _ hD, hB1, upd_same, by simpa using RpAll.nil⟩, ?_⟩
  rintro i m H' ⟨rfl, hle, B', acc, g2, hBD, hHD, ra⟩
  obtain ⟨go, stop⟩ := it B' H' g2.b g2.sub i
  by_cases hlt : i < xs.length
  · have hx := List.getElem?_eq_getElem hlt
    obtain ⟨go1, yl⟩ := go (e xs[i]) (by rw [List.getElem?_map, hx]; rfl)
    refine .inr ⟨go1, fun H3 => i + 1 ≤ xs.length ∧ ∃ B' acc, Gr B1 H1 B' H3 ∧ B' Dl = none ∧ H3 Dl = some (.lst acc) ∧ RpAll K B' acc (((xs.take (i + 1)).filter p).map f), fun H3 q => ⟨xs.length - (i + 1), by omega, rfl, q.1, q.2⟩, fun v H3 hy => ?_⟩
    obtain ⟨B3, g3, rv⟩ := yl v H3 hy
    obtain ⟨ρ2, js, hg, hjs, ht, he⟩ := hb xs[i] (List.getElem_mem hlt)
    have w3 := (((w.grow g1).grow g2).grow g3).wipe vs
    refine hg B3 H3 Fr _ v _ w3 rv fun σ2 w4 l4 eq => ⟨?_, ?_⟩
    · exact wipe_same eq (l4.trans (wipe_length σ vs)) hjs
    · refine ht B3 H3 Fr σ2 _ w4 fun B4 H4 g4 => ?_
      have hB3 : B3 Dl = none := g3.out hBD (by rw [hHD]; simp)
      have hH3 : H3 Dl = some (.lst acc) := g3.h _ _ hHD
      have hB4 : B4 Dl = none := g4.out hB3 (by rw [hH3]; simp)
      have hH4 : H4 Dl = some (.lst acc) := g4.h _ _ hH3
      cases hp : p xs[i] with
      | false =>
        refine ⟨hlt, B4, acc, (g2.trans g3).trans g4, hB4, hH4, ?_⟩
        rw [take_filter hx, hp]
        simpa using (ra.mono (g3.b.trans g4.b))
      | true =>
        refine (he hp).use (w4.grow g4) fun u B5 H5 g5 r5 => ⟨acc, g5.h _ _ hH4, ?_, hlt, B5, acc ++ [u], ?_, g5.out hB4 (by rw [hH4]; simp), upd_same, ?_⟩
        · have h1 := ra.length
          have h2 : (((xs.take i).filter p).map f).length ≤ i := by
            rw [List.length_map]
            exact Nat.le_trans (List.length_filter_le _ _) (by rw [List.length_take]; omega)
          omega
        · have g6 := ((g2.trans g3).trans g4).trans g5
          have hH1D : H1 Dl = none := hD
          refine ⟨g6.b, fun a u h => ?_, fun a u h => ?_, g6.new⟩
          · rw [upd_ne (ne_of_none h hH1D)]; exact g6.h a u h
          · rw [upd_ne (ne_of_none h (g5.out hB4 (by rw [hH4]; simp)))]; exact g6.sub a u h
        · rw [take_filter hx, hp]
          exact (ra.mono ((g3.b.trans g4.b).trans g5.b)).append (.cons r5 .nil)
  · have hi' : i = xs.length := by omega
    subst hi'
    refine .inl ⟨stop (by simp), ?_⟩
    rw [List.take_length] at ra
    refine k _ (fun a => a = Dl) B' H' (g1.trans g2) (Ow.newList hBD hHD ra) fun a z => z ▸ fresh_of g1.h hD
/-- [te for g in d if tt], d a dict -/
theorem ev_lcFK {kf : α → Key} (ok : KOk f kf) {m : List (α × β)} (hi : ρ[i]? = some (some (.d (dM f g m)))) {tg : TG} {vs : List Nat} (toD : γ → D) (p : α → Bool) (h : α → γ) (hz : m.length ≤ 16000000)
    (hb : ∀ x, x ∈ m.map (·.1) → ∃ ρ2 js, GtD K S tg (wipeE ρ vs) (f x) ρ2 js ∧ (∀ j ∈ js, j ∈ vs) ∧ EvT K S tt ρ2 (p x) ∧ (p x = true → EvD K S te ρ2 (toD (h x)))) :
    EvO K S (tLockX (tLc (iKeys (tVar i)) tg tt te vs)) ρ (oL toD (((m.map (·.1)).filter p).map h)) := fun B H Fr σ R w k => by
  have hs : (16000000 : Nat) ≤ sizeLine := by decide
  refine ev_lockX ok hi (fun B H Fr R a od kvs w ev hB hk k => ?_) w k
  refine lc_at (m.map (·.1)) f p (fun x => toD (h x)) w (by rw [List.length_map]; omega) (fun R' kk => ⟨_, ev, a, od, rfl, .inl ⟨kvs, w.ex _ _ hB, kk _ B H (Gr.refl w.ex) (its_keys ok hB (by rw [List.map_map]; exact hk))⟩⟩) hb fun v F B' H' g q fr => k v F B' H' g ?_ fr
  have : oL toD (((m.map (·.1)).filter p).map h) = .l ((((m.map (·.1)).filter p).map fun x => toD (h x)).map O.d) := by simp [oL, List.map_map, Function.comp_def]
  rw [this]
  exact q
theorem ev_lcMK {kf : α → Key} (ok : KOk f kf) {m : List (α × β)} (hi : ρ[i]? = some (some (.d (dM f g m)))) {tg : TG} {vs : List Nat} (toD : γ → D) (h : α → γ) (hz : m.length ≤ 16000000)
    (hb : ∀ x, x ∈ m.map (·.1) → ∃ ρ2 js, GtD K S tg (wipeE ρ vs) (f x) ρ2 js ∧ (∀ j ∈ js, j ∈ vs) ∧ EvD K S te ρ2 (toD (h x))) :
    EvO K S (tLockX (tLc (iKeys (tVar i)) tg tYes te vs)) ρ (oL toD ((m.map (·.1)).map h)) := by
  have := ev_lcFK (te := te) ok hi toD (fun _ => true) h hz fun x hx => by
    obtain ⟨ρ2, js, h1, h2, h3⟩ := hb x hx
    exact ⟨ρ2, js, h1, h2, et_yes, fun _ => h3⟩
  rwa [List.filter_eq_self.mpr (by simp)] at this
end
/-! ### d == {}, d != {}, d.pop(k) -/
def rEq0 : R2 := fun x y H Q => ∃ a b kvs, x = .ref a ∧ y = .ref b ∧ Rd H a (.dK kvs) ∧ Rd H b (.dK []) ∧ Q (.bl kvs.isEmpty) H
def rNe0 : R2 := fun x y H Q => ∃ a b kvs, x = .ref a ∧ y = .ref b ∧ Rd H a (.dK kvs) ∧ Rd H b (.dK []) ∧ Q (.bl (!kvs.isEmpty)) H
section
variable {X : Cx}
theorem op_eq0 {k : Nat} (hr : Room k X.A) : OpR X (compareOp .Eq) rEq0 := by
  intro pins s σ H x y v u Q I rx ry h
  obtain ⟨a, b, ks, rfl, rfl, ea, eb, q⟩ := h
  obtain rfl : v = Value.ref a := rx
  obtain rfl : u = Value.ref b := ry
  obtain ⟨_, ya, va, ra, da⟩ := dk_rd I.hok ea
  obtain ⟨_, yb, vb, rb, db⟩ := dk_rd I.hok eb
  have hl : ks.length = va.length := Paired.length ra
  have hb : vb = [] := List.length_eq_zero_iff.mp (by have := Paired.length rb; simpa using this.symm)
  subst hb
  have hu : X.A.units < cLine := by have := hu64 hr; omega
  refine PySem.W.keq_eq (knd := mixKind X.prog X.w) (r := true) ya yb da db hu (fun e => ?_) (fin_bl I q ?_)
  · have : va = [] := List.length_eq_zero_iff.mp (by simpa using e)
    subst this
    exact .nil
  · cases ks <;> cases va <;> simp_all
theorem op_ne0 {k : Nat} (hr : Room k X.A) : OpR X (compareOp .NotEq) rNe0 := by
  intro pins s σ H x y v u Q I rx ry h
  obtain ⟨a, b, ks, rfl, rfl, ea, eb, q⟩ := h
  obtain rfl : v = Value.ref a := rx
  obtain rfl : u = Value.ref b := ry
  obtain ⟨_, ya, va, ra, da⟩ := dk_rd I.hok ea
  obtain ⟨_, yb, vb, rb, db⟩ := dk_rd I.hok eb
  have hl : ks.length = va.length := Paired.length ra
  have hb : vb = [] := List.length_eq_zero_iff.mp (by have := Paired.length rb; simpa using this.symm)
  subst hb
  have hu : X.A.units < cLine := by have := hu64 hr; omega
  refine PySem.W.keq_ne (knd := mixKind X.prog X.w) (r := true) ya yb da db hu (fun e => ?_) (fin_bl I q ?_)
  · have : va = [] := List.length_eq_zero_iff.mp (by simpa using e)
    subst this
    exact .nil
  · cases ks <;> cases va <;> simp_all
def rDPop : V → List V → Hp → VK → Prop := fun x vs H Q => ∃ a kvs k y, x = .ref a ∧ vs = [kV k] ∧ H a = some (.dK kvs) ∧ valV kvs k = some y ∧ Q y (upd H a (.dK (dropK kvs k)))
theorem mt_dpop : MtM X "dict.pop" rDPop := by
  intro pins s σ H x vs v us Q I rx rv h
  obtain ⟨a, kvs, k, y, rfl, rfl, hH, hy, q⟩ := h
  obtain rfl : v = Value.ref a := rx
  obtain ⟨u, rfl, ru⟩ := rv.one
  exact d_pop I hH ru hy (.inl rfl) fun w' s' I' r' => ⟨y, _, I', r', q⟩
end
section
variable {K : PySem.W.Frag} {S : Option (Addr × Addr)} {ρ : Env} {te ta tb : TE} {tt : TT} {α β γ : Type} {f : α → D} {g : β → D} {i : Nat} {E : DE}
theorem emp_keys {κ α β : Type} {kf : α → κ} {kvs : List (κ × V)} {m : List (α × β)} (h : kvs.map (·.1) = m.map (fun p => kf p.1)) [DecidableEq α] [DecidableEq β] : kvs.isEmpty = decide (m = []) := by
  cases kvs <;> cases m <;> simp_all
theorem r2_eq0 [DecidableEq α] [DecidableEq β] {kf : α → Key} (ok : KOk f kf) {m : List (α × β)} : R2D K S rEq0 (dM f g m) (dM f g []) (.d (.bool (decide (m = [])))) := fun B H v u R ex r q kk => by
  obtain ⟨a, kvs, rfl, hr, hk, _⟩ := rp_dM ok r
  obtain ⟨b, ls, rfl, hs, hl, _⟩ := rp_dM ok q
  have : ls = [] := by cases ls with | nil => rfl | cons _ _ => simp at hl
  subst this
  exact ⟨a, b, kvs, rfl, rfl, Evl.ex_rd ex hr, Evl.ex_rd ex hs, by rw [emp_keys hk]; exact kk.val ex (.bl _)⟩
theorem r2_ne0 [DecidableEq α] [DecidableEq β] {kf : α → Key} (ok : KOk f kf) {m : List (α × β)} : R2D K S rNe0 (dM f g m) (dM f g []) (.d (.bool (!decide (m = [])))) := fun B H v u R ex r q kk => by
  obtain ⟨a, kvs, rfl, hr, hk, _⟩ := rp_dM ok r
  obtain ⟨b, ls, rfl, hs, hl, _⟩ := rp_dM ok q
  have : ls = [] := by cases ls with | nil => rfl | cons _ _ => simp at hl
  subst this
  exact ⟨a, b, kvs, rfl, rfl, Evl.ex_rd ex hr, Evl.ex_rd ex hs, by rw [emp_keys hk]; exact kk.val ex (.bl _)⟩
abbrev ddel {α β : Type} [DecidableEq α] (m : List (α × β)) (k : α) : List (α × β) := m.filter fun p => !decide (p.1 = k)
theorem drop_ddel {κ : Type} [DecidableEq κ] [DecidableEq α] {kf : α → κ} (inj : ∀ x y, kf x = kf y → x = y) (k : α) {B : Hp} : ∀ {kvs : List (κ × V)} {m : List (α × β)}, kvs.map (·.1) = m.map (fun p => kf p.1) → RpAll K B (kvs.map (·.2)) (m.map fun p => g p.2) →
    (dropK kvs (kf k)).map (·.1) = (ddel m k).map (fun p => kf p.1) ∧ RpAll K B ((dropK kvs (kf k)).map (·.2)) ((ddel m k).map fun p => g p.2)
  | [], [], _, _ => ⟨rfl, .nil⟩
  | (c, v) :: kvs, (x, y) :: m, e, r => by
    simp only [List.map_cons, List.cons.injEq] at e
    cases r with
    | cons r0 rs =>
      obtain ⟨h1, h2⟩ := drop_ddel inj k e.2 rs
      unfold dropK at h1 h2 ⊢
      unfold ddel at h1 h2 ⊢
      by_cases z : x = k
      · have : c = kf k := by rw [e.1, z]
        simp only [List.filter_cons, this, z, ne_eq, not_true_eq_false, decide_false, decide_true, Bool.not_true, Bool.false_eq_true, if_false]
        exact ⟨h1, h2⟩
      · have : ¬ c = kf k := by rw [e.1]; exact fun w => z (inj _ _ w)
        simp only [List.filter_cons, this, z, ne_eq, not_false_eq_true, decide_true, decide_false, Bool.not_false, if_true, List.map_cons]
        exact ⟨by rw [h1, e.1], .cons r0 h2⟩
theorem sw_dpopK [DecidableEq α] {kf : α → Key} (ok : KOk f kf) {m : List (α × β)} {k0 : α} (hi : ρ[i]? = some (some (oK kf g m))) (h : EvD K S te ρ (f k0)) (hk : dhas m k0 = true) (q : ∀ m', m' = ddel m k0 → E.nx (ρ.set i (some (oK kf g m')))) : StW K S (tDrop (tBM K "dict" rDPop (tVar i) (tCons te tNil))) ρ E := fun B H Fr σ D w kk => by
  obtain ⟨p, kvs, ev, hH, _⟩ := w.upK hi
  refine ⟨.ref p, ev, ?_, h.use w fun u B2 H2 g2 r2 => ?_⟩
  · exact .inr (.inr (.inl ⟨rfl, .inl ⟨kvs, hH⟩⟩))
  have w2 := w.grow g2
  obtain ⟨p', kvs, ev2, hH2, hks, ra, up⟩ := w2.upK hi
  rw [ev] at ev2
  cases ev2
  have hu := rp_key ok r2
  obtain ⟨y, hy⟩ : ∃ y, dget m k0 = some y := Option.isSome_iff_exists.mp hk
  obtain ⟨v, hv, _⟩ := (val_dget ok.inj k0 hks ra).2 y hy
  obtain ⟨e1, e2⟩ := drop_ddel ok.inj k0 hks ra
  obtain ⟨w3, a3⟩ := up _ _ e1 e2
  exact ⟨p, kvs, kf k0, v, rfl, by rw [hu], hH2, hv, kk.nx _ σ B2 _ (q _ rfl) ((g2.aft w).trans a3) w3⟩
/-- a dict lent for a list of things that can't change -/
theorem ev_borKL {δ : Type} {f2 : δ → D} {xs : List δ} {kf : α → Key} (ok : KOk f kf) {m : List (α × β)} (i : Nat) (h : ρ[i]? = some (some (oK kf g m))) (im : ∀ x, Im (f2 x)) (e : EvD K S te (ρ.set i (some (.d (dM f g m)))) (lM f2 xs)) : EvD K S te ρ (lM f2 xs) := fun B H Fr σ R w k => by
  obtain ⟨vi, Fi, _, qi, _, w2⟩ := w.frzAt h nsK
  rw [oK_data ok] at w2
  have hF := qi.there
  obtain ⟨p, kvs, _, _, hp, _, _, hFi⟩ := qi.datasK rfl
  refine e _ H Fr σ R w2 fun v F B' H' g q n => ?_
  have key : ∀ a, B a = none ∧ H a ≠ none → B' a ≠ none → B' a = some (.dK kvs) := fun a ha hb => by
    have hfi : Fi a := by
      rcases g.new a hb with z | z
      · by_cases y : Fi a
        · exact y
        · rw [frz_out y] at z; exact absurd ha.1 z
      · exact absurd z ha.2
    have e1 : frz B H Fi a ≠ none := by rw [frz_at hfi]; exact ha.2
    rw [ex_eq g.b e1, frz_at hfi, (hFi a).mp hfi, hp]
  refine k v F _ H' (gr_bor hF g) ?_ n
  obtain ⟨r, nf⟩ := q.dinv
  refine .d _ _ _ ?_ nf
  cases r with
  | lst hl ra =>
    rename_i a ws
    refine .lst ?_ (ra.tu ?_ (imAll_iff.mpr fun x hx => ?_))
    · rw [if_neg fun z => ?_]
      · exact hl
      · have := key a z (by rw [hl]; simp)
        rw [hl] at this
        cases this
    · refine fun a xs => ⟨fun hb => ?_, fun ob hb => ?_⟩
      · dsimp only
        rw [if_neg fun z => ?_]
        · exact hb
        · have := key a z (by rw [hb]; simp)
          rw [hb] at this
          cases this
      · dsimp only
        rw [if_neg fun z => ?_]
        · exact hb
        · have := key a z (by rw [hb]; simp)
          rw [hb] at this
          cases this
    · obtain ⟨y, _, rfl⟩ := List.mem_map.mp hx
      exact im y
theorem ev_unitQL {xs : List Unit} (h : EvD K S te ρ (lM encU xs)) : EvD K S te ρ (lM (encQ f) (xs.map fun _ => none)) := by
  have : lM (encQ f) (xs.map fun _ => none) = lM encU xs := by
    simp only [lM, List.map_map]
    rfl
  rw [this]
  exact h
theorem ev_unitQT {xs : List Unit} (h : EvD K S te ρ (tM encU xs)) : EvD K S te ρ (tM (encQ f) (xs.map fun _ => none)) := by
  have : tM (encQ f) (xs.map fun _ => none) = tM encU xs := by
    simp only [tM, List.map_map]
    rfl
  rw [this]
  exact h
end
end DL

set_option Elab.async false
set_option linter.all false
set_option maxRecDepth 100000
set_option maxHeartbeats 2000000
/-! VD: data of any kind where one kind is wanted, and the other way; tests with draws that tell what is known; recursion -/
namespace DL
open PySem PySem.Spec PyProof.Rows L2 StX
section
variable {K : PySem.W.Frag} {S : Option (Addr × Addr)} {ρ : Env} {ta tb te : TE} {tt tu : TT} {ts us : TS} {α β γ : Type} {f : α → D} {E : DE} {d : D}
theorem tM_up (f : α → D) (xs : List α) : tM f xs = tM encD (xs.map f) := by simp [tM, encD]
theorem lM_up (f : α → D) (xs : List α) : lM f xs = lM encD (xs.map f) := by simp [lM, encD]
theorem oL_up (f : α → D) (xs : List α) : oL f xs = oL encD (xs.map f) := by simp [oL, encD, Function.comp_def]
theorem en_toD {P : α → Prop} (h : EvN K S te ρ (NT f P)) : EvN K S te ρ (NT encD fun y => ∃ z, P z ∧ y = f z) := h.mono fun d ⟨y, e, p⟩ => ⟨d, rfl, y, p, e⟩
theorem etn_andK {c : Bool} {P : Prop} (h : EvT K S tt ρ c) (h2 : c = true → EvTN K S tu ρ fun b => b = true → P) : EvTN K S (tAnd tt tu) ρ fun b => b = true → (c = true ∧ P) :=
  etn_and (Q1 := fun b => b = c) (h.n rfl) (fun e => h2 e.symm) (fun e b q z => ⟨e.symm, q z⟩) fun e z => by cases z
theorem etn_orK {c : Bool} {P : Prop} (h : EvT K S tt ρ c) (h2 : c = false → EvTN K S tu ρ fun b => b = false → P) : EvTN K S (tOr tt tu) ρ fun b => b = false → (c = false ∧ P) :=
  etn_or (Q1 := fun b => b = c) (h.n rfl) (fun e => h2 e.symm) (fun e b q z => ⟨e.symm, q z⟩) fun e z => by cases z
theorem etn_yes {Q : Bool → Prop} (v : Bool) (h : EvTN K S tt ρ Q) : EvTN K S tt ρ fun b => b = v → True := h.mono fun _ _ _ => trivial
theorem sw_ifNA {P : Prop} (h : EvTN K S tt ρ fun b => b = true → P) (h1 : P → StW K S ts ρ E) (h2 : True → StW K S us ρ E) : StW K S (tIfS tt ts us) ρ E := sw_ifN h (fun q => h1 (q rfl)) fun _ => h2 trivial
theorem sw_ifNO {P : Prop} (h : EvTN K S tt ρ fun b => b = false → P) (h1 : True → StW K S ts ρ E) (h2 : P → StW K S us ρ E) : StW K S (tIfS tt ts us) ρ E := sw_ifN h (fun _ => h1 trivial) fun q => h2 (q rfl)
end
end DL
namespace DL
open PySem PySem.Spec PyProof.Rows L2 StX
section
variable {K : PySem.W.Frag} {S : Option (Addr × Addr)} {α : Type} {f : α → D}
theorem shp_str {x : Str} (h : PyData.strOk x = true) : SeqAt.shaped (.str x) = true := ((sh_str h : Sh 0 (.str x))).shaped (by decide)
theorem lay_strs : ∀ {xs : List Str}, xs.all PyData.strOk = true → PyData.canLayAll0 (xs.map PyData.str) = true
  | [], _ => by simp [PyData.canLayAll0]
  | x :: xs, h => by
    simp only [List.all_cons, Bool.and_eq_true] at h
    simp [PyData.canLayAll0, PyData.canLay0, h.1, lay_strs h.2]
theorem r2_inS {x : Str} {xs : List Str} (b : Bool) (h : PyData.strOk x = true) (h2 : xs.all PyData.strOk = true) : R2D K S (rInX K false) (.str x) (seqD b (xs.map PyData.str)) (.d (.bool (decide (x ∈ xs)))) := fun B H v u R ex r1 r2 k =>
  .inl ⟨.str x, xs.map PyData.str, r1.mono ex, by cases b; exact .inr (r2.mono ex); exact .inl (r2.mono ex), shp_str h, lay_strs h2, by
    rw [if_neg Bool.false_ne_true, any_eqv eqd_str]; exact k.val ex (.bl _)⟩
theorem r2_notInS {x : Str} {xs : List Str} (b : Bool) (h : PyData.strOk x = true) (h2 : xs.all PyData.strOk = true) : R2D K S (rInX K true) (.str x) (seqD b (xs.map PyData.str)) (.d (.bool (!decide (x ∈ xs)))) := fun B H v u R ex r1 r2 k =>
  .inl ⟨.str x, xs.map PyData.str, r1.mono ex, by cases b; exact .inr (r2.mono ex); exact .inl (r2.mono ex), shp_str h, lay_strs h2, by
    rw [if_pos rfl, any_eqv eqd_str]; exact k.val ex (.bl _)⟩
theorem eqv_nilT (xs : List α) : PyData.eqv (tM f xs) (tM f []) = xs.isEmpty := by cases xs <;> simp [PyData.eqv, PyData.eqvAll]
theorem eqv_nilL (xs : List α) : PyData.eqv (lM f xs) (lM f []) = xs.isEmpty := by cases xs <;> simp [PyData.eqv, PyData.eqvAll]
theorem r2_eqET {xs : List α} (h : SeqAt.shaped (tM f xs) = true) : R2D K S (rEqY K) (tM f xs) (tM f []) (.d (.bool xs.isEmpty)) := by
  rw [← eqv_nilT (f := f)]; exact r2_eq h rfl
theorem r2_neET {xs : List α} (h : SeqAt.shaped (tM f xs) = true) : R2D K S (rNeY K) (tM f xs) (tM f []) (.d (.bool (!xs.isEmpty))) := by
  rw [← eqv_nilT (f := f)]; exact r2_ne h rfl
theorem r2_eqEL {xs : List α} (h : SeqAt.shaped (lM f xs) = true) : R2D K S (rEqY K) (lM f xs) (lM f []) (.d (.bool xs.isEmpty)) := by
  rw [← eqv_nilL (f := f)]; exact r2_eq h rfl
theorem r2_neEL {xs : List α} (h : SeqAt.shaped (lM f xs) = true) : R2D K S (rNeY K) (lM f xs) (lM f []) (.d (.bool (!xs.isEmpty))) := by
  rw [← eqv_nilL (f := f)]; exact r2_ne h rfl
end
end DL

set_option Elab.async false
set_option linter.all false
set_option maxRecDepth 100000
set_option maxHeartbeats 2000000
/-! VE: data with empty dicts in tuples: isinstance, repr; tuples and lists compared as far as both go -/
namespace DL
open PySem PySem.Spec PyProof.Rows L2 StX SeqAt
theorem Rp.tyE {K : PySem.W.Frag} {H : Hp} {v : V} {d : D} (h : Rp K H v d) (nt : NoE d) : TyX K H v (.type (tyName d)) := by
  rcases nt with nt | rfl
  · exact h.ty nt
  · cases h with
    | @dk a kvs ds h r q =>
      rcases h with h | ⟨o, h⟩
      · exact .base (.dK h)
      · exact .fDict h
def rIsE (K : PySem.W.Frag) : List V → Hp → VK → Prop := fun xs H Q => ∃ (x : V) (d : D) (T : String) (b : Bool), xs = [x, .ty T] ∧ Rp K H x d ∧ NoE d ∧ PySem.W.kitOne K (.type (tyName d)) (.type T) = some b ∧ Q (.bl b) H
section
variable {X : Cx} {pins : List (Addr × Obj)} {σ : L2.St} {H : Hp} {s : Shared}
theorem call_isE : CallR X (.builtin "isinstance") (rIsE X.K) := fun pins s σ H xs us Q I r ⟨x, d, T, b, e, rp, nt, k, q⟩ =>
  call_isi pins s σ H xs us Q I r ⟨x, .ty T, _, _, b, e, .ty T, rp.tyE nt, k, q⟩
theorem cr_isER {K : PySem.W.Frag} (hK : X.K = K) : CallR X (.builtin "isinstance") (rIsE K) := hK ▸ call_isE
mutual
theorem Rp.readsT (I : Inv X pins σ H s) : ∀ (d : D) (v : V) (u : Value), Rp X.K H v d → layT d = true → RelV v u → ∃ as, Reads s.heap u d as ∧ sysModules ∉ as
  | .none, _, _, h, _, r => by cases h; cases r; exact ⟨_, Reads.none, by simp⟩
  | .bool b, _, _, h, _, r => by cases h; cases r; exact ⟨_, Reads.bool b, by simp⟩
  | .int i, _, _, h, _, r => by cases h; obtain ⟨t, rfl⟩ := r; exact ⟨_, Reads.int i t, by simp⟩
  | .str x, _, _, h, _, r => by cases h; obtain ⟨t, rfl⟩ := r; exact ⟨_, Reads.str x t, by simp⟩
  | .list xs, _, _, _, l, _ => by simp [layT] at l
  | .tuple ds, _, _, h, l, r => by
    cases h with
    | @tup a xs _ h ra =>
      cases r
      obtain ⟨its, rv, ⟨o, ho, hc, n, hd⟩, hz⟩ := I.tuple (sqt_of h)
      obtain ⟨as, q1, q2⟩ := RpAll.readsT I ds xs its ra (by simpa [layT] using l) rv
      exact ⟨as, Reads.tuple ho hc hd q1, q2⟩
  | .dict kvs, _, _, h, l, r => by
    have : kvs = [] := by simpa [layT] using l
    subst this
    cases h with
    | @dk a kvs2 _ h ra q =>
      cases r
      have e2 : kvs2 = [] := by
        have : kvs2.map (fun p => keyD p.1) = [] := q
        simpa using this
      subst e2
      obtain ⟨_, hm, vs, kv, ⟨o, es, ep, ho, hx, hd, _, hp, _⟩⟩ := dk_rd I.hok h
      have e3 : vs = [] := by cases kv; rfl
      subst e3
      have e4 : es.toList = [] := by
        generalize es.toList = l at hp
        cases hp
        rfl
      refine ⟨[a], ?_, ?_⟩
      · have := Reads.dict (h := s.heap) (a := a) (kvs := []) (as := []) (bs := []) ho hx.1 hd (by rw [e4]; exact .nil) (by rw [e4]; exact .nil)
        exact this
      · intro z
        have : sysModules = a := by simpa using z
        rw [this] at hm
        simp at hm
theorem RpAll.readsT (I : Inv X pins σ H s) : ∀ (ds : List D) (vs : List V) (us : List Value), RpAll X.K H vs ds → layTs ds = true → Vals vs us → ∃ as, ReadsAll s.heap us ds as ∧ sysModules ∉ as
  | [], _, _, h, _, r => by cases h; cases r; exact ⟨_, .nil, by simp⟩
  | d :: ds, _, _, h, l, r => by
    simp only [layTs, Bool.and_eq_true] at l
    cases h with
    | cons h1 h2 =>
      cases r with
      | cons r1 r2 =>
        obtain ⟨as, a1, a2⟩ := Rp.readsT I d _ _ h1 l.1 r1
        obtain ⟨bs, b1, b2⟩ := RpAll.readsT I ds _ _ h2 l.2 r2
        exact ⟨_, .cons a1 b1, by simp [a2, b2]⟩
end
def rReprE (K : PySem.W.Frag) : List V → Hp → VK → Prop := fun vs H Q => rReprY K vs H Q ∨ ∃ (v : V) (d : D), vs = [v] ∧ Rp K H v d ∧ layT d = true ∧ d.showable = true ∧ d.depth ≤ 50 ∧ d.shown.length ≤ sizeLine ∧ Q (.str d.shown) H
theorem cr_reprT (hg : X.A.guards = some []) (hu : X.A.units + 64 < cLine) : CallR X (.builtin "repr") (fun vs H Q => ∃ (v : V) (d : D), vs = [v] ∧ Rp X.K H v d ∧ layT d = true ∧ d.showable = true ∧ d.depth ≤ 50 ∧ d.shown.length ≤ sizeLine ∧ Q (.str d.shown) H) := by
  intro pins s σ H vs us Q I r h
  obtain ⟨v, d, rfl, rp, ly, sh, dp, sz, q⟩ := h
  have seq : (∃ a, v = .ref a) → wpAny (model X.prog X.w) X.A (call (.builtin "repr") us) (EP X pins σ Q) X.xe s := by
    rintro ⟨a, rfl⟩
    rw [Vals.ref1 r]
    obtain ⟨as, rd, ns⟩ := rp.readsT I d _ _ ly rfl
    exact repr_of_reads' rd sh (fun _ => ns) hg (by omega) (fun _ _ z => z) (fun h' u tk hk => ⟨.str _, H, I.kept hk, ⟨_, rfl⟩, q⟩) sz
  have atom : d.canLay0 = true → wpAny (model X.prog X.w) X.A (call (.builtin "repr") us) (EP X pins σ Q) X.xe s := fun l => cr_repr hg hu pins s σ H [v] us Q I r ⟨v, d, rfl, rp, l, sh, dp, sz, q⟩
  cases rp with
  | non => exact atom rfl
  | bl b => exact atom rfl
  | int i => exact atom rfl
  | str x => exact atom (by simpa [layT, PyData.canLay0] using ly)
  | lst _ _ => exact seq ⟨_, rfl⟩
  | tup _ _ => exact seq ⟨_, rfl⟩
  | dk _ _ _ => exact seq ⟨_, rfl⟩
  | dt _ _ _ => exact seq ⟨_, rfl⟩
theorem cr_reprER {K : PySem.W.Frag} {k : Nat} (hK : X.K = K) (hg : X.A.guards = some []) (hr : Room k X.A) : CallR X (.builtin "repr") (rReprE K) := by
  subst hK
  exact (cr_reprR rfl hg hr).or (cr_reprT hg (hu64 hr))
/-! == as far as both go -/
def rEqP (K : PySem.W.Frag) (neg : Bool) : R2 := fun x y H Q => ∃ (a b : Addr) (xs ys : List V) (ds es : List D), x = .ref a ∧ y = .ref b ∧ SqT K H a xs ∧ SqT K H b ys ∧ RpAll K H xs ds ∧ RpAll K H ys es ∧
  (∀ (j : Nat) (z w : D), ds[j]? = some z → es[j]? = some w → z.canLay0 = true ∧ w.canLay0 = true ∧ z.depth ≤ 60) ∧ Q (.bl (if neg then !PyData.eqvAll ds es else PyData.eqvAll ds es)) H
theorem pair_at {ds es : List D} {j : Nat} {z w : D} (h1 : ds[j]? = some z) (h2 : es[j]? = some w) : PyData.eqv z w = SeqAt.pairEq ds es j := by
  unfold SeqAt.pairEq
  rw [List.getD_eq_getElem?_getD, List.getD_eq_getElem?_getD, h1, h2]
  rfl
theorem eqP_he (I : Inv X pins σ H s) (hu : X.A.units + 64 < cLine) {xs ys : List V} {ds es : List D} {its jts : List Value} (rx : RpAll X.K H xs ds) (ry : RpAll X.K H ys es) (rv : Vals xs its) (rw_ : Vals ys jts)
    (h : ∀ (j : Nat) (z w : D), ds[j]? = some z → es[j]? = some w → z.canLay0 = true ∧ w.canLay0 = true ∧ z.depth ≤ 60) :
    ∀ j (h1 : j < its.toArray.size) (h2 : j < jts.toArray.size), EqAt X.A.in1 s its.toArray[j] jts.toArray[j] (SeqAt.pairEq ds es j) := fun j h1 h2 => by
  have l1 := rv.length
  have l2 := rw_.length
  have m1 := rx.length
  have m2 := ry.length
  have j1 : j < its.length := by simpa using h1
  have j2 : j < jts.length := by simpa using h2
  obtain ⟨z, hz⟩ : ∃ z, ds[j]? = some z := ⟨_, List.getElem?_eq_getElem (by omega)⟩
  obtain ⟨w, hw⟩ : ∃ w, es[j]? = some w := ⟨_, List.getElem?_eq_getElem (by omega)⟩
  obtain ⟨v, hv, rz⟩ := rx.getD hz
  obtain ⟨u, hu', rw2⟩ := ry.getD hw
  obtain ⟨c1, c2, c3⟩ := h j z w hz hw
  obtain ⟨u1, g1, a1⟩ := rv.get hv
  obtain ⟨u2, g2, a2⟩ := rw_.get hu'
  obtain rfl : its[j] = u1 := by rw [List.getElem?_eq_getElem j1] at g1; exact Option.some.inj g1
  obtain rfl : jts[j] = u2 := by rw [List.getElem?_eq_getElem j2] at g2; exact Option.some.inj g2
  obtain ⟨as, q1⟩ := rz.reads I c1 a1
  obtain ⟨bs, q2⟩ := rw2.reads I c2 a2
  rw [← pair_at hz hw]
  have := SeqAt.eqAt_reads z w X.A.in1 s _ _ as bs q1 q2 c1 c2 (by show X.A.units + 1 + min z.depth w.depth < cLine; omega)
  simpa using this
theorem op_eqP (hu : X.A.units + 64 < cLine) : OpR X (compareOp .Eq) (rEqP X.K false) := fun pins s σ H x y v u Q I rx ry ⟨a, b, xs, ys, ds, es, e1, e2, sx, sy, ra, rb, h, q⟩ => by
  subst e1 e2
  cases rx
  cases ry
  obtain ⟨its, rv, hl, _⟩ := I.tuple sx
  obtain ⟨jts, rw_, hb, _⟩ := I.tuple sy
  have l1 := rv.length
  have l2 := rw_.length
  have m1 := ra.length
  have m2 := rb.length
  have key := RcAt.tuples (A := X.A) (s := s) hl hb (by omega) (eqP_he I hu ra rb rv rw_ h)
  rw [show its.toArray.size = ds.length by simp; omega, show jts.toArray.size = es.length by simp; omega, eqvAll_eq] at key
  rw [if_neg Bool.false_ne_true] at q
  exact key X.prog X.w X.xe _ ⟨.bl _, H, I, rfl, q⟩
theorem op_neP (hu : X.A.units + 64 < cLine) : OpR X (compareOp .NotEq) (rEqP X.K true) := fun pins s σ H x y v u Q I rx ry ⟨a, b, xs, ys, ds, es, e1, e2, sx, sy, ra, rb, h, q⟩ => by
  subst e1 e2
  cases rx
  cases ry
  obtain ⟨its, rv, hl, _⟩ := I.tuple sx
  obtain ⟨jts, rw_, hb, _⟩ := I.tuple sy
  have l1 := rv.length
  have l2 := rw_.length
  have m1 := ra.length
  have m2 := rb.length
  have key := RcNeAt.tuples (A := X.A) (s := s) hl hb (by omega) (eqP_he I hu ra rb rv rw_ h)
  rw [show its.toArray.size = ds.length by simp; omega, show jts.toArray.size = es.length by simp; omega, eqvAll_eq] at key
  rw [if_pos rfl] at q
  exact key X.prog X.w X.xe _ ⟨.bl _, H, I, rfl, q⟩
theorem op_eqPR {K : PySem.W.Frag} {k : Nat} (hK : X.K = K) (hr : Room k X.A) : OpR X (compareOp .Eq) (rEqP K false) := hK ▸ op_eqP (hu64 hr)
theorem op_nePR {K : PySem.W.Frag} {k : Nat} (hK : X.K = K) (hr : Room k X.A) : OpR X (compareOp .NotEq) (rEqP K true) := hK ▸ op_neP (hu64 hr)
/-! a list with the empty one -/
def rEqE (K : PySem.W.Frag) (neg : Bool) : R2 := fun x y H Q => ∃ (a b : Addr) (xs : List V), x = .ref a ∧ y = .ref b ∧ SqL K H a xs ∧ SqL K H b [] ∧ Q (.bl (if neg then !xs.isEmpty else xs.isEmpty)) H
theorem plain_is {h : Heap} {a : Addr} {its : List Value} (p : PlainL h a its.toArray) : h.IsList a its.toArray := by
  obtain ⟨o, n, h1, h2, h3, h4⟩ := p
  exact ⟨o, h1, h2, n, h4⟩
theorem op_eqE (hu : X.A.units + 64 < cLine) : OpR X (compareOp .Eq) (rEqE X.K false) := fun pins s σ H x y v u Q I rx ry ⟨a, b, xs, e1, e2, sx, sy, q⟩ => by
  subst e1 e2
  cases rx
  cases ry
  obtain ⟨its, rv, hl, _⟩ := I.list sx
  obtain ⟨jts, rw_, hb, _⟩ := I.list sy
  cases rw_
  have hl := plain_is hl
  have hb := plain_is hb
  rw [if_neg Bool.false_ne_true] at q
  cases rv with
  | nil =>
    have key := RcAt.lists (A := X.A) (s := s) (e := fun _ => true) hl hb rfl (by omega) (fun j h1 _ => by simp at h1)
    exact key X.prog X.w X.xe _ ⟨.bl _, H, I, rfl, q⟩
  | cons r rs =>
    have key := RcAt.lists_lengths (A := X.A) (s := s) hl hb (by simp) (by omega)
    exact key X.prog X.w X.xe _ ⟨.bl _, H, I, rfl, q⟩
theorem op_neE (hu : X.A.units + 64 < cLine) : OpR X (compareOp .NotEq) (rEqE X.K true) := fun pins s σ H x y v u Q I rx ry ⟨a, b, xs, e1, e2, sx, sy, q⟩ => by
  subst e1 e2
  cases rx
  cases ry
  obtain ⟨its, rv, hl, _⟩ := I.list sx
  obtain ⟨jts, rw_, hb, _⟩ := I.list sy
  cases rw_
  have hl := plain_is hl
  have hb := plain_is hb
  rw [if_pos rfl] at q
  cases rv with
  | nil =>
    have key := RcNeAt.lists (A := X.A) (s := s) (e := fun _ => true) hl hb rfl (by omega) (fun j h1 _ => by simp at h1)
    exact key X.prog X.w X.xe _ ⟨.bl _, H, I, rfl, q⟩
  | cons r rs =>
    have key := RcNeAt.lists_lengths (A := X.A) (s := s) hl hb (by simp) (by omega)
    exact key X.prog X.w X.xe _ ⟨.bl _, H, I, rfl, q⟩
theorem op_eqER {K : PySem.W.Frag} {k : Nat} (hK : X.K = K) (hr : Room k X.A) : OpR X (compareOp .Eq) (rEqE K false) := hK ▸ op_eqE (hu64 hr)
theorem op_neER {K : PySem.W.Frag} {k : Nat} (hK : X.K = K) (hr : Room k X.A) : OpR X (compareOp .NotEq) (rEqE K true) := hK ▸ op_neE (hu64 hr)
end
/-! ### the rules -/
section
variable {K : PySem.W.Frag} {S : Option (Addr × Addr)} {ρ : Env} {ta te : TE} {α : Type} {f : α → D} {d : D}
theorem kit_dE (T : String) (hT : T = "int" ∨ T = "bool" ∨ T = "str" ∨ T = "tuple" ∨ T = "list") (d : D) (nd : NoE d) : PySem.W.kitOne K (.type (tyName d)) (.type T) = some (isB T d) := by
  rcases nd with nd | rfl
  · exact kit_d T hT d nd
  · refine kit_ty ?_
    rcases hT with rfl | rfl | rfl | rfl | rfl <;> (simp only [tyName, isB]; decide +kernel)
theorem ev_isiE {T : String} (h : EvD K S ta ρ d) (nd : NoE d) (hT : T = "int" ∨ T = "bool" ∨ T = "str" ∨ T = "tuple" ∨ T = "list" := by simp) : EvD K S (tCB (rIsE K) (tCons ta (tCons (tC (.ty T)) tNil))) ρ (.bool (isB T d)) := .mk fun B H Fr σ R w k =>
  h.use w fun v B1 H1 g r => ⟨v, d, T, isB T d, rfl, r.mono g.sub, nd, kit_dE T hT d nd, k _ B1 H1 g (.bl _)⟩
theorem rc_reprE (h1 : d.canLay0 = true ∨ layT d = true) (h2 : d.showable = true) (h3 : d.depth ≤ 50) (h4 : d.shown.length ≤ sizeLine) : RcD K S (rReprE K) [d] (.d (.str d.shown)) := fun B H vs R ex r k => by
  rcases h1 with h1 | h1
  · exact .inl (rc_repr h1 h2 h3 h4 B H vs R ex r k)
  · cases r with | cons r t => cases t; exact .inr ⟨_, d, rfl, r.mono ex, h1, h2, h3, h4, k.val ex (.str _)⟩
theorem ev_reprE {d : D} {n m : Nat} (h : EvD K S te ρ d) (sh : ShE m d) (hm : m ≤ 50) (sz : Sz n d) (hn : n ≤ 16000000) : EvD K S (tCB (rReprE K) (tCons te tNil)) ρ (.str d.shown) :=
  ev_cb (ea_cons h ea_nil) (rc_reprE sh.1 sz.1 (Nat.le_trans sh.2 hm) (Nat.le_trans sz.2 (by rw [sizeLine_eq]; omega)))
theorem sq_tup {B H : Hp} {v : V} {ds : List D} (ex : Evl.Ex B H) (r : Rp K B v (.tuple ds)) : ∃ a xs, v = .ref a ∧ SqT K H a xs ∧ RpAll K H xs ds := by
  cases r with
  | tup h ra => exact ⟨_, _, rfl, sqt_of (ex _ _ h), ra.mono ex⟩
theorem sq_lst {B H : Hp} {v : V} {ds : List D} (ex : Evl.Ex B H) (r : Rp K B v (.list ds)) : ∃ a xs, v = .ref a ∧ SqL K H a xs ∧ RpAll K H xs ds := by
  cases r with
  | lst h ra => exact ⟨_, _, rfl, SqL.of (ex _ _ h), ra.mono ex⟩
theorem r2_eqP {ds es : List D} (h : ∀ (j : Nat) (z w : D), ds[j]? = some z → es[j]? = some w → z.canLay0 = true ∧ w.canLay0 = true ∧ z.depth ≤ 60) : R2D K S (rEqP K false) (tM DL.encD ds) (tM DL.encD es) (.d (.bool (PyData.eqvAll ds es))) := fun B H v u R ex r1 r2 k => by
  have e1 : tM DL.encD ds = .tuple ds := by simp
  have e2 : tM DL.encD es = .tuple es := by simp
  rw [e1] at r1
  rw [e2] at r2
  obtain ⟨a, xs, rfl, s1, q1⟩ := sq_tup ex r1
  obtain ⟨b, ys, rfl, s2, q2⟩ := sq_tup ex r2
  exact ⟨a, b, xs, ys, ds, es, rfl, rfl, s1, s2, q1, q2, h, by rw [if_neg Bool.false_ne_true]; exact k.val ex (.bl _)⟩
theorem r2_neP {ds es : List D} (h : ∀ (j : Nat) (z w : D), ds[j]? = some z → es[j]? = some w → z.canLay0 = true ∧ w.canLay0 = true ∧ z.depth ≤ 60) : R2D K S (rEqP K true) (tM DL.encD ds) (tM DL.encD es) (.d (.bool (!PyData.eqvAll ds es))) := fun B H v u R ex r1 r2 k => by
  have e1 : tM DL.encD ds = .tuple ds := by simp
  have e2 : tM DL.encD es = .tuple es := by simp
  rw [e1] at r1
  rw [e2] at r2
  obtain ⟨a, xs, rfl, s1, q1⟩ := sq_tup ex r1
  obtain ⟨b, ys, rfl, s2, q2⟩ := sq_tup ex r2
  exact ⟨a, b, xs, ys, ds, es, rfl, rfl, s1, s2, q1, q2, h, by rw [if_pos rfl]; exact k.val ex (.bl _)⟩
theorem r2_eqEm {xs : List α} : R2D K S (rEqE K false) (lM f xs) (lM f []) (.d (.bool xs.isEmpty)) := fun B H v u R ex r1 r2 k => by
  obtain ⟨a, vs, rfl, s1, q1⟩ := sq_lst ex r1
  obtain ⟨b, ws, rfl, s2, q2⟩ := sq_lst ex r2
  cases q2
  refine ⟨a, b, vs, rfl, rfl, s1, s2, ?_⟩
  have : vs.isEmpty = xs.isEmpty := by
    have := q1.length
    cases vs <;> cases xs <;> simp_all
  rw [if_neg Bool.false_ne_true, this]
  exact k.val ex (.bl _)
theorem r2_neEm {xs : List α} : R2D K S (rEqE K true) (lM f xs) (lM f []) (.d (.bool (!xs.isEmpty))) := fun B H v u R ex r1 r2 k => by
  obtain ⟨a, vs, rfl, s1, q1⟩ := sq_lst ex r1
  obtain ⟨b, ws, rfl, s2, q2⟩ := sq_lst ex r2
  cases q2
  refine ⟨a, b, vs, rfl, rfl, s1, s2, ?_⟩
  have : vs.isEmpty = xs.isEmpty := by
    have := q1.length
    cases vs <;> cases xs <;> simp_all
  rw [if_pos rfl, this]
  exact k.val ex (.bl _)
end
end DL

set_option Elab.async false
set_option linter.all false
set_option maxRecDepth 100000
set_option maxHeartbeats 2000000
/-! VN: lists in a list, all owned, changed in place -/
namespace DL
open PySem PySem.Spec PyProof.Rows L2 StX
open Evl (Ex Ex.refl Ex.trans Ex.new Ex.mut)
/-- a comprehension's list at work: what is in it is owned, and new -/
structure LcI (K : PySem.W.Frag) (S : Option (Addr × Addr)) (B1 H1 : Hp) (Dl : Addr) (os : List O) (B' H' : Hp) (its : List (V × O)) (Fs : Nat → Set') : Prop where
  g : Gr B1 H1 B' H'
  bD : B' Dl = none
  hD : H' Dl = some (.lst (its.map fun x => x.1))
  eo : its.map (fun x => x.2) = os
  ih : ∀ (j : Nat) (x : V × O), its[j]? = some x → Ow K S B' H' x.1 x.2 (Fs j)
  hd : ∀ (j l : Nat) (a : Addr), j ≠ l → Fs j a → ¬ Fs l a
  hp : ∀ j, ¬ Fs j Dl
  hn : ∀ j a, Fs j a → j < its.length
  hf : ∀ j a, Fs j a → H1 a = none
section
variable {K : PySem.W.Frag} {S : Option (Addr × Addr)} {ρ : Env} {ta tb te ti tj : TE} {tt : TT} {ts us : TS} {α β : Type} {f : α → D} {i j : Nat} {E : DE} {o : O} {xss : List (List α)}
abbrev oLL (f : α → D) (xss : List (List α)) : O := .l (xss.map (oL f))
theorem nsLL : NoSrc (oLL f xss) := .l _ fun o ho => by obtain ⟨x, _, rfl⟩ := List.mem_map.mp ho; exact nsL
theorem oLL_data : (oLL f xss).data = lM (lM f) xss := by
  simp only [oLL, O.data, O.dataAll_map, List.map_map]
  congr 1
  exact List.map_congr_left fun x _ => oL_data
theorem sw_frzMM (i : Nat) (h : ρ[i]? = some (some (oLL f xss))) (k : StW K S ts (ρ.set i (some (.d (lM (lM f) xss)))) E) : StW K S ts ρ E := sw_frz i h nsLL (by rw [oLL_data]; exact k)
theorem ev_borMM (i : Nat) (h : ρ[i]? = some (some (oLL f xss))) (im : OIm o) (e : EvO K S te (ρ.set i (some (.d (lM (lM f) xss)))) o) : EvO K S te ρ o := ev_bor i h nsLL im (by rw [oLL_data]; exact e)
theorem ev_frzMM (h : EvO K S te ρ (oLL f xss)) : EvD K S te ρ (lM (lM f) xss) := by
  have := ev_frz h nsLL
  rw [oLL_data] at this
  exact this
theorem sw_asgLL {v : List (List α)} (f : α → D) (h : EvO K S te ρ (oLL f v)) (k : ∀ x, x = v → E.nx (ρ.set i (some (oLL f x)))) : StW K S (tAsg te (gName i)) ρ E := sw_asg h (k v rfl)
theorem LcI.add {B1 H1 B' H' B5 H5 : Hp} {Dl : Addr} {os : List O} {its : List (V × O)} {Fs : Nat → Set'} {u : V} {F : Set'} (h : LcI K S B1 H1 Dl os B' H' its Fs) (g : Gr B' H' B5 H5) (q : Ow K S B5 H5 u o F) (n : ∀ a, F a → H' a = none) (hD1 : H1 Dl = none) :
    LcI K S B1 H1 Dl (os ++ [o]) B5 (upd H5 Dl (.lst (its.map (fun x => x.1) ++ [u]))) (its ++ [(u, o)]) fun j a => if j = its.length then F a else Fs j a := by
  have hH5 : H5 Dl = some (.lst (its.map fun x => x.1)) := g.h _ _ h.hD
  have hB5 : B5 Dl = none := g.out h.bD (by rw [h.hD]; simp)
  have nF : ¬ F Dl := fun z => by have := n Dl z; rw [h.hD] at this; cases this
  have g6 := h.g.trans g
  refine ⟨⟨g6.b, fun a u e => ?_, fun a u e => ?_, g6.new⟩, hB5, by rw [upd_same]; simp, by rw [List.map_append, h.eo]; rfl, fun j x hx => ?_, fun j l a hne hj hl => ?_, fun j hj => ?_, fun j a hj => ?_, fun j a hj => ?_⟩
  · rw [upd_ne (ne_of_none e hD1)]; exact g6.h a u e
  · rw [upd_ne (ne_of_none e hB5)]; exact g6.sub a u e
  · by_cases hj : j = its.length
    · subst hj
      rw [List.getElem?_append_right (Nat.le_refl _)] at hx
      simp at hx
      subst hx
      exact (q.move (Ex.refl _) (fun a ha => (q.there a ha).1) fun a ha => upd_ne fun (z : a = Dl) => nF (z ▸ ha)).ofIff fun a => by simp
    · have hlt : j < its.length := by
        have := (List.getElem?_eq_some_iff.mp hx).1
        simp at this
        omega
      rw [List.getElem?_append_left hlt] at hx
      have q2 := (h.ih j x hx).grow g
      exact (q2.move (Ex.refl _) (fun a ha => (q2.there a ha).1) fun a ha => upd_ne fun (z : a = Dl) => h.hp j (z ▸ ha)).ofIff fun a => by simp [hj]
  · have old : ∀ j a, Fs j a → H' a ≠ none := fun j a z => ((h.ih j _ (List.getElem?_eq_getElem (h.hn j a z))).there a z).2
    try dsimp only at hj hl
    split at hj <;> split at hl
    · rename_i a1 a2; exact hne (a1.trans a2.symm)
    · exact old l a hl (n a hj)
    · exact old j a hj (n a hl)
    · exact h.hd j l a hne hj hl
  · try dsimp only at hj
    split at hj
    · exact nF hj
    · exact h.hp j hj
  · try dsimp only at hj
    rw [List.length_append, List.length_singleton]
    split at hj
    · omega
    · have := h.hn j a hj; omega
  · try dsimp only at hj
    split at hj
    · exact fresh_of h.g.h (n a hj)
    · exact h.hf j a hj
theorem LcI.grow {B1 H1 B' H' B5 H5 : Hp} {Dl : Addr} {os : List O} {its : List (V × O)} {Fs : Nat → Set'} (h : LcI K S B1 H1 Dl os B' H' its Fs) (g : Gr B' H' B5 H5) : LcI K S B1 H1 Dl os B5 H5 its Fs :=
  ⟨h.g.trans g, g.out h.bD (by rw [h.hD]; simp), g.h _ _ h.hD, h.eo, fun j x hx => (h.ih j x hx).grow g, h.hd, h.hp, h.hn, h.hf⟩
/-- [te for g in wi if tt], owned things in it -/
theorem ev_lcO {wi : TI} {g : TG} {vs : List Nat} (xs : List α) (e : α → D) (p : α → Bool) (f : α → O) (hi : EvI K S wi ρ (xs.map e))
    (hb : ∀ x, x ∈ xs → ∃ ρ2 js, GtD K S g (wipeE ρ vs) (e x) ρ2 js ∧ (∀ j ∈ js, j ∈ vs) ∧ EvT K S tt ρ2 (p x) ∧ (p x = true → EvO K S te ρ2 (f x))) :
    EvO K S (tLc wi g tt te vs) ρ (.l ((xs.filter p).map f)) := fun B H Fr σ R w k => hi B H Fr σ _ w fun J B1 H1 g1 it hz => by
  intro Dl hD
  have hB1 := fresh_of g1.sub hD
  refine ⟨fun i m H' => m = xs.length - i ∧ i ≤ xs.length ∧ ∃ B' its Fs, LcI K S B1 H1 Dl (((xs.take i).filter p).map f) B' H' its Fs,
    ⟨xs.length, by simp, Nat.zero_le _, B1, [], fun _ _ => False, Gr.made g1.sub _ hD, hB1, upd_same, by simp, fun j x h => by simp at h, fun _ _ _ _ z => z.elim, fun _ z => z, fun _ _ z => z.elim, fun _ _ z => z.elim⟩, ?_⟩
  rintro i m H' ⟨rfl, hle, B', its, Fs, L⟩
  obtain ⟨go, stop⟩ := it B' H' L.g.b L.g.sub i
  by_cases hlt : i < xs.length
  · have hx := List.getElem?_eq_getElem hlt
    obtain ⟨go1, yl⟩ := go (e xs[i]) (by rw [List.getElem?_map, hx]; rfl)
    refine .inr ⟨go1, fun H3 => i + 1 ≤ xs.length ∧ ∃ B' its Fs, LcI K S B1 H1 Dl (((xs.take (i + 1)).filter p).map f) B' H3 its Fs,
      fun H3 q => ⟨xs.length - (i + 1), by omega, rfl, q.1, q.2⟩, fun v H3 hy => ?_⟩
    obtain ⟨B3, g3, rv⟩ := yl v H3 hy
    obtain ⟨ρ2, js, hg, hjs, ht, he⟩ := hb xs[i] (List.getElem_mem hlt)
    have w3 := (((w.grow g1).grow L.g).grow g3).wipe vs
    refine hg B3 H3 Fr _ v _ w3 rv fun σ2 w4 l4 eq => ⟨?_, ?_⟩
    · exact wipe_same eq (l4.trans (wipe_length σ vs)) hjs
    · refine ht B3 H3 Fr σ2 _ w4 fun B4 H4 g4 => ?_
      have g34 := g3.trans g4
      have L4 := L.grow g34
      cases hpx : p xs[i] with
      | false =>
        refine ⟨hlt, B4, its, Fs, ?_⟩
        rw [take_filter hx, hpx]
        simpa using L4
      | true =>
        refine he hpx B4 H4 Fr σ2 _ (w4.grow g4) fun u F B5 H5 g5 q5 n5 => ?_
        have L5 := L4.add g5 q5 n5 hD
        have eT : ((xs.take (i + 1)).filter p).map f = ((xs.take i).filter p).map f ++ [f xs[i]] := by
          rw [take_filter hx, hpx]
          rfl
        rw [← eT] at L5
        refine ⟨_, g5.h _ _ L4.hD, ?_, hlt, B5, _, _, L5⟩
        have h1 := congrArg List.length L.eo
        have h2 : (((xs.take i).filter p).map f).length ≤ i := by
          rw [List.length_map]
          exact Nat.le_trans (List.length_filter_le _ _) (by rw [List.length_take]; omega)
        have h3 : (xs.map e).length = xs.length := by simp
        simp only [List.length_map] at h1 h2 ⊢
        omega
  · have hi' : i = xs.length := by omega
    subst hi'
    refine .inl ⟨stop (by simp), ?_⟩
    have eo := L.eo
    rw [List.take_length] at eo
    refine k _ (fun a => a = Dl ∨ ∃ j, Fs j a) B' H' (g1.trans L.g) ?_ fun a z => ?_
    · rw [← eo]
      exact .l Dl its _ Fs L.bD L.hD L.ih L.hd L.hp L.hn fun a => Iff.rfl
    · rcases z with z | ⟨j, z⟩
      · exact z ▸ fresh_of g1.h hD
      · exact fresh_of g1.h (L.hf j a z)
theorem ev_lcFO {wi : TI} {g : TG} {vs : List Nat} (toD : β → D) (xs : List α) (e : α → D) (p : α → Bool) (h : α → List β) (hi : EvI K S wi ρ (xs.map e)) (hb : ∀ x, x ∈ xs → ∃ ρ2 js, GtD K S g (wipeE ρ vs) (e x) ρ2 js ∧ (∀ j ∈ js, j ∈ vs) ∧ EvT K S tt ρ2 (p x) ∧ (p x = true → EvO K S te ρ2 (oL toD (h x)))) :
    EvO K S (tLc wi g tt te vs) ρ (oLL toD ((xs.filter p).map h)) := by
  have := ev_lcO xs e p (fun x => oL toD (h x)) hi hb
  refine ev_is this ?_
  simp [oLL, List.map_map, Function.comp_def]
theorem ev_lcMO {wi : TI} {g : TG} {vs : List Nat} (toD : β → D) (xs : List α) (e : α → D) (h : α → List β) (hi : EvI K S wi ρ (xs.map e)) (hb : ∀ x, x ∈ xs → ∃ ρ2 js, GtD K S g (wipeE ρ vs) (e x) ρ2 js ∧ (∀ j ∈ js, j ∈ vs) ∧ EvO K S te ρ2 (oL toD (h x))) :
    EvO K S (tLc wi g tYes te vs) ρ (oLL toD (xs.map h)) := by
  have := ev_lcFO toD xs e (fun _ => true) h hi fun x hx => by
    obtain ⟨ρ2, js, h1, h2, h3⟩ := hb x hx
    exact ⟨ρ2, js, h1, h2, et_yes, fun _ => h3⟩
  rwa [List.filter_eq_self.mpr (by simp)] at this
/-! changes -/
theorem Ow.lists {B H : Hp} {v : V} {F : Set'} {o : O} (h : Ow K S B H v o F) : ∀ {os : List O}, o = .l os → ∃ (p : Addr) (its : List (V × O)) (Fs : Nat → Set'), v = .ref p ∧ its.map (fun x => x.2) = os ∧ B p = none ∧ H p = some (.lst (its.map fun x => x.1)) ∧
    (∀ (i : Nat) (x : V × O), its[i]? = some x → Ow K S B H x.1 x.2 (Fs i)) ∧ (∀ (i j : Nat) (a : Addr), i ≠ j → Fs i a → ¬ Fs j a) ∧ (∀ i, ¬ Fs i p) ∧ (∀ i a, Fs i a → i < its.length) ∧ ∀ a, F a ↔ a = p ∨ ∃ i, Fs i a := by
  intro os e
  cases h with
  | l p its _ Fs hB hH ih hd hp hn hF =>
    injection e with e
    exact ⟨p, its, Fs, rfl, e, hB, hH, ih, hd, hp, hn, hF⟩
  | _ => cases e
/-- an inner list of a slot's: another one put in its place -/
theorem Wd.upLL {B H : Hp} {Fr : Set'} {σ : L2.St} {n : Nat} (w : Wd K S B H Fr σ ρ) (e : ρ[i]? = some (some (oLL f xss))) (hn : n < xss.length) : ∃ p vs q ws, σ[i]? = some (some (.ref p)) ∧ H p = some (.lst vs) ∧ vs.length = xss.length ∧ vs[n]? = some (.ref q) ∧ H q = some (.lst ws) ∧ RpAll K B ws (xss[n].map f) ∧
    ∀ ws' ys, RpAll K B ws' (ys.map f) → Wd K S B (upd H q (.lst ws')) Fr σ (ρ.set i (some (oLL f (xss.set n ys)))) ∧ Aft S B H Fr B (upd H q (.lst ws')) := by
  have w' : Wd K S B H (fun a => Fr a ∨ False) σ ρ := w.less fun a z => z.elim id fun z => z.elim
  obtain ⟨v, F, e1, q0, nF, k⟩ := w'.mod e fun _ z => z.elim
  obtain ⟨p, its, Fs, rfl, eo, hB, hH, ih, hd, hp, hl, hF⟩ := q0.lists rfl
  have elen : its.length = xss.length := by have := congrArg List.length eo; simpa using this
  have hn' : n < its.length := by omega
  have hx := List.getElem?_eq_getElem hn'
  have eo2 : (its[n]).2 = oL f xss[n] := by
    have := congrArg (fun l => l[n]?) eo
    simp only [List.getElem?_map, hx, List.getElem?_eq_getElem hn, Option.map_some, Option.some.injEq] at this
    exact this
  have qn := ih n _ hx
  rw [eo2, oL_ds] at qn
  obtain ⟨q, ws, ev, hBq, hHq, ra, hFq⟩ := qn.datas rfl
  have npq : p ≠ q := fun z => hp n ((hFq p).mpr z)
  refine ⟨p, _, q, ws, e1, hH, by rw [List.length_map]; exact elen, by rw [List.getElem?_map, hx]; exact congrArg some ev, hHq, ra, fun ws' ys r' => ?_⟩
  have hFsq : ∀ j a, j ≠ n → Fs j a → a ≠ q := fun j a hj h z => hd j n a hj h ((hFq a).mpr z)
  refine k (upd H q (.lst ws')) (oLL f (xss.set n ys)) F (fun a ha => upd_ne fun z => ha ((hF a).mpr (.inr ⟨n, (hFq a).mpr z⟩))) (fun a ha => ?_) ?_ fun a z => .inl z
  · by_cases z : a = q
    · rw [z, upd_same]; simp
    · rw [upd_ne z]
      rcases (hF a).mp ha with y | ⟨j, y⟩
      · rw [y, hH]; simp
      · exact ((ih j _ (List.getElem?_eq_getElem (hl j a y))).there a y).2
  · have e2 : (xss.set n ys).map (oL f) = (its.set n ((its[n]).1, oL f ys)).map (fun x => x.2) := by rw [List.map_set, List.map_set, eo]
    have e3 : (its.set n ((its[n]).1, oL f ys)).map (fun x => x.1) = its.map fun x => x.1 := by
      rw [List.map_set]
      apply List.ext_getElem?
      intro j
      by_cases hj : j = n
      · subst hj
        rw [List.getElem?_set_self (by rw [List.length_map]; exact hn'), List.getElem?_map, hx]
        rfl
      · rw [List.getElem?_set_ne (Ne.symm hj)]
    show Ow K S B (upd H q (.lst ws')) (.ref p) (.l ((xss.set n ys).map (oL f))) F
    rw [e2]
    refine .l p _ F Fs hB (by rw [e3, upd_ne npq]; exact hH) (fun j x hj => ?_) hd hp (fun j a h => by rw [List.length_set]; exact hl j a h) hF
    by_cases hjn : j = n
    · subst hjn
      rw [List.getElem?_set_self hn'] at hj
      cases hj
      show Ow K S B _ (its[j]).1 (oL f ys) (Fs j)
      rw [ev, oL_ds]
      exact (Ow.newList hBq upd_same r').ofIff fun a => (hFq a).symm
    · rw [List.getElem?_set_ne (Ne.symm hjn)] at hj
      have q2 := ih j x hj
      exact q2.move (Ex.refl B) (fun a ha => (q2.there a ha).1) fun a ha => upd_ne (hFsq j a hjn ha)
theorem ixN_nn {n : Int} {l : Nat} (h0 : 0 ≤ n) (h1 : n < l) : ixN l n = some n.toNat := by
  unfold ixN
  rw [if_pos h0, if_pos h1]
theorem ix_ref {B H : Hp} {p : Addr} {vs : List V} {n : Int} {v : V} {Q : VK} (hH : H p = some (.lst vs)) (h0 : 0 ≤ n) (h1 : n < vs.length) (hv : vs[n.toNat]? = some v) (k : Q v H) : rIxX K (.ref p) (.int n) H Q :=
  .inl (.inl ⟨_, _, n, v, rfl, rfl, SqL.of hH, by unfold L2.atI; rw [ixN_nn h0 h1]; exact hv, k⟩)
/-- xs[i][j] = e, e drawn -/
theorem sw_setVVN {n m : Int} {P : α → Prop} (f : α → D) (hi : ρ[i]? = some (some (oLL f xss))) (h : EvN K S te ρ (NT f P)) (hn : EvD K S ti ρ (.int n)) (hm : EvD K S tj ρ (.int m)) (h0 : 0 ≤ n) (h1 : n < xss.length) (m0 : 0 ≤ m) (m1 : m < (gi xss n).length)
    (k : ∀ x, P x → ∀ y, y = xss.set n.toNat ((gi xss n).set m.toNat x) → E.nx (ρ.set i (some (oLL f y)))) : StW K S (tAsg te (gSub (tOp (rIxX K) (tVar i) ti) tj rSetX)) ρ E := fun B H Fr σ D w kk => by
  refine h B H Fr σ _ w fun v d B1 H1 ⟨x, ed, px⟩ gr r => ?_
  subst ed
  have w1 := w.growN gr
  have hnl : n.toNat < xss.length := by omega
  have eg : gi xss n = xss[n.toNat] := gi_eq (by omega) h0
  obtain ⟨p, vs, q, ws, ev, hH, hl, hv, hq, ra, _⟩ := w1.upLL hi hnl
  refine ⟨.ref p, ev, hn.use w1 fun u B2 H2 g2 r2 => ?_⟩
  cases r2
  have w2 := w1.grow g2
  have hH2 := g2.h _ _ hH
  refine ix_ref (B := B2) hH2 h0 (by omega) hv (hm.use w2 fun u B3 H3 g3 r3 => ?_)
  cases r3
  have w3 := w2.grow g3
  obtain ⟨p', vs', q', ws', ev', hH', hl', hv', hq', ra', up⟩ := w3.upLL hi hnl
  rw [ev] at ev'
  cases ev'
  have e1 := g3.h _ _ hH2
  rw [hH'] at e1
  cases e1
  rw [hv] at hv'
  cases hv'
  have rl := ra'.length
  rw [List.length_map, ← eg] at rl
  obtain ⟨w4, a4⟩ := up (ws'.set m.toNat v) ((gi xss n).set m.toNat x) (by
    rw [List.map_set, eg]
    exact RpAll.set (r.mono (g2.b.trans g3.b)) _ ra')
  exact .inl ⟨q, ws', m, m.toNat, rfl, rfl, hq', by rw [rl]; exact ixN_nn m0 m1, kk.nx _ σ B3 _ (k x px _ rfl) ((gr.aft w).trans (((g2.trans g3).aft w1).trans a4)) w4⟩
theorem sw_setVV {n m : Int} {v : List (List α)} {x : α} (f : α → D) (hi : ρ[i]? = some (some (oLL f xss))) (h : EvD K S te ρ (f x)) (hn : EvD K S ti ρ (.int n)) (hm : EvD K S tj ρ (.int m)) (h0 : 0 ≤ n) (h1 : n < xss.length) (m0 : 0 ≤ m) (m1 : m < (gi xss n).length)
    (ev : v = xss.set n.toNat ((gi xss n).set m.toNat x)) (k : ∀ y, y = v → E.nx (ρ.set i (some (oLL f y)))) : StW K S (tAsg te (gSub (tOp (rIxX K) (tVar i) ti) tj rSetX)) ρ E :=
  sw_setVVN (P := fun y => y = x) f hi (h.n ⟨x, rfl, rfl⟩) hn hm h0 h1 m0 m1 fun y hy z hz => k z (by rw [hz, hy, ev])
/-- xs[i][-c] = e -/
theorem sw_setNVV {n : Int} {c : Nat} {v : List (List α)} {x : α} (f : α → D) (hi : ρ[i]? = some (some (oLL f xss))) (h : EvD K S te ρ (f x)) (hn : EvD K S ti ρ (.int n)) (hm : EvD K S tj ρ (.int (-(c : Int)))) (h0 : 0 ≤ n) (h1 : n < xss.length) (c0 : 0 < c) (c1 : c ≤ (gi xss n).length)
    (ev : v = xss.set n.toNat ((gi xss n).set ((gi xss n).length - c) x)) (k : ∀ y, y = v → E.nx (ρ.set i (some (oLL f y)))) : StW K S (tAsg te (gSub (tOp (rIxX K) (tVar i) ti) tj rSetX)) ρ E := fun B H Fr σ D w kk => by
  refine h.use w fun u0 B1 H1 gr r => ?_
  have w1 := w.grow gr
  have hnl : n.toNat < xss.length := by omega
  have eg : gi xss n = xss[n.toNat] := gi_eq (by omega) h0
  obtain ⟨p, vs, q, ws, ev2, hH, hl, hv, hq, ra, _⟩ := w1.upLL hi hnl
  refine ⟨.ref p, ev2, hn.use w1 fun u B2 H2 g2 r2 => ?_⟩
  cases r2
  have w2 := w1.grow g2
  have hH2 := g2.h _ _ hH
  refine ix_ref (B := B2) hH2 h0 (by omega) hv (hm.use w2 fun u B3 H3 g3 r3 => ?_)
  cases r3
  have w3 := w2.grow g3
  obtain ⟨p', vs', q', ws', ev', hH', hl', hv', hq', ra', up⟩ := w3.upLL hi hnl
  rw [ev2] at ev'
  cases ev'
  have e1 := g3.h _ _ hH2
  rw [hH'] at e1
  cases e1
  rw [hv] at hv'
  cases hv'
  have rl := ra'.length
  rw [List.length_map, ← eg] at rl
  obtain ⟨w4, a4⟩ := up (ws'.set ((gi xss n).length - c) u0) ((gi xss n).set ((gi xss n).length - c) x) (by
    rw [List.map_set, eg]
    exact RpAll.set (r.mono (g2.b.trans g3.b)) _ ra')
  refine .inl ⟨q, ws', -(c : Int), (gi xss n).length - c, rfl, rfl, hq', ?_, kk.nx _ σ B3 _ (k _ ev.symm) ((gr.aft w).trans (((g2.trans g3).aft w1).trans a4)) w4⟩
  rw [rl]
  unfold ixN
  rw [if_neg (by omega), if_pos (by omega)]
  congr 1
  omega
/-- xs[i].append(e), e drawn -/
theorem sw_appVVN {n : Int} {P : α → Prop} (f : α → D) (hi : ρ[i]? = some (some (oLL f xss))) (hn : EvD K S ti ρ (.int n)) (h : EvN K S te ρ (NT f P)) (h0 : 0 ≤ n) (h1 : n < xss.length) (hz : (gi xss n).length < 16000000)
    (k : ∀ x, P x → ∀ y, y = xss.set n.toNat (gi xss n ++ [x]) → E.nx (ρ.set i (some (oLL f y)))) : StW K S (tDrop (tBM K "list" rAppend (tOp (rIxX K) (tVar i) ti) (tCons te tNil))) ρ E := fun B H Fr σ D w kk => by
  have hnl : n.toNat < xss.length := by omega
  have eg : gi xss n = xss[n.toNat] := gi_eq (by omega) h0
  obtain ⟨p, vs, q, ws, ev, hH, hl, hv, hq, ra, _⟩ := w.upLL hi hnl
  refine ⟨.ref p, ev, hn.use w fun u B2 H2 g2 r2 => ?_⟩
  cases r2
  have w2 := w.grow g2
  have hH2 := g2.h _ _ hH
  refine ix_ref (B := B2) hH2 h0 (by omega) hv ⟨.inl ⟨rfl, _, SqL.of (g2.h _ _ hq)⟩, h B2 H2 Fr σ _ w2 fun v d B3 H3 ⟨x, ed, px⟩ g3 r => ?_⟩
  subst ed
  have w3 := w2.growN g3
  obtain ⟨p', vs', q', ws', ev', hH', hl', hv', hq', ra', up⟩ := w3.upLL hi hnl
  rw [ev] at ev'
  cases ev'
  obtain ⟨w4, a4⟩ := up (ws' ++ [v]) (gi xss n ++ [x]) (by
    rw [List.map_append, eg]
    exact ra'.append (.cons r .nil))
  have rl := ra'.length
  rw [List.length_map, ← eg] at rl
  have hqq : q' = q := by
    obtain ⟨v0, F0, ev0, q0, n0, _⟩ := w2.at hi
    obtain ⟨p0, its, Fs, rfl, _, hB0, hH0, _, _, _, _, hF0⟩ := q0.lists rfl
    rw [ev] at ev0
    cases ev0
    have e1 := (g3.keep p (by rw [hH2]; simp) hB0 (n0 p ((hF0 p).mpr (.inl rfl))).2).1
    rw [hH', hH2] at e1
    cases e1
    rw [hv] at hv'
    cases hv'
    rfl
  subst hqq
  exact ⟨q', ws', v, rfl, rfl, hq', by rw [rl]; exact lt_sz hz, kk.nx _ σ B3 _ (k x px _ rfl) ((g2.aft w).trans ((g3.aft w2).trans a4)) w4⟩
theorem sw_appVV {n : Int} {v : List (List α)} {x : α} (f : α → D) (hi : ρ[i]? = some (some (oLL f xss))) (hn : EvD K S ti ρ (.int n)) (h : EvD K S te ρ (f x)) (h0 : 0 ≤ n) (h1 : n < xss.length) (hz : (gi xss n).length < 16000000)
    (ev : v = xss.set n.toNat (gi xss n ++ [x])) (k : ∀ y, y = v → E.nx (ρ.set i (some (oLL f y)))) : StW K S (tDrop (tBM K "list" rAppend (tOp (rIxX K) (tVar i) ti) (tCons te tNil))) ρ E :=
  sw_appVVN (P := fun y => y = x) f hi hn (h.n ⟨x, rfl, rfl⟩) h0 h1 hz fun y hy z hz => k z (by rw [hz, hy, ev])
/-- xs.append(a list) -/
theorem sw_appLL {ys : List α} (f : α → D) (hi : ρ[i]? = some (some (oLL f xss))) (h : EvO K S te ρ (oL f ys)) (hz : xss.length < 16000000) (k : ∀ y, y = xss ++ [ys] → E.nx (ρ.set i (some (oLL f y)))) : StW K S (tDrop (tBM K "list" rAppend (tVar i) (tCons te tNil))) ρ E :=
  sw_app hi h (by rw [List.length_map]; exact lt_sz hz) (by
    have := k _ rfl
    rwa [oLL, List.map_append] at this)
/-- xs[i] = a list -/
theorem sw_setLL {ys : List α} {n : Int} {v : List (List α)} (f : α → D) (hi : ρ[i]? = some (some (oLL f xss))) (h : EvO K S te ρ (oL f ys)) (hn : EvD K S ti ρ (.int n)) (h0 : 0 ≤ n) (h1 : n < xss.length) (ev : v = xss.set n.toNat ys) (k : ∀ y, y = v → E.nx (ρ.set i (some (oLL f y)))) :
    StW K S (tAsg te (gSub (tVar i) ti rSetX)) ρ E :=
  sw_setL hi h hn (l := n.toNat) (by rw [List.length_map]; exact ixN_nn h0 h1) (by
    have := k _ ev.symm
    rwa [oLL, List.map_set] at this)
theorem ev_toMP2 [Inhabited α] {xss : List (List α)} (h : EvD K S te ρ (tM (tM f) xss)) (hl : ∀ y, y ∈ xss → y.length = 2) : EvD K S te ρ (tM (p2 f f) (xss.map fun y => (gi y (0 : Int), gi y (1 : Int)))) := by
  refine ev_is h ?_
  show O.d (.tuple _) = O.d (.tuple _)
  rw [List.map_map]
  congr 2
  refine List.map_congr_left fun y hy => ?_
  match y, hl y hy with
  | [a, b], _ => rfl
theorem ev_toMP3 [Inhabited α] {xss : List (List α)} (h : EvD K S te ρ (tM (tM f) xss)) (hl : ∀ y, y ∈ xss → y.length = 3) : EvD K S te ρ (tM (p3 f f f) (xss.map fun y => (gi y (0 : Int), gi y (1 : Int), gi y (2 : Int)))) := by
  refine ev_is h ?_
  show O.d (.tuple _) = O.d (.tuple _)
  rw [List.map_map]
  congr 2
  refine List.map_congr_left fun y hy => ?_
  match y, hl y hy with
  | [a, b, c], _ => rfl
end
end DL

set_option Elab.async false
set_option linter.all false
set_option maxRecDepth 100000
set_option maxHeartbeats 4000000
namespace K86
open PySem PySem.Spec PyProof.Rows L2 DL
def top (i : Nat) : Stmt := PySem.Challenge.pw_jobsinturn_k86_whole_spans_and_ways.main.body.getD i (.Pass ⟨0, 0, 0, 0⟩)
abbrev s_is_number : Stmt := top 1
abbrev N_is_number : List Str := ["value"]
theorem sc_is_number : FnScope N_is_number ["value"] (defScope s_is_number) := ⟨rfl, rfl, rfl, by decide +kernel, rfl, by decide +kernel, by decide +kernel⟩
abbrev s_is_room_job : Stmt := top 3
abbrev N_is_room_job : List Str := ["value", "x"]
theorem sc_is_room_job : FnScope N_is_room_job ["value"] (defScope s_is_room_job) := ⟨rfl, rfl, rfl, by decide +kernel, rfl, by decide +kernel, by decide +kernel⟩
abbrev s_are_room_jobs : Stmt := top 4
abbrev N_are_room_jobs : List Str := ["value", "job"]
theorem sc_are_room_jobs : FnScope N_are_room_jobs ["value"] (defScope s_are_room_jobs) := ⟨rfl, rfl, rfl, by decide +kernel, rfl, by decide +kernel, by decide +kernel⟩
abbrev s_ends_in_room : Stmt := top 5
abbrev N_ends_in_room : List Str := ["lengths", "order", "come", "found", "hour", "job"]
theorem sc_ends_in_room : FnScope N_ends_in_room ["lengths", "order", "come"] (defScope s_ends_in_room) := ⟨rfl, rfl, rfl, by decide +kernel, rfl, by decide +kernel, by decide +kernel⟩
abbrev s_ends_by_rooms : Stmt := top 6
abbrev N_ends_by_rooms : List Str := ["jobs", "orders", "found", "come", "job", "room", "order"]
theorem sc_ends_by_rooms : FnScope N_ends_by_rooms ["jobs", "orders"] (defScope s_ends_by_rooms) := ⟨rfl, rfl, rfl, by decide +kernel, rfl, by decide +kernel, by decide +kernel⟩
abbrev s_room_ends : Stmt := top 7
abbrev N_room_ends : List Str := ["jobs", "order", "ends", "room", "job"]
theorem sc_room_ends : FnScope N_room_ends ["jobs", "order"] (defScope s_room_ends) := ⟨rfl, rfl, rfl, by decide +kernel, rfl, by decide +kernel, by decide +kernel⟩
abbrev s_rooms_span : Stmt := top 8
abbrev N_rooms_span : List Str := ["jobs", "orders"]
theorem sc_rooms_span : FnScope N_rooms_span ["jobs", "orders"] (defScope s_rooms_span) := ⟨rfl, rfl, rfl, by decide +kernel, rfl, by decide +kernel, by decide +kernel⟩
abbrev s_room_span : Stmt := top 9
abbrev N_room_span : List Str := ["jobs", "order"]
theorem sc_room_span : FnScope N_room_span ["jobs", "order"] (defScope s_room_span) := ⟨rfl, rfl, rfl, by decide +kernel, rfl, by decide +kernel, by decide +kernel⟩
abbrev s_way_length : Stmt := top 10
abbrev N_way_length : List Str := ["jobs", "order", "u", "v", "first", "job", "middle"]
theorem sc_way_length : FnScope N_way_length ["jobs", "order", "u", "v"] (defScope s_way_length) := ⟨rfl, rfl, rfl, by decide +kernel, rfl, by decide +kernel, by decide +kernel⟩
abbrev s_greatest_way : Stmt := top 11
abbrev N_greatest_way : List Str := ["jobs", "order", "n", "found", "u", "v", "less"]
theorem sc_greatest_way : FnScope N_greatest_way ["jobs", "order"] (defScope s_greatest_way) := ⟨rfl, rfl, rfl, by decide +kernel, rfl, by decide +kernel, by decide +kernel⟩
abbrev s_wide_span : Stmt := top 12
abbrev N_wide_span : List Str := ["jobs", "order", "u"]
theorem sc_wide_span : FnScope N_wide_span ["jobs", "order"] (defScope s_wide_span) := ⟨rfl, rfl, rfl, by decide +kernel, rfl, by decide +kernel, by decide +kernel⟩
abbrev s_turned_rooms : Stmt := top 14
abbrev N_turned_rooms : List Str := ["jobs", "a", "b", "c"]
theorem sc_turned_rooms : FnScope N_turned_rooms ["jobs"] (defScope s_turned_rooms) := ⟨rfl, rfl, rfl, by decide +kernel, rfl, by decide +kernel, by decide +kernel⟩
abbrev s_with_middle : Stmt := top 15
abbrev N_with_middle : List Str := ["jobs", "more", "a", "b", "c"]
theorem sc_with_middle : FnScope N_with_middle ["jobs", "more"] (defScope s_with_middle) := ⟨rfl, rfl, rfl, by decide +kernel, rfl, by decide +kernel, by decide +kernel⟩
abbrev s__law_source : Stmt := top 17
abbrev N__law_source : List Str := ["script", "mixed", "cell"]
theorem sc__law_source : FnScope N__law_source ["script"] (defScope s__law_source) := ⟨rfl, rfl, rfl, by decide +kernel, rfl, by decide +kernel, by decide +kernel⟩
abbrev s__law_pick : Stmt := top 18
abbrev N__law_pick : List Str := ["source", "many", "left", "mixed"]
theorem sc__law_pick : FnScope N__law_pick ["source", "many"] (defScope s__law_pick) := ⟨rfl, rfl, rfl, by decide +kernel, rfl, by decide +kernel, by decide +kernel⟩
abbrev s__law_of : Stmt := top 19
abbrev N__law_of : List Str := ["source", "some"]
theorem sc__law_of : FnScope N__law_of ["source", "some"] (defScope s__law_of) := ⟨rfl, rfl, rfl, by decide +kernel, rfl, by decide +kernel, by decide +kernel⟩
abbrev s__law_mixed : Stmt := top 20
abbrev N__law_mixed : List Str := ["source", "things", "rest", "lap"]
theorem sc__law_mixed : FnScope N__law_mixed ["source", "things"] (defScope s__law_mixed) := ⟨rfl, rfl, rfl, by decide +kernel, rfl, by decide +kernel, by decide +kernel⟩
abbrev s__law_jobs : Stmt := top 21
abbrev N__law_jobs : List Str := ["source", "n", "way", "far", "found", "job", "a", "b", "c"]
theorem sc__law_jobs : FnScope N__law_jobs ["source", "n"] (defScope s__law_jobs) := ⟨rfl, rfl, rfl, by decide +kernel, rfl, by decide +kernel, by decide +kernel⟩
abbrev s__law_ends : Stmt := top 22
abbrev N__law_ends : List Str := ["jobs", "orders", "come", "found", "room", "order", "hour", "ends", "job"]
theorem sc__law_ends : FnScope N__law_ends ["jobs", "orders"] (defScope s__law_ends) := ⟨rfl, rfl, rfl, by decide +kernel, rfl, by decide +kernel, by decide +kernel⟩
abbrev s__law_span : Stmt := top 23
abbrev N__law_span : List Str := ["jobs", "order"]
theorem sc__law_span : FnScope N__law_span ["jobs", "order"] (defScope s__law_span) := ⟨rfl, rfl, rfl, by decide +kernel, rfl, by decide +kernel, by decide +kernel⟩
abbrev s__law_wide : Stmt := top 24
abbrev N__law_wide : List Str := ["jobs", "order", "first", "last", "job"]
theorem sc__law_wide : FnScope N__law_wide ["jobs", "order"] (defScope s__law_wide) := ⟨rfl, rfl, rfl, by decide +kernel, rfl, by decide +kernel, by decide +kernel⟩
abbrev s__law_near : Stmt := top 25
abbrev N__law_near : List Str := ["source", "value", "odd", "k", "way"]
theorem sc__law_near : FnScope N__law_near ["source", "value", "odd"] (defScope s__law_near) := ⟨rfl, rfl, rfl, by decide +kernel, rfl, by decide +kernel, by decide +kernel⟩
abbrev s__law_way : Stmt := top 26
abbrev N__law_way : List Str := ["jobs", "order", "best", "u", "v", "length", "job"]
theorem sc__law_way : FnScope N__law_way ["jobs", "order"] (defScope s__law_way) := ⟨rfl, rfl, rfl, by decide +kernel, rfl, by decide +kernel, by decide +kernel⟩
abbrev s_law : Stmt := top 27
abbrev N_law : List Str := ["script", "source", "odd", "lap", "n", "jobs", "order", "kept", "ends", "span", "due", "job", "way", "wide", "orders", "room", "back", "a", "b", "c", "more", "late", "x", "longer", "values", "value", "look", "fits", "shown"]
theorem sc_law : FnScope N_law ["script"] (defScope s_law) := ⟨rfl, rfl, rfl, by decide +kernel, rfl, by decide +kernel, by decide +kernel⟩
structure Bl (mg : Str → Option Value) : Prop where
  b_isinstance : mg "isinstance" = none
  b_int : mg "int" = none
  b_bool : mg "bool" = none
  b_all : mg "all" = none
  b_tuple : mg "tuple" = none
  b_len : mg "len" = none
  b_max : mg "max" = none
  b_enumerate : mg "enumerate" = none
  b_range : mg "range" = none
  b_list : mg "list" = none
  b_sum : mg "sum" = none
  b_min : mg "min" = none
  b_abs : mg "abs" = none
  b_repr : mg "repr" = none
abbrev sp_is_number (K : PySem.W.Frag) : Sp := SpF K (α := D) (fun x => Ok_is_number x) (fun x => [DL.encD x]) (fun x => .d (PyData.bool (F_is_number x)))
abbrev sp_is_room_job (K : PySem.W.Frag) : Sp := SpF K (α := D) (fun x => Ok_is_room_job x) (fun x => [DL.encD x]) (fun x => .d (PyData.bool (F_is_room_job x)))
abbrev sp_are_room_jobs (K : PySem.W.Frag) : Sp := SpF K (α := D) (fun x => Ok_are_room_jobs x) (fun x => [DL.encD x]) (fun x => .d (PyData.bool (F_are_room_jobs x)))
abbrev sp_ends_in_room (K : PySem.W.Frag) : Sp := SpF K (α := (List Int) × (List Int) × (List (Int × Int))) (fun x => Ok_ends_in_room x.1 x.2.1 x.2.2) (fun x => [(lM PyData.int) x.1, (tM PyData.int) x.2.1, (dM PyData.int PyData.int) x.2.2]) (fun x => .d ((dM PyData.int PyData.int) (F_ends_in_room x.1 x.2.1 x.2.2)))
abbrev sp_ends_by_rooms (K : PySem.W.Frag) : Sp := SpF K (α := (List (Int × Int × Int)) × (List (List Int))) (fun x => Ok_ends_by_rooms x.1 x.2) (fun x => [(tM (p3 PyData.int PyData.int PyData.int)) x.1, (tM (tM PyData.int)) x.2]) (fun x => .d ((lM (dM PyData.int PyData.int)) (F_ends_by_rooms x.1 x.2)))
abbrev sp_room_ends (K : PySem.W.Frag) : Sp := SpF K (α := (List (Int × Int × Int)) × (List Int)) (fun x => Ok_room_ends x.1 x.2) (fun x => [(tM (p3 PyData.int PyData.int PyData.int)) x.1, (tM PyData.int) x.2]) (fun x => .d ((tM (tM PyData.int)) (F_room_ends x.1 x.2)))
abbrev sp_rooms_span (K : PySem.W.Frag) : Sp := SpF K (α := (List (Int × Int × Int)) × (List (List Int))) (fun x => Ok_rooms_span x.1 x.2) (fun x => [(tM (p3 PyData.int PyData.int PyData.int)) x.1, (tM (tM PyData.int)) x.2]) (fun x => .d (PyData.int (F_rooms_span x.1 x.2)))
abbrev sp_room_span (K : PySem.W.Frag) : Sp := SpF K (α := (List (Int × Int × Int)) × (List Int)) (fun x => Ok_room_span x.1 x.2) (fun x => [(tM (p3 PyData.int PyData.int PyData.int)) x.1, (tM PyData.int) x.2]) (fun x => .d (PyData.int (F_room_span x.1 x.2)))
abbrev sp_way_length (K : PySem.W.Frag) : Sp := SpF K (α := (List (Int × Int × Int)) × (List Int) × Int × Int) (fun x => Ok_way_length x.1 x.2.1 x.2.2.1 x.2.2.2) (fun x => [(tM (p3 PyData.int PyData.int PyData.int)) x.1, (tM PyData.int) x.2.1, PyData.int x.2.2.1, PyData.int x.2.2.2]) (fun x => .d (PyData.int (F_way_length x.1 x.2.1 x.2.2.1 x.2.2.2)))
abbrev sp_greatest_way (K : PySem.W.Frag) : Sp := SpF K (α := (List (Int × Int × Int)) × (List Int)) (fun x => Ok_greatest_way x.1 x.2) (fun x => [(tM (p3 PyData.int PyData.int PyData.int)) x.1, (tM PyData.int) x.2]) (fun x => .d ((p3 PyData.int PyData.int PyData.int) (F_greatest_way x.1 x.2)))
abbrev sp_wide_span (K : PySem.W.Frag) : Sp := SpF K (α := (List (Int × Int × Int)) × (List Int)) (fun x => Ok_wide_span x.1 x.2) (fun x => [(tM (p3 PyData.int PyData.int PyData.int)) x.1, (tM PyData.int) x.2]) (fun x => .d (PyData.int (F_wide_span x.1 x.2)))
abbrev sp_turned_rooms (K : PySem.W.Frag) : Sp := SpF K (α := (List (Int × Int × Int))) (fun x => Ok_turned_rooms x) (fun x => [(tM (p3 PyData.int PyData.int PyData.int)) x]) (fun x => .d ((tM (p3 PyData.int PyData.int PyData.int)) (F_turned_rooms x)))
abbrev sp_with_middle (K : PySem.W.Frag) : Sp := SpF K (α := (List (Int × Int × Int)) × Int) (fun x => Ok_with_middle x.1 x.2) (fun x => [(tM (p3 PyData.int PyData.int PyData.int)) x.1, PyData.int x.2]) (fun x => .d ((tM (p3 PyData.int PyData.int PyData.int)) (F_with_middle x.1 x.2)))
abbrev sp__law_source (K : PySem.W.Frag) : Sp := SpO K
abbrev sp__law_pick (K : PySem.W.Frag) : Sp := spPick K
abbrev sp__law_of (K : PySem.W.Frag) : Sp := spOf K
abbrev sp__law_mixed (K : PySem.W.Frag) : Sp := spMix K
abbrev sp__law_jobs (K : PySem.W.Frag) : Sp := SpN K (α := Int) (fun x => Ok__law_jobs x) (fun x => [PyData.int x]) (fun x d => ∃ r, d = (tM (p3 PyData.int PyData.int PyData.int)) r ∧ Po__law_jobs x r)
abbrev sp__law_ends (K : PySem.W.Frag) : Sp := SpF K (α := (List (Int × Int × Int)) × (List (List Int))) (fun x => Ok__law_ends x.1 x.2) (fun x => [(tM (p3 PyData.int PyData.int PyData.int)) x.1, (tM (tM PyData.int)) x.2]) (fun x => .d ((lM (lM PyData.int)) (F__law_ends x.1 x.2)))
abbrev sp__law_span (K : PySem.W.Frag) : Sp := SpF K (α := (List (Int × Int × Int)) × (List Int)) (fun x => Ok__law_span x.1 x.2) (fun x => [(tM (p3 PyData.int PyData.int PyData.int)) x.1, (tM PyData.int) x.2]) (fun x => .d (PyData.int (F__law_span x.1 x.2)))
abbrev sp__law_wide (K : PySem.W.Frag) : Sp := SpF K (α := (List (Int × Int × Int)) × (List Int)) (fun x => Ok__law_wide x.1 x.2) (fun x => [(tM (p3 PyData.int PyData.int PyData.int)) x.1, (tM PyData.int) x.2]) (fun x => .d (PyData.int (F__law_wide x.1 x.2)))
abbrev sp__law_near (K : PySem.W.Frag) : Sp := SpN K (α := D × (List D)) (fun x => Ok__law_near x.1 x.2) (fun x => [DL.encD x.1, (lM DL.encD) x.2]) (fun x d => ∃ r, d = DL.encD r ∧ Po__law_near x.1 x.2 r)
abbrev sp__law_way (K : PySem.W.Frag) : Sp := SpF K (α := (List (Int × Int × Int)) × (List Int)) (fun x => Ok__law_way x.1 x.2) (fun x => [(tM (p3 PyData.int PyData.int PyData.int)) x.1, (tM PyData.int) x.2]) (fun x => .d ((encQ (p3 PyData.int PyData.int PyData.int)) (F__law_way x.1 x.2)))
abbrev sp_law (K : PySem.W.Frag) : Sp := SpL K
section
variable {P : Program} {w : World} {K : PySem.W.Frag} {mg : Str → Option Value} {base : Heap}
theorem ok_is_number {f : Addr} {fd : FuncData} (F : Fun K "is_number" "is_number" s_is_number f fd) (T : Bl mg)  : Gn P w K mg base 1 f fd ["value"] (sp_is_number K) := by
  refine gn_of F sc_is_number (spf_len fun _ => rfl) (fun cdv A fs s H vs Q E gd hr h => ?_)
  refine ⟨_, (pss_one (ps_ret (pe_and (pe_callB (cr_isR (K := K) rfl) (by rfl) T.b_isinstance bo_isinstance (pa_cons (pv 0) (pa_cons (pe_bltn (v := .ty "int") (by rfl) T.b_int bo_int (by rfl)) pa_nil))) (pe_and (pe_not (pe_callB (cr_isR (K := K) rfl) (by rfl) T.b_isinstance bo_isinstance (pa_cons (pv 0) (pa_cons (pe_bltn (v := .ty "bool") (by rfl) T.b_bool bo_bool (by rfl)) pa_nil)))) (pe_one (pe_cmpR (op_geR (K := K) rfl hr) (pv 0) pe_int (nomark _))))))), ?_⟩
  refine spf_useV (enc := PyData.bool) (fun (x : D) rt => W_is_number x rt) h (fun x hx => V_is_number x hx) fun x rt h => ?_
  revert h; revert x; intro value h
  replace h : W_is_number value rt := h
  unfold W_is_number at h
  obtain ⟨h_1, h_3, h_5, h⟩ := h
  exact sw_ret (ev_andV (ev_isi (ev_var rfl) h_1) fun hb2 => (ev_andV (ev_notV (ev_isi (ev_var rfl) (h_3 hb2))) fun hb4 => (ev_op (ev_var rfl) ev_int (r2_geD (h_5 hb2 hb4))))) ⟨((isB "int" value) && ((!(isB "bool" value)) && (decide ((0 : Int) ≤ dInt value)))), rfl, h⟩
theorem ok_is_room_job {f : Addr} {fd : FuncData} (F : Fun K "is_room_job" "is_room_job" s_is_room_job f fd) (T : Bl mg) (c_is_number : Ca P w K mg base 1 "is_number" (sp_is_number K)) : Gn P w K mg base 2 f fd ["value"] (sp_is_room_job K) := by
  refine gn_of F sc_is_room_job (spf_len fun _ => rfl) (fun cdv A fs s H vs Q E gd hr h => ?_)
  refine ⟨_, (pss_cons (ps_if (PW.pt (pw_or (pt_not (pt_val (pe_callB (cr_isR (K := K) rfl) (by rfl) T.b_isinstance bo_isinstance (pa_cons (pv 0) (pa_cons (pe_bltn (v := .ty "tuple") (by rfl) T.b_tuple bo_tuple (by rfl)) pa_nil))))) (pw_or1 (pt_cmpR (op_neR (K := K) rfl hr) (pe_callB (cr_lenR (K := K) rfl) (by rfl) T.b_len bo_len (pa_cons (pv 0) pa_nil)) pe_int (nomark _))))) (pss_one (ps_ret pe_bl)) pss_nil)
    (pss_one (ps_ret (pe_callB (cr_allR (K := K) rfl rfl) (by rfl) T.b_all bo_all (pa_cons (pe_lc (own := [("x", 1)]) (g := gName 1) (tt := tYes) rfl sc_is_room_job.nd (pi_seqR (K := K) rfl (pv 0)) (blk_es (N := N_is_room_job) (es0 (defScope s_is_room_job)) (by decide +kernel)) (fun _ _ _ _ _ => (pgv 1 sc_is_room_job.nd)) (fun _ _ _ _ _ => pts_nil) (fun _ _ _ _ _ => (pe_and (pe_g c_is_number hr gd (by decide) (by rfl) (pa_cons (pv 1) pa_nil)) (pe_one (pe_cmpR (op_gtR (K := K) rfl hr) (pv 1) pe_int (nomark _)))))) pa_nil))))), ?_⟩
  refine spf_useV (enc := PyData.bool) (fun (x : D) rt => W_is_room_job x rt) h (fun x hx => V_is_room_job x hx) fun x rt h => ?_
  revert h; revert x; intro value h
  replace h : W_is_room_job value rt := h
  unfold W_is_room_job at h
  obtain ⟨h_1, h_3, ht6, hf7⟩ := h
  refine sw_seq (sw_if (et_or (et_not (et_tB (ev_isi (ev_var rfl) h_1))) fun hb2 => (et_test (ev_op (ev_cb (ea_cons (ev_var rfl) ea_nil) (rc_lenD (h_3 hb2))) ev_int r2_neI))) (fun hb5 => ?_) (fun hb5 => sw_next ?_))
  · have h := ht6 hb5
    exact sw_ret ev_bl ⟨false, rfl, h⟩
  · have h := hf7 hb5
    obtain ⟨h_8, h_11, h_13, h⟩ := h
    exact sw_ret (ev_cb (ea_cons (ev_frzM (ev_lcM PyData.bool (dTup value) (fun d : D => d) (fun x9 : D => ((F_is_number x9) && (decide ((0 : Int) < dInt x9)))) (ei_D (ev_var rfl) h_8) fun x9 hx10 => ⟨_, _, gt_name, by simp, (ev_andV (ev_call x9 (ea_cons (ev_var rfl) ea_nil) (h_11 x9 hx10)) fun hb12 => (ev_op (ev_var rfl) ev_int (r2_gtD (h_13 x9 hx10 hb12))))⟩)) ea_nil) rc_allL) ⟨((List.map (fun x9 : D => ((F_is_number x9) && (decide ((0 : Int) < dInt x9)))) (dTup value)).all id), rfl, h⟩
theorem ok_are_room_jobs {f : Addr} {fd : FuncData} (F : Fun K "are_room_jobs" "are_room_jobs" s_are_room_jobs f fd) (T : Bl mg) (c_is_room_job : Ca P w K mg base 2 "is_room_job" (sp_is_room_job K)) : Gn P w K mg base 3 f fd ["value"] (sp_are_room_jobs K) := by
  refine gn_of F sc_are_room_jobs (spf_len fun _ => rfl) (fun cdv A fs s H vs Q E gd hr h => ?_)
  refine ⟨_, (pss_one (ps_ret (pe_and (pe_callB (cr_isR (K := K) rfl) (by rfl) T.b_isinstance bo_isinstance (pa_cons (pv 0) (pa_cons (pe_bltn (v := .ty "tuple") (by rfl) T.b_tuple bo_tuple (by rfl)) pa_nil))) (pe_one (pe_callB (cr_allR (K := K) rfl rfl) (by rfl) T.b_all bo_all (pa_cons (pe_lc (own := [("job", 1)]) (g := gName 1) (tt := tYes) rfl sc_are_room_jobs.nd (pi_seqR (K := K) rfl (pv 0)) (blk_es (N := N_are_room_jobs) (es0 (defScope s_are_room_jobs)) (by decide +kernel)) (fun _ _ _ _ _ => (pgv 1 sc_are_room_jobs.nd)) (fun _ _ _ _ _ => pts_nil) (fun _ _ _ _ _ => (pe_g c_is_room_job hr gd (by decide) (by rfl) (pa_cons (pv 1) pa_nil)))) pa_nil)))))), ?_⟩
  refine spf_useV (enc := PyData.bool) (fun (x : D) rt => W_are_room_jobs x rt) h (fun x hx => V_are_room_jobs x hx) fun x rt h => ?_
  revert h; revert x; intro value h
  replace h : W_are_room_jobs value rt := h
  unfold W_are_room_jobs at h
  obtain ⟨h_1, h_3, h_6, h⟩ := h
  exact sw_ret (ev_andV (ev_isi (ev_var rfl) h_1) fun hb2 => (ev_cb (ea_cons (ev_frzM (ev_lcM PyData.bool (dTup value) (fun d : D => d) (fun x4 : D => (F_is_room_job x4)) (ei_D (ev_var rfl) (h_3 hb2)) fun x4 hx5 => ⟨_, _, gt_name, by simp, (ev_call x4 (ea_cons (ev_var rfl) ea_nil) (h_6 hb2 x4 hx5))⟩)) ea_nil) rc_allL)) ⟨((isB "tuple" value) && ((List.map (fun x4 : D => (F_is_room_job x4)) (dTup value)).all id)), rfl, h⟩
theorem ok_ends_in_room {f : Addr} {fd : FuncData} (F : Fun K "ends_in_room" "ends_in_room" s_ends_in_room f fd) (T : Bl mg)  : Gn P w K mg base 1 f fd ["lengths", "order", "come"] (sp_ends_in_room K) := by
  refine gn_of F sc_ends_in_room (spf_len fun _ => rfl) (fun cdv A fs s H vs Q E gd hr h => ?_)
  refine ⟨_, (pss_cons (ps_par (i := 3) (j := 4) rfl sc_ends_in_room.nd rfl rfl (by decide) rfl rfl (pa_cons pe_dnew (pa_cons pe_int pa_nil)) rfl)
    (pss_cons (ps_for PassesOwn.never rfl (pi_seqR (K := K) rfl (pv 1)) (pgv 5 sc_ends_in_room.nd) (pss_cons (ps_asg (pe_op (op_addR (K := K) rfl) (pe_callB (call_max2 rfl) (by rfl) T.b_max bo_max (pa_cons (pv 4) (pa_cons (pe_ix (ix_R (K := K) rfl hr) (pv 2) (pv 5) (fun _ _ => rfl)) pa_nil))) (pe_ix (ix_R (K := K) rfl hr) (pv 0) (pv 5) (fun _ _ => rfl))) (pgv 4 sc_ends_in_room.nd))
    (pss_one (ps_asg (pv 4) (pg_sub (pv 3) (pv 5) (set_LD hr) (fun _ => rfl))))))
    (pss_one (ps_ret (pv 3))))), ?_⟩
  refine spf_useV (enc := (dM PyData.int PyData.int)) (fun (x : (List Int) × (List Int) × (List (Int × Int))) rt => W_ends_in_room x.1 x.2.1 x.2.2 rt) h (fun x hx => V_ends_in_room x.1 x.2.1 x.2.2 hx) fun x rt h => ?_
  obtain ⟨lengths, order, come⟩ := x
  replace h : W_ends_in_room lengths order come rt := h
  unfold W_ends_in_room at h
  refine sw_seq (sw_par2Z (ez_p (fun v : (List (Int × Int)) => oK kI PyData.int v) (v := ([] : (List (Int × Int)))) (ev_dnewK kI PyData.int)) (ez_p (fun v : Int => .d (PyData.int v)) (v := (0 : Int)) ev_int) fun found hour e_1 e_2 => ?_)
  replace h := h found hour e_1 e_2
  refine sw_seq (sw_vfor (body := (fun xx ss N B => wl1_ends_in_room lengths come xx ss N)) (Kf := (fun ss => wr1_ends_in_room ss rt)) (xs := order) PyData.int (fun ss : (List (Int × Int)) × Int => [some (.d ((lM PyData.int) lengths)), none, some (.d ((dM PyData.int PyData.int) come)), some (oK kI PyData.int ss.1), some (.d (PyData.int ss.2)), none]) (found, hour) (ei_tup (ev_var rfl)) (by first | ((repeat (first | exact Le.nil | apply Le.keep | apply Le.drop)); done) | (refine Le.trans ?_ le; repeat (first | exact Le.nil | apply Le.keep | apply Le.drop))) h (fun xi si N_ h => ⟨_, _, gt_name, ?_⟩) (fun si ρ1 h le => ?_))
  · unfold wl1_ends_in_room at h
    revert h; revert xi si; intro x s h
    obtain ⟨h_3, h_4, h⟩ := h
    refine sw_seq (sw_asgV (v := ((max s.2 (dgd come x)) + (gi lengths x))) PyData.int (ev_op (ev_cb (ea_cons (ev_var rfl) (ea_cons (ev_op (ev_var rfl) (ev_var rfl) (r2_getK kok_int h_3)) ea_nil)) rc_max2) (ev_op (ev_var rfl) (ev_var rfl) (r2_ixLM h_4.1 h_4.2)) r2_addI) fun hour e_5 => ?_)
    replace h := h hour e_5
    obtain ⟨h_6, h⟩ := h
    refine sw_putK (i := 3) kok_int rfl (ev_var rfl) (ev_var rfl) h_6 fun found e_7 => ?_
    replace h := h found e_7
    exact ⟨(found, hour), h, (by first | ((repeat (first | exact Le.nil | apply Le.keep | apply Le.drop)); done) | (refine Le.trans ?_ le; repeat (first | exact Le.nil | apply Le.keep | apply Le.drop)))⟩
  · refine sw_le le ?_
    clear le
    unfold wr1_ends_in_room at h
    revert h; revert si; intro s h
    refine sw_frzK kok_int 3 rfl ?_
    exact sw_ret (ev_var rfl) ⟨s.1, rfl, h⟩
theorem ok_ends_by_rooms {f : Addr} {fd : FuncData} (F : Fun K "ends_by_rooms" "ends_by_rooms" s_ends_by_rooms f fd) (T : Bl mg) (c_ends_in_room : Ca P w K mg base 1 "ends_in_room" (sp_ends_in_room K)) : Gn P w K mg base 2 f fd ["jobs", "orders"] (sp_ends_by_rooms K) := by
  refine gn_of F sc_ends_by_rooms (spf_len fun _ => rfl) (fun cdv A fs s H vs Q E gd hr h => ?_)
  refine ⟨_, (pss_cons (ps_par (i := 2) (j := 3) rfl sc_ends_by_rooms.nd rfl rfl (by decide) rfl rfl (pa_cons (pe_lst pa_nil) (pa_cons (pe_dc (own := [("job", 4)]) (g := gName 4) (tt := tYes) rfl sc_ends_by_rooms.nd (pi_range1 rfl T.b_range (pa_cons (pe_callB (cr_lenR (K := K) rfl) (by rfl) T.b_len bo_len (pa_cons (pv 0) pa_nil)) pa_nil)) (blk_es (N := N_ends_by_rooms) (es0 (defScope s_ends_by_rooms)) (by decide +kernel)) (fun _ _ _ _ _ => (pgv 4 sc_ends_by_rooms.nd)) (fun _ _ _ _ _ => pts_nil) (fun _ _ _ _ _ => (pv 4)) (fun _ _ _ _ _ => pe_int)) pa_nil)) rfl)
    (pss_cons (ps_for PassesOwn.never rfl (pi_enumR (K := K) rfl rfl T.b_enumerate (pa_cons (pv 1) pa_nil)) (pg_tupR (K := K) (n := 2) rfl rfl (pgs_cons (pgv 5 sc_ends_by_rooms.nd) (pgs_cons (pgv 6 sc_ends_by_rooms.nd) pgs_nil))) (pss_cons (ps_asg (pe_g c_ends_in_room hr gd (by decide) (by rfl) (pa_cons (pe_lc (own := [("job", 4)]) (g := gName 4) (tt := tYes) rfl sc_ends_by_rooms.nd (pi_seqR (K := K) rfl (pv 0)) (blk_es (N := N_ends_by_rooms) (es0 (defScope s_ends_by_rooms)) (by decide +kernel)) (fun _ _ _ _ _ => (pgv 4 sc_ends_by_rooms.nd)) (fun _ _ _ _ _ => pts_nil) (fun _ _ _ _ _ => (pe_ix (ix_R (K := K) rfl hr) (pv 4) (pv 5) (fun _ _ => rfl)))) (pa_cons (pv 6) (pa_cons (pv 3) pa_nil)))) (pgv 3 sc_ends_by_rooms.nd))
    (pss_one (ps_expr (pe_bm PySem.F.plainAttrs_list PySem.F.slot_list_append PySem.F.type_list_append mt_append (pv 2) (pa_cons (pv 3) pa_nil))))))
    (pss_one (ps_ret (pv 2))))), ?_⟩
  refine spf_useV (enc := (lM (dM PyData.int PyData.int))) (fun (x : (List (Int × Int × Int)) × (List (List Int))) rt => W_ends_by_rooms x.1 x.2 rt) h (fun x hx => V_ends_by_rooms x.1 x.2 hx) fun x rt h => ?_
  obtain ⟨jobs, orders⟩ := x
  replace h : W_ends_by_rooms jobs orders rt := h
  unfold W_ends_by_rooms at h
  obtain ⟨h_1, h⟩ := h
  refine sw_seq (sw_par2Z (ez_p (fun v : (List (List (Int × Int))) => oL (dM PyData.int PyData.int) v) (v := ([] : (List (List (Int × Int))))) (ev_lst0 (dM PyData.int PyData.int))) (ez_p (fun v : (List (Int × Int)) => .d ((dM PyData.int PyData.int) v)) (v := (dcat [] (List.map (fun x2 : Nat => ((x2 : Int), (0 : Int))) (List.range jobs.length)))) (ev_frzK kok_int (ev_dcM kok_int PyData.int (List.range jobs.length) (fun i : Nat => PyData.int (i : Int)) (fun x2 : Nat => (x2 : Int)) (fun x2 : Nat => (0 : Int)) (ei_range (ea_cons (ev_cb (ea_cons (ev_var rfl) ea_nil) rc_lenM) ea_nil) (Int.ofNat_le.mpr h_1)) fun x2 hx3 => ⟨_, _, gt_name, by simp, (ev_var rfl), ev_int⟩))) fun found come e_4 e_5 => ?_)
  replace h := h found come e_4 e_5
  refine sw_seq (sw_vfor (body := (fun xx ss N B => wl1_ends_by_rooms jobs xx ss N)) (Kf := (fun ss => wr1_ends_by_rooms ss rt)) (xs := orders.zipIdx) (fun p : (List Int) × Nat => PyData.tuple [PyData.int (p.2 : Int), (tM PyData.int) p.1]) (fun ss : (List (List (Int × Int))) × (List (Int × Int)) => [some (.d ((tM (p3 PyData.int PyData.int PyData.int)) jobs)), none, some (oL (dM PyData.int PyData.int) ss.1), some (.d ((dM PyData.int PyData.int) ss.2)), none, none, none]) (found, come) (ei_enumM (k := false) (ea_cons (ev_var rfl) ea_nil)) (by first | ((repeat (first | exact Le.nil | apply Le.keep | apply Le.drop)); done) | (refine Le.trans ?_ le; repeat (first | exact Le.nil | apply Le.keep | apply Le.drop))) h (fun xi si N_ h => ⟨_, _, (gt_tup (gs_cons gt_name (gs_cons gt_name gs_nil)) rfl), ?_⟩) (fun si ρ1 h le => ?_))
  · unfold wl1_ends_by_rooms at h
    revert h; revert xi si; intro x s h
    obtain ⟨h_8, h_9, h⟩ := h
    refine sw_seq (sw_asgV (v := (F_ends_in_room (List.map (fun x6 : (Int × Int × Int) => (pix3 x6 (x.2 : Int))) jobs) x.1 s.2)) (dM PyData.int PyData.int) (ev_call ((List.map (fun x6 : (Int × Int × Int) => (pix3 x6 (x.2 : Int))) jobs), x.1, s.2) (ea_cons (ev_frzM (ev_lcM PyData.int jobs (p3 PyData.int PyData.int PyData.int) (fun x6 : (Int × Int × Int) => (pix3 x6 (x.2 : Int))) (ei_tup (ev_var rfl)) fun x6 hx7 => ⟨_, _, gt_name, by simp, (ev_op (ev_var rfl) (ev_var rfl) (r2_ixP3 (h_8 x6 hx7).1 (h_8 x6 hx7).2))⟩)) (ea_cons (ev_var rfl) (ea_cons (ev_var rfl) ea_nil))) h_9) fun come e_10 => ?_)
    replace h := h come e_10
    obtain ⟨h_11, h⟩ := h
    refine sw_appV (i := 2) (x := come) (dM PyData.int PyData.int) rfl (ev_var rfl) h_11 fun found e_12 => ?_
    replace h := h found e_12
    exact ⟨(found, come), h, (by first | ((repeat (first | exact Le.nil | apply Le.keep | apply Le.drop)); done) | (refine Le.trans ?_ le; repeat (first | exact Le.nil | apply Le.keep | apply Le.drop)))⟩
  · refine sw_le le ?_
    clear le
    unfold wr1_ends_by_rooms at h
    revert h; revert si; intro s h
    refine sw_frzM 2 rfl ?_
    exact sw_ret (ev_var rfl) ⟨s.1, rfl, h⟩
theorem ok_room_ends {f : Addr} {fd : FuncData} (F : Fun K "room_ends" "room_ends" s_room_ends f fd) (T : Bl mg) (c_ends_by_rooms : Ca P w K mg base 2 "ends_by_rooms" (sp_ends_by_rooms K)) : Gn P w K mg base 3 f fd ["jobs", "order"] (sp_room_ends K) := by
  refine gn_of F sc_room_ends (spf_len fun _ => rfl) (fun cdv A fs s H vs Q E gd hr h => ?_)
  refine ⟨_, (pss_cons (ps_asg (pe_g c_ends_by_rooms hr gd (by decide) (by rfl) (pa_cons (pv 0) (pa_cons (pe_tup (pa_cons (pv 1) (pa_cons (pv 1) (pa_cons (pv 1) pa_nil)))) pa_nil))) (pgv 2 sc_room_ends.nd))
    (pss_one (ps_ret (pe_callTy (cr_tupleR (K := K) rfl) (by rfl) T.b_tuple bo_tuple (pa_cons (pe_lc (own := [("job", 4)]) (g := gName 4) (tt := tYes) rfl sc_room_ends.nd (pi_range1 rfl T.b_range (pa_cons (pe_callB (cr_lenR (K := K) rfl) (by rfl) T.b_len bo_len (pa_cons (pv 0) pa_nil)) pa_nil)) (blk_es (N := N_room_ends) (es0 (defScope s_room_ends)) (by decide +kernel)) (fun _ _ _ _ _ => (pgv 4 sc_room_ends.nd)) (fun _ _ _ _ _ => pts_nil) (fun _ _ _ _ _ => (pe_callTy (cr_tupleR (K := K) rfl) (by rfl) T.b_tuple bo_tuple (pa_cons (pe_lc (own := [("room", 3)]) (g := gName 3) (tt := tYes) rfl sc_room_ends.nd (pi_seqR (K := K) rfl (pv 2)) (blk_es (N := N_room_ends) (es1 (es0 (defScope s_room_ends))) (by decide +kernel)) (fun _ _ _ _ _ => (pgv 3 sc_room_ends.nd)) (fun _ _ _ _ _ => pts_nil) (fun _ _ _ _ _ => (pe_ix (ix_R (K := K) rfl hr) (pv 3) (pv 4) (fun _ _ => rfl)))) pa_nil)))) pa_nil))))), ?_⟩
  refine spf_useV (enc := (tM (tM PyData.int))) (fun (x : (List (Int × Int × Int)) × (List Int)) rt => W_room_ends x.1 x.2 rt) h (fun x hx => V_room_ends x.1 x.2 hx) fun x rt h => ?_
  obtain ⟨jobs, order⟩ := x
  replace h : W_room_ends jobs order rt := h
  unfold W_room_ends at h
  obtain ⟨h_1, h⟩ := h
  refine sw_seq (sw_asgV (v := (F_ends_by_rooms jobs [order, order, order])) (lM (dM PyData.int PyData.int)) (ev_call (jobs, [order, order, order]) (ea_cons (ev_var rfl) (ea_cons (ev_tupM (tM PyData.int) [order, order, order] (ea_cons (ev_var rfl) (ea_cons (ev_var rfl) (ea_cons (ev_var rfl) ea_nil))) rfl) ea_nil)) h_1) fun ends e_2 => ?_)
  replace h := h ends e_2
  obtain ⟨h_3, h_8, h⟩ := h
  exact sw_ret (ev_cb (ea_cons (ev_frzM (ev_lcM (tM PyData.int) (List.range jobs.length) (fun i : Nat => PyData.int (i : Int)) (fun x4 : Nat => (List.map (fun x6 : (List (Int × Int)) => (dgd x6 (x4 : Int))) ends)) (ei_range (ea_cons (ev_cb (ea_cons (ev_var rfl) ea_nil) rc_lenM) ea_nil) (Int.ofNat_le.mpr h_3)) fun x4 hx5 => ⟨_, _, gt_name, by simp, (ev_cb (ea_cons (ev_frzM (ev_lcM PyData.int ends (dM PyData.int PyData.int) (fun x6 : (List (Int × Int)) => (dgd x6 (x4 : Int))) (ei_list (ev_var rfl)) fun x6 hx7 => ⟨_, _, gt_name, by simp, (ev_op (ev_var rfl) (ev_var rfl) (r2_getK kok_int (h_8 x4 hx5 x6 hx7)))⟩)) ea_nil) rc_tupleLM)⟩)) ea_nil) rc_tupleLM) ⟨(List.map (fun x4 : Nat => (List.map (fun x6 : (List (Int × Int)) => (dgd x6 (x4 : Int))) ends)) (List.range jobs.length)), rfl, h⟩
theorem ok_rooms_span {f : Addr} {fd : FuncData} (F : Fun K "rooms_span" "rooms_span" s_rooms_span f fd) (T : Bl mg) (c_ends_by_rooms : Ca P w K mg base 2 "ends_by_rooms" (sp_ends_by_rooms K)) : Gn P w K mg base 3 f fd ["jobs", "orders"] (sp_rooms_span K) := by
  refine gn_of F sc_rooms_span (spf_len fun _ => rfl) (fun cdv A fs s H vs Q E gd hr h => ?_)
  refine ⟨_, (pss_one (ps_ret (pe_callB (cr_maxR (K := K) rfl rfl hr) (by rfl) T.b_max bo_max (pa_cons (pe_op (op_addR (K := K) rfl) (pe_lst (pa_cons pe_int pa_nil)) (pe_callTy (cr_listR (K := K) rfl rfl) (by rfl) T.b_list bo_list (pa_cons (pe_dval (pe_ix (ix_R (K := K) rfl hr) (pe_g c_ends_by_rooms hr gd (by decide) (by rfl) (pa_cons (pv 0) (pa_cons (pv 1) pa_nil))) pe_int (fun _ _ => rfl))) pa_nil))) pa_nil)))), ?_⟩
  refine spf_useV (enc := PyData.int) (fun (x : (List (Int × Int × Int)) × (List (List Int))) rt => W_rooms_span x.1 x.2 rt) h (fun x hx => V_rooms_span x.1 x.2 hx) fun x rt h => ?_
  obtain ⟨jobs, orders⟩ := x
  replace h : W_rooms_span jobs orders rt := h
  unfold W_rooms_span at h
  obtain ⟨h_1, h_2, h_3, h_4, h⟩ := h
  exact sw_ret (ev_cb (ea_cons (ev_frzM (ev_op (ev_frzM (ev_lstM PyData.int [(0 : Int)] (ea_cons ev_int ea_nil) rfl)) (ev_frzM (ev_listV kok_int (ev_op (ev_call (jobs, orders) (ea_cons (ev_var rfl) (ea_cons (ev_var rfl) ea_nil)) h_1) ev_int (r2_ixLM (by decide) (Int.ofNat_lt.mpr h_2))))) (r2_addLM (le_sz h_3)))) ea_nil) (rc_maxL h_4)) ⟨(mxI ([(0 : Int)] ++ ((gi (F_ends_by_rooms jobs orders) (2 : Int)).map (·.2)))), rfl, h⟩
theorem ok_room_span {f : Addr} {fd : FuncData} (F : Fun K "room_span" "room_span" s_room_span f fd) (T : Bl mg) (c_rooms_span : Ca P w K mg base 3 "rooms_span" (sp_rooms_span K)) : Gn P w K mg base 4 f fd ["jobs", "order"] (sp_room_span K) := by
  refine gn_of F sc_room_span (spf_len fun _ => rfl) (fun cdv A fs s H vs Q E gd hr h => ?_)
  refine ⟨_, (pss_one (ps_ret (pe_g c_rooms_span hr gd (by decide) (by rfl) (pa_cons (pv 0) (pa_cons (pe_tup (pa_cons (pv 1) (pa_cons (pv 1) (pa_cons (pv 1) pa_nil)))) pa_nil))))), ?_⟩
  refine spf_useV (enc := PyData.int) (fun (x : (List (Int × Int × Int)) × (List Int)) rt => W_room_span x.1 x.2 rt) h (fun x hx => V_room_span x.1 x.2 hx) fun x rt h => ?_
  obtain ⟨jobs, order⟩ := x
  replace h : W_room_span jobs order rt := h
  unfold W_room_span at h
  obtain ⟨h_1, h⟩ := h
  exact sw_ret (ev_call (jobs, [order, order, order]) (ea_cons (ev_var rfl) (ea_cons (ev_tupM (tM PyData.int) [order, order, order] (ea_cons (ev_var rfl) (ea_cons (ev_var rfl) (ea_cons (ev_var rfl) ea_nil))) rfl) ea_nil)) h_1) ⟨(F_rooms_span jobs [order, order, order]), rfl, h⟩
theorem ok_way_length {f : Addr} {fd : FuncData} (F : Fun K "way_length" "way_length" s_way_length f fd) (T : Bl mg)  : Gn P w K mg base 1 f fd ["jobs", "order", "u", "v"] (sp_way_length K) := by
  refine gn_of F sc_way_length (spf_len fun _ => rfl) (fun cdv A fs s H vs Q E gd hr h => ?_)
  refine ⟨_, (pss_cons (ps_asg (pe_callB (cr_sumR (K := K) rfl rfl) (by rfl) T.b_sum bo_sum (pa_cons (pe_lc (own := [("job", 5)]) (g := gName 5) (tt := tYes) rfl sc_way_length.nd (pi_seqR (K := K) rfl (pe_slice (sl_R (K := K) rfl) (pv 1) po_none (po_some (pe_op (op_addR (K := K) rfl) (pv 2) pe_int)))) (blk_es (N := N_way_length) (es0 (defScope s_way_length)) (by decide +kernel)) (fun _ _ _ _ _ => (pgv 5 sc_way_length.nd)) (fun _ _ _ _ _ => pts_nil) (fun _ _ _ _ _ => (pe_ix (ix_R (K := K) rfl hr) (pe_ix (ix_R (K := K) rfl hr) (pv 0) (pv 5) (fun _ _ => rfl)) pe_int (fun _ _ => rfl)))) pa_nil)) (pgv 4 sc_way_length.nd))
    (pss_cons (ps_asg (pe_callB (cr_sumR (K := K) rfl rfl) (by rfl) T.b_sum bo_sum (pa_cons (pe_lc (own := [("job", 5)]) (g := gName 5) (tt := tYes) rfl sc_way_length.nd (pi_seqR (K := K) rfl (pe_slice (sl_R (K := K) rfl) (pv 1) (po_some (pv 2)) (po_some (pe_op (op_addR (K := K) rfl) (pv 3) pe_int)))) (blk_es (N := N_way_length) (es0 (defScope s_way_length)) (by decide +kernel)) (fun _ _ _ _ _ => (pgv 5 sc_way_length.nd)) (fun _ _ _ _ _ => pts_nil) (fun _ _ _ _ _ => (pe_ix (ix_R (K := K) rfl hr) (pe_ix (ix_R (K := K) rfl hr) (pv 0) (pv 5) (fun _ _ => rfl)) pe_int (fun _ _ => rfl)))) pa_nil)) (pgv 6 sc_way_length.nd))
    (pss_one (ps_ret (pe_op (op_addR (K := K) rfl) (pe_op (op_addR (K := K) rfl) (pv 4) (pv 6)) (pe_callB (cr_sumR (K := K) rfl rfl) (by rfl) T.b_sum bo_sum (pa_cons (pe_lc (own := [("job", 5)]) (g := gName 5) (tt := tYes) rfl sc_way_length.nd (pi_seqR (K := K) rfl (pe_slice (sl_R (K := K) rfl) (pv 1) (po_some (pv 3)) po_none)) (blk_es (N := N_way_length) (es0 (defScope s_way_length)) (by decide +kernel)) (fun _ _ _ _ _ => (pgv 5 sc_way_length.nd)) (fun _ _ _ _ _ => pts_nil) (fun _ _ _ _ _ => (pe_ix (ix_R (K := K) rfl hr) (pe_ix (ix_R (K := K) rfl hr) (pv 0) (pv 5) (fun _ _ => rfl)) pe_int (fun _ _ => rfl)))) pa_nil))))))), ?_⟩
  refine spf_useV (enc := PyData.int) (fun (x : (List (Int × Int × Int)) × (List Int) × Int × Int) rt => W_way_length x.1 x.2.1 x.2.2.1 x.2.2.2 rt) h (fun x hx => V_way_length x.1 x.2.1 x.2.2.1 x.2.2.2 hx) fun x rt h => ?_
  obtain ⟨jobs, order, u, v⟩ := x
  replace h : W_way_length jobs order u v rt := h
  unfold W_way_length at h
  obtain ⟨h_3, h⟩ := h
  refine sw_seq (sw_asgV (v := (List.map (fun x1 : Int => ((gi jobs x1)).1) (cutD order none (some (u + (1 : Int))))).sum) PyData.int (ev_cb (ea_cons (ev_frzM (ev_lcM PyData.int (cutD order none (some (u + (1 : Int)))) PyData.int (fun x1 : Int => ((gi jobs x1)).1) (ei_tup (ev_slT (ev_var rfl) es_none (es_some (ev_op (ev_var rfl) ev_int r2_addI)))) fun x1 hx2 => ⟨_, _, gt_name, by simp, (ev_op (ev_op (ev_var rfl) (ev_var rfl) (r2_ixM (h_3 x1 hx2).1 (h_3 x1 hx2).2)) ev_int (r2_ixT rfl))⟩)) ea_nil) rc_sumL) fun first e_4 => ?_)
  replace h := h first e_4
  obtain ⟨h_7, h⟩ := h
  refine sw_seq (sw_asgV (v := (List.map (fun x5 : Int => ((gi jobs x5)).2.1) (cutD order (some u) (some (v + (1 : Int))))).sum) PyData.int (ev_cb (ea_cons (ev_frzM (ev_lcM PyData.int (cutD order (some u) (some (v + (1 : Int)))) PyData.int (fun x5 : Int => ((gi jobs x5)).2.1) (ei_tup (ev_slT (ev_var rfl) (es_some (ev_var rfl)) (es_some (ev_op (ev_var rfl) ev_int r2_addI)))) fun x5 hx6 => ⟨_, _, gt_name, by simp, (ev_op (ev_op (ev_var rfl) (ev_var rfl) (r2_ixM (h_7 x5 hx6).1 (h_7 x5 hx6).2)) ev_int (r2_ixT rfl))⟩)) ea_nil) rc_sumL) fun middle e_8 => ?_)
  replace h := h middle e_8
  obtain ⟨h_11, h⟩ := h
  exact sw_ret (ev_op (ev_op (ev_var rfl) (ev_var rfl) r2_addI) (ev_cb (ea_cons (ev_frzM (ev_lcM PyData.int (cutD order (some v) none) PyData.int (fun x9 : Int => ((gi jobs x9)).2.2) (ei_tup (ev_slT (ev_var rfl) (es_some (ev_var rfl)) es_none)) fun x9 hx10 => ⟨_, _, gt_name, by simp, (ev_op (ev_op (ev_var rfl) (ev_var rfl) (r2_ixM (h_11 x9 hx10).1 (h_11 x9 hx10).2)) ev_int (r2_ixT rfl))⟩)) ea_nil) rc_sumL) r2_addI) ⟨((first + middle) + (List.map (fun x9 : Int => ((gi jobs x9)).2.2) (cutD order (some v) none)).sum), rfl, h⟩
theorem ok_greatest_way {f : Addr} {fd : FuncData} (F : Fun K "greatest_way" "greatest_way" s_greatest_way f fd) (T : Bl mg) (c_way_length : Ca P w K mg base 1 "way_length" (sp_way_length K)) : Gn P w K mg base 2 f fd ["jobs", "order"] (sp_greatest_way K) := by
  refine gn_of F sc_greatest_way (spf_len fun _ => rfl) (fun cdv A fs s H vs Q E gd hr h => ?_)
  refine ⟨_, (pss_cons (ps_par (i := 2) (j := 3) rfl sc_greatest_way.nd rfl rfl (by decide) rfl rfl (pa_cons (pe_callB (cr_lenR (K := K) rfl) (by rfl) T.b_len bo_len (pa_cons (pv 1) pa_nil)) (pa_cons (pe_lst pa_nil) pa_nil)) rfl)
    (pss_cons (ps_for PassesOwn.never rfl (pi_range1 rfl T.b_range (pa_cons (pv 2) pa_nil)) (pgv 4 sc_greatest_way.nd) (pss_one (ps_expr (pe_bm PySem.F.plainAttrs_list PySem.F.slot_list_extend PySem.F.type_list_extend mt_extend (pv 3) (pa_cons (pe_lc (own := [("v", 5)]) (g := gName 5) (tt := tYes) rfl sc_greatest_way.nd (pi_range2 rfl T.b_range (pa_cons (pv 4) (pa_cons (pv 2) pa_nil))) (blk_es (N := N_greatest_way) (es0 (defScope s_greatest_way)) (by decide +kernel)) (fun _ _ _ _ _ => (pgv 5 sc_greatest_way.nd)) (fun _ _ _ _ _ => pts_nil) (fun _ _ _ _ _ => (pe_tup (pa_cons (pe_un un_neg (pe_g c_way_length hr gd (by decide) (by rfl) (pa_cons (pv 0) (pa_cons (pv 1) (pa_cons (pv 4) (pa_cons (pv 5) pa_nil)))))) (pa_cons (pv 4) (pa_cons (pv 5) pa_nil)))))) pa_nil)))))
    (pss_cons (ps_asg (pe_callB (cr_minR (K := K) rfl rfl hr) (by rfl) T.b_min bo_min (pa_cons (pv 3) pa_nil)) (pg_tupR (K := K) (n := 3) rfl rfl (pgs_cons (pgv 6 sc_greatest_way.nd) (pgs_cons (pgv 4 sc_greatest_way.nd) (pgs_cons (pgv 5 sc_greatest_way.nd) pgs_nil)))))
    (pss_one (ps_ret (pe_tup (pa_cons (pv 4) (pa_cons (pv 5) (pa_cons (pe_un un_neg (pv 6)) pa_nil))))))))), ?_⟩
  refine spf_useV (enc := (p3 PyData.int PyData.int PyData.int)) (fun (x : (List (Int × Int × Int)) × (List Int)) rt => W_greatest_way x.1 x.2 rt) h (fun x hx => V_greatest_way x.1 x.2 hx) fun x rt h => ?_
  obtain ⟨jobs, order⟩ := x
  replace h : W_greatest_way jobs order rt := h
  unfold W_greatest_way at h
  refine sw_seq (sw_par2Z (ez_p (fun v : Int => .d (PyData.int v)) (v := (order.length : Int)) (ev_cb (ea_cons (ev_var rfl) ea_nil) rc_lenM)) (ez_p (fun v : (List (Int × Int × Int)) => oL (p3 PyData.int PyData.int PyData.int) v) (v := ([] : (List (Int × Int × Int)))) (ev_lst0 (p3 PyData.int PyData.int PyData.int))) fun n found e_1 e_2 => ?_)
  replace h := h n found e_1 e_2
  obtain ⟨h_3, h⟩ := h
  refine sw_seq (sw_vfor (body := (fun xx ss N B => wl1_greatest_way jobs order n xx ss N)) (Kf := (fun ss => wr1_greatest_way ss rt)) (xs := (List.range n.toNat)) (fun i : Nat => PyData.int (i : Int)) (fun ss : (List (Int × Int × Int)) => [some (.d ((tM (p3 PyData.int PyData.int PyData.int)) jobs)), some (.d ((tM PyData.int) order)), some (.d (PyData.int n)), some (oL (p3 PyData.int PyData.int PyData.int) ss), none, none, none]) found (ei_rngV (ea_cons (ev_var rfl) ea_nil) h_3.1 h_3.2) (by first | ((repeat (first | exact Le.nil | apply Le.keep | apply Le.drop)); done) | (refine Le.trans ?_ le; repeat (first | exact Le.nil | apply Le.keep | apply Le.drop))) h (fun xi si N_ h => ⟨_, _, gt_name, ?_⟩) (fun si ρ1 h le => ?_))
  · unfold wl1_greatest_way at h
    revert h; revert xi si; intro x s h
    obtain ⟨h_6, h_9, h_10, h⟩ := h
    refine sw_extV (i := 3) (ys := (List.map (fun x7 : Nat => ((-(F_way_length jobs order (x : Int) ((x : Int) + (x7 : Int)))), (x : Int), ((x : Int) + (x7 : Int)))) (List.range (n - (x : Int)).toNat))) (p3 PyData.int PyData.int PyData.int) rfl (ev_frzM (ev_lcM (p3 PyData.int PyData.int PyData.int) (List.range (n - (x : Int)).toNat) (fun i : Nat => PyData.int ((x : Int) + (i : Int))) (fun x7 : Nat => ((-(F_way_length jobs order (x : Int) ((x : Int) + (x7 : Int)))), (x : Int), ((x : Int) + (x7 : Int)))) (ei_rng2V (ea_cons (ev_var rfl) (ea_cons (ev_var rfl) ea_nil)) h_6) fun x7 hx8 => ⟨_, _, gt_name, by simp, (ev_tup (ea_cons (ev_un (ev_call (jobs, order, (x : Int), ((x : Int) + (x7 : Int))) (ea_cons (ev_var rfl) (ea_cons (ev_var rfl) (ea_cons (ev_var rfl) (ea_cons (ev_var rfl) ea_nil)))) (h_9 x7 hx8)) r1_neg) (ea_cons (ev_var rfl) (ea_cons (ev_var rfl) ea_nil))))⟩)) h_10 fun found e_11 => ?_
    replace h := h found e_11
    exact ⟨found, h, (by first | ((repeat (first | exact Le.nil | apply Le.keep | apply Le.drop)); done) | (refine Le.trans ?_ le; repeat (first | exact Le.nil | apply Le.keep | apply Le.drop)))⟩
  · refine sw_le le ?_
    clear le
    unfold wr1_greatest_way at h
    revert h; revert si; intro s h
    obtain ⟨h_4, h⟩ := h
    refine sw_seq (sw_tgtV (v := (mnO (lt2 ltI (lt2 ltI ltI)) s)) (p3 PyData.int PyData.int PyData.int) (ev_borM 3 rfl (bor_d (imd_p3 imd_int imd_int imd_int)) (ev_cb (ea_cons (ev_var rfl) ea_nil) (rc_minO true (ord_p3 eqd_int eqd_int eqd_int ord_int ord_int ord_int) (shd_p3 (shd_int (n := 0)) (shd_int (n := 0)) (shd_int (n := 0))) h_4))) fun v e_5 => ⟨_, _, (gt_tup (gs_cons gt_name (gs_cons gt_name (gs_cons gt_name gs_nil))) rfl), ?_⟩)
    replace h := h v e_5
    exact sw_ret (ev_tup (ea_cons (ev_var rfl) (ea_cons (ev_var rfl) (ea_cons (ev_un (ev_var rfl) r1_neg) ea_nil)))) ⟨(v.2.1, v.2.2, (-v.1)), rfl, h⟩
theorem ok_wide_span {f : Addr} {fd : FuncData} (F : Fun K "wide_span" "wide_span" s_wide_span f fd) (T : Bl mg) (c_way_length : Ca P w K mg base 1 "way_length" (sp_way_length K)) : Gn P w K mg base 2 f fd ["jobs", "order"] (sp_wide_span K) := by
  refine gn_of F sc_wide_span (spf_len fun _ => rfl) (fun cdv A fs s H vs Q E gd hr h => ?_)
  refine ⟨_, (pss_one (ps_ret (pe_callB (cr_maxR (K := K) rfl rfl hr) (by rfl) T.b_max bo_max (pa_cons (pe_lst (pa_cons pe_int (pa_starR (K := K) rfl (pe_lc (own := [("u", 2)]) (g := gName 2) (tt := tYes) rfl sc_wide_span.nd (pi_range1 rfl T.b_range (pa_cons (pe_callB (cr_lenR (K := K) rfl) (by rfl) T.b_len bo_len (pa_cons (pv 1) pa_nil)) pa_nil)) (blk_es (N := N_wide_span) (es0 (defScope s_wide_span)) (by decide +kernel)) (fun _ _ _ _ _ => (pgv 2 sc_wide_span.nd)) (fun _ _ _ _ _ => pts_nil) (fun _ _ _ _ _ => (pe_g c_way_length hr gd (by decide) (by rfl) (pa_cons (pv 0) (pa_cons (pv 1) (pa_cons (pv 2) (pa_cons (pv 2) pa_nil))))))) pa_nil))) pa_nil)))), ?_⟩
  refine spf_useV (enc := PyData.int) (fun (x : (List (Int × Int × Int)) × (List Int)) rt => W_wide_span x.1 x.2 rt) h (fun x hx => V_wide_span x.1 x.2 hx) fun x rt h => ?_
  obtain ⟨jobs, order⟩ := x
  replace h : W_wide_span jobs order rt := h
  unfold W_wide_span at h
  obtain ⟨h_1, h_4, h_5, h_6, h⟩ := h
  exact sw_ret (ev_cb (ea_cons (ev_frzM (ev_lstS PyData.int ((0 : Int) :: ((List.map (fun x2 : Nat => (F_way_length jobs order (x2 : Int) (x2 : Int))) (List.range order.length)) ++ [])) (ea_consM ev_int (ea_starL (ev_frzM (ev_lcM PyData.int (List.range order.length) (fun i : Nat => PyData.int (i : Int)) (fun x2 : Nat => (F_way_length jobs order (x2 : Int) (x2 : Int))) (ei_range (ea_cons (ev_cb (ea_cons (ev_var rfl) ea_nil) rc_lenM) ea_nil) (Int.ofNat_le.mpr h_1)) fun x2 hx3 => ⟨_, _, gt_name, by simp, (ev_call (jobs, order, (x2 : Int), (x2 : Int)) (ea_cons (ev_var rfl) (ea_cons (ev_var rfl) (ea_cons (ev_var rfl) (ea_cons (ev_var rfl) ea_nil)))) (h_4 x2 hx3))⟩)) ea_nilM)) h_5)) ea_nil) (rc_maxL h_6)) ⟨(mxI (((0 : Int) :: ((List.map (fun x2 : Nat => (F_way_length jobs order (x2 : Int) (x2 : Int))) (List.range order.length)) ++ [])) : (List Int))), rfl, h⟩
theorem ok_turned_rooms {f : Addr} {fd : FuncData} (F : Fun K "turned_rooms" "turned_rooms" s_turned_rooms f fd) (T : Bl mg)  : Gn P w K mg base 1 f fd ["jobs"] (sp_turned_rooms K) := by
  refine gn_of F sc_turned_rooms (spf_len fun _ => rfl) (fun cdv A fs s H vs Q E gd hr h => ?_)
  refine ⟨_, (pss_one (ps_ret (pe_callTy (cr_tupleR (K := K) rfl) (by rfl) T.b_tuple bo_tuple (pa_cons (pe_lc (own := [("a", 1), ("b", 2), ("c", 3)]) (g := gTup K 3 (gCons (gName 1) ((gCons (gName 2) ((gCons (gName 3) (gNil))))))) (tt := tYes) rfl sc_turned_rooms.nd (pi_seqR (K := K) rfl (pv 0)) (blk_es (N := N_turned_rooms) (es0 (defScope s_turned_rooms)) (by decide +kernel)) (fun _ _ _ _ _ => (pg_tupR (K := K) (n := 3) rfl rfl (pgs_cons (pgv 1 sc_turned_rooms.nd) (pgs_cons (pgv 2 sc_turned_rooms.nd) (pgs_cons (pgv 3 sc_turned_rooms.nd) pgs_nil))))) (fun _ _ _ _ _ => pts_nil) (fun _ _ _ _ _ => (pe_tup (pa_cons (pv 3) (pa_cons (pv 2) (pa_cons (pv 1) pa_nil)))))) pa_nil)))), ?_⟩
  refine spf_useV (enc := (tM (p3 PyData.int PyData.int PyData.int))) (fun (x : (List (Int × Int × Int))) rt => W_turned_rooms x rt) h (fun x hx => V_turned_rooms x hx) fun x rt h => ?_
  revert h; revert x; intro jobs h
  replace h : W_turned_rooms jobs rt := h
  unfold W_turned_rooms at h
  exact sw_ret (ev_cb (ea_cons (ev_frzM (ev_lcM (p3 PyData.int PyData.int PyData.int) jobs (p3 PyData.int PyData.int PyData.int) (fun x1 : (Int × Int × Int) => (x1.2.2, x1.2.1, x1.1)) (ei_tup (ev_var rfl)) fun x1 hx2 => ⟨_, _, (gt_tup (gs_cons gt_name (gs_cons gt_name (gs_cons gt_name gs_nil))) rfl), by simp, (ev_tup (ea_cons (ev_var rfl) (ea_cons (ev_var rfl) (ea_cons (ev_var rfl) ea_nil))))⟩)) ea_nil) rc_tupleLM) ⟨(List.map (fun x1 : (Int × Int × Int) => (x1.2.2, x1.2.1, x1.1)) jobs), rfl, h⟩
theorem ok_with_middle {f : Addr} {fd : FuncData} (F : Fun K "with_middle" "with_middle" s_with_middle f fd) (T : Bl mg)  : Gn P w K mg base 1 f fd ["jobs", "more"] (sp_with_middle K) := by
  refine gn_of F sc_with_middle (spf_len fun _ => rfl) (fun cdv A fs s H vs Q E gd hr h => ?_)
  refine ⟨_, (pss_one (ps_ret (pe_callTy (cr_tupleR (K := K) rfl) (by rfl) T.b_tuple bo_tuple (pa_cons (pe_lc (own := [("a", 2), ("b", 3), ("c", 4)]) (g := gTup K 3 (gCons (gName 2) ((gCons (gName 3) ((gCons (gName 4) (gNil))))))) (tt := tYes) rfl sc_with_middle.nd (pi_seqR (K := K) rfl (pv 0)) (blk_es (N := N_with_middle) (es0 (defScope s_with_middle)) (by decide +kernel)) (fun _ _ _ _ _ => (pg_tupR (K := K) (n := 3) rfl rfl (pgs_cons (pgv 2 sc_with_middle.nd) (pgs_cons (pgv 3 sc_with_middle.nd) (pgs_cons (pgv 4 sc_with_middle.nd) pgs_nil))))) (fun _ _ _ _ _ => pts_nil) (fun _ _ _ _ _ => (pe_tup (pa_cons (pv 2) (pa_cons (pe_op (op_addR (K := K) rfl) (pv 3) (pv 1)) (pa_cons (pv 4) pa_nil)))))) pa_nil)))), ?_⟩
  refine spf_useV (enc := (tM (p3 PyData.int PyData.int PyData.int))) (fun (x : (List (Int × Int × Int)) × Int) rt => W_with_middle x.1 x.2 rt) h (fun x hx => V_with_middle x.1 x.2 hx) fun x rt h => ?_
  obtain ⟨jobs, more⟩ := x
  replace h : W_with_middle jobs more rt := h
  unfold W_with_middle at h
  exact sw_ret (ev_cb (ea_cons (ev_frzM (ev_lcM (p3 PyData.int PyData.int PyData.int) jobs (p3 PyData.int PyData.int PyData.int) (fun x1 : (Int × Int × Int) => (x1.1, (x1.2.1 + more), x1.2.2)) (ei_tup (ev_var rfl)) fun x1 hx2 => ⟨_, _, (gt_tup (gs_cons gt_name (gs_cons gt_name (gs_cons gt_name gs_nil))) rfl), by simp, (ev_tup (ea_cons (ev_var rfl) (ea_cons (ev_op (ev_var rfl) (ev_var rfl) r2_addI) (ea_cons (ev_var rfl) ea_nil))))⟩)) ea_nil) rc_tupleLM) ⟨(List.map (fun x1 : (Int × Int × Int) => (x1.1, (x1.2.1 + more), x1.2.2)) jobs), rfl, h⟩
theorem ok__law_source {f : Addr} {fd : FuncData} (F : Fun K "_law_source" "_law_source" s__law_source f fd) (T : Bl mg)  : Gn P w K mg base 1 f fd ["script"] (sp__law_source K) :=
  gn_of F sc__law_source (fun _ _ _ _ ⟨_, _, _, _, e, _⟩ => by rw [e]; rfl) (fun cdv A fs s H vs Q E gd hr h => ⟨_, (pss_cons (ps_asg pe_int (pgv 1 sc__law_source.nd))
    (pss_cons (ps_for PassesOwn.never rfl (pi_seqR (K := K) rfl (pv 0)) (pgv 2 sc__law_source.nd) (pss_one (ps_asg (pe_op op_mod (pe_callTy call_int1 (by rfl) T.b_int bo_int (pa_cons (pe_op (op_addR (K := K) rfl) (pe_op (op_addR (K := K) rfl) (pe_op (op_mulR (K := K) rfl) (pv 1) pe_int) (pe_op (op_mulR (K := K) rfl) (pv 2) pe_int)) pe_int) pa_nil)) pe_int) (pgv 1 sc__law_source.nd))))
    (pss_one (ps_ret (pe_disp (pps_cons pe_str (pe_revLR (K := K) rfl (pe_lc (own := [("cell", 2)]) (g := gName 2) (tt := tYes) rfl sc__law_source.nd (pi_seqR (K := K) rfl (pv 0)) (blk_es (N := N__law_source) (es0 (defScope s__law_source)) (by decide +kernel)) (fun _ _ _ _ _ => pgv 2 sc__law_source.nd) (fun _ _ _ _ _ => pts_nil) (fun _ _ _ _ _ => pe_callB call_abs (by rfl) T.b_abs bo_abs (pa_cons (pv 2) pa_nil)))) (pps_cons pe_str pe_int (pps_cons pe_str (pv 1) (pps_cons pe_str pe_int pps_nil)))) rfl rfl (by simp) (by decide)))))), openB_read (K := K) rfl h⟩)
theorem ok__law_pick {f : Addr} {fd : FuncData} (F : Fun K "_law_pick" "_law_pick" s__law_pick f fd) (T : Bl mg)  : Gn P w K mg base 1 f fd ["source", "many"] (sp__law_pick K) :=
  gn_of F sc__law_pick (spn_len fun _ => rfl) (fun cdv A fs s H vs Q E gd hr h => ⟨_, (pss_cons (ps_while PassesOwn.never (PW.pt (pw_and (pt_cmpR op_gt (pv 1) pe_int (nomark _)) (pw_and (pt_cmpR op_lt (pe_dget (hu1 hr) (pv 0) pe_str (fun _ _ => rfl)) pe_int (nomark _)) (pw_and1 (pt_cmpR op_gt (pe_callB (cr_lenC (K := K) rfl) (by rfl) T.b_len bo_len (pa_cons (pe_dget (hu1 hr) (pv 0) pe_str (fun _ _ => rfl)) pa_nil)) pe_int (nomark _)))))) (pss_one (ps_asg (pe_bm0 PySem.F.plainAttrs_list PySem.F.slot_list_pop PySem.F.type_list_pop mt_pop (pe_dget (hu1 hr) (pv 0) pe_str (fun _ _ => rfl))) (pg_sub (pv 0) pe_str (set_dict (hu1 hr)) (fun _ => rfl)))))
    (pss_cons (ps_asg (pe_dget (hu1 hr) (pv 0) pe_str (fun _ _ => rfl)) (pgv 2 sc__law_pick.nd))
    (pss_cons (ps_if (PW.pt (pw_or (pt_cmpR op_lt (pv 1) pe_int (nomark _)) (pw_or1 (pt_cmpR op_gt (pv 2) pe_int (nomark _))))) (pss_cons (ps_asg (pe_op op_fdivW (pv 2) (pe_callB (call_max2 rfl) (by rfl) T.b_max bo_max (pa_cons pe_int (pa_cons (pv 1) pa_nil)))) (pg_sub (pv 0) pe_str (set_dict (hu1 hr)) (fun _ => rfl))) (pss_one (ps_ret (pe_op op_mod (pe_callTy call_int1 (by rfl) T.b_int bo_int (pa_cons (pv 2) pa_nil)) (pe_callB (call_max2 rfl) (by rfl) T.b_max bo_max (pa_cons pe_int (pa_cons (pv 1) pa_nil))))))) pss_nil)
    (pss_cons (ps_asg (pe_op op_add (pe_dget (hu1 hr) (pv 0) pe_str (fun _ _ => rfl)) pe_int) (pg_sub (pv 0) pe_str (set_dict (hu1 hr)) (fun _ => rfl)))
    (pss_cons (ps_asg (pe_op op_mod (pe_callTy call_int1 (by rfl) T.b_int bo_int (pa_cons (pe_op op_add (pe_dget (hu1 hr) (pv 0) pe_str (fun _ _ => rfl)) (pe_op op_mul (pe_dget (hu1 hr) (pv 0) pe_str (fun _ _ => rfl)) pe_int)) pa_nil)) pe_int) (pgv 3 sc__law_pick.nd))
    (pss_cons (ps_asg (pe_op op_mod (pe_callTy call_int1 (by rfl) T.b_int bo_int (pa_cons (pe_op op_add (pe_op op_mul (pv 3) (pv 3)) (pe_op op_mul (pe_dget (hu1 hr) (pv 0) pe_str (fun _ _ => rfl)) pe_int)) pa_nil)) pe_int) (pgv 3 sc__law_pick.nd))
    (pss_cons (ps_asg (pv 3) (pg_sub (pv 0) pe_str (set_dict (hu1 hr)) (fun _ => rfl)))
    (pss_one (ps_ret (pe_op op_mod (pe_callTy call_int1 (by rfl) T.b_int bo_int (pa_cons (pe_op op_fdivW (pv 3) pe_int) pa_nil)) (pv 1))))))))))), pickB_read (K := K) rfl h⟩)
theorem ok__law_of {f : Addr} {fd : FuncData} (F : Fun K "_law_of" "_law_of" s__law_of f fd) (T : Bl mg) (c__law_pick : Ca P w K mg base 1 "_law_pick" (sp__law_pick K)) : Gn P w K mg base 2 f fd ["source", "some"] (sp__law_of K) :=
  gn_of F sc__law_of (spn_len fun _ => rfl) (fun cdv A fs s H vs Q E gd hr h => ⟨_, (pss_one (ps_ret (pe_ix (ix_R (K := K) rfl hr) (pv 1) (pe_g c__law_pick hr gd (by decide) (by rfl) (pa_cons (pv 0) (pa_cons (pe_callB (cr_lenR (K := K) rfl) (by rfl) T.b_len bo_len (pa_cons (pv 1) pa_nil)) pa_nil))) (fun _ _ => rfl)))), of_read (K := K) rfl h⟩)
theorem ok__law_mixed {f : Addr} {fd : FuncData} (F : Fun K "_law_mixed" "_law_mixed" s__law_mixed f fd) (T : Bl mg) (c__law_pick : Ca P w K mg base 1 "_law_pick" (sp__law_pick K)) : Gn P w K mg base 2 f fd ["source", "things"] (sp__law_mixed K) :=
  gn_of F sc__law_mixed (spn_len fun _ => rfl) (fun cdv A fs s H vs Q E gd hr h => ⟨_, (pss_cons (ps_asg (pe_callTy (cr_listR (K := K) rfl rfl) (by rfl) T.b_list bo_list (pa_cons (pv 1) pa_nil)) (pgv 2 sc__law_mixed.nd))
    (pss_one (ps_ret (pe_lc (own := [("lap", 3)]) (g := gName 3) (tt := tYes) rfl sc__law_mixed.nd (pi_range1 rfl T.b_range (pa_cons (pe_callB (cr_lenR (K := K) rfl) (by rfl) T.b_len bo_len (pa_cons (pv 2) pa_nil)) pa_nil)) (blk_es (N := N__law_mixed) (es0 (defScope s__law_mixed)) (by decide +kernel)) (fun _ _ _ _ _ => (pgv 3 sc__law_mixed.nd)) (fun _ _ _ _ _ => pts_nil) (fun _ _ _ _ _ => (pe_bm PySem.F.plainAttrs_list PySem.F.slot_list_pop PySem.F.type_list_pop mt_popAt (pv 2) (pa_cons (pe_g c__law_pick hr gd (by decide) (by rfl) (pa_cons (pv 0) (pa_cons (pe_callB (cr_lenR (K := K) rfl) (by rfl) T.b_len bo_len (pa_cons (pv 2) pa_nil)) pa_nil))) pa_nil))))))), mix_read (K := K) rfl h⟩)
theorem ok__law_jobs {f : Addr} {fd : FuncData} (F : Fun K "_law_jobs" "_law_jobs" s__law_jobs f fd) (T : Bl mg) (c__law_pick : Ca P w K mg base 1 "_law_pick" (sp__law_pick K)) : Gn P w K mg base 2 f fd ["source", "n"] (sp__law_jobs K) := by
  refine gn_of F sc__law_jobs (spn_len fun _ => rfl) (fun cdv A fs s H vs Q E gd hr h => ?_)
  refine ⟨_, (pss_cons (ps_par (i := 2) (j := 3) rfl sc__law_jobs.nd rfl rfl (by decide) rfl rfl (pa_cons (pe_g c__law_pick hr gd (by decide) (by rfl) (pa_cons (pv 0) (pa_cons pe_int pa_nil))) (pa_cons (pe_op (op_addR (K := K) rfl) pe_int (pe_g c__law_pick hr gd (by decide) (by rfl) (pa_cons (pv 0) (pa_cons pe_int pa_nil)))) pa_nil)) rfl)
    (pss_cons (ps_asg (pe_lst pa_nil) (pgv 4 sc__law_jobs.nd))
    (pss_cons (ps_for PassesOwn.never rfl (pi_range1 rfl T.b_range (pa_cons (pv 1) pa_nil)) (pgv 5 sc__law_jobs.nd) (pss_cons (ps_par3 (i := 6) (j := 7) (l := 8) rfl sc__law_jobs.nd rfl rfl rfl (by decide) (by decide) (by decide) rfl rfl rfl (pa_cons (pe_op (op_addR (K := K) rfl) pe_int (pe_g c__law_pick hr gd (by decide) (by rfl) (pa_cons (pv 0) (pa_cons (pv 3) pa_nil)))) (pa_cons (pe_op (op_addR (K := K) rfl) pe_int (pe_g c__law_pick hr gd (by decide) (by rfl) (pa_cons (pv 0) (pa_cons (pv 3) pa_nil)))) (pa_cons (pe_op (op_addR (K := K) rfl) pe_int (pe_g c__law_pick hr gd (by decide) (by rfl) (pa_cons (pv 0) (pa_cons (pv 3) pa_nil)))) pa_nil))) rfl)
    (pss_cons (ps_asg (pe_ifExp (pt_cmpR (op_eqR (K := K) rfl hr) (pv 2) pe_int (nomark _)) (pe_op (op_addR (K := K) rfl) (pv 6) (pv 3)) (pv 6)) (pgv 6 sc__law_jobs.nd))
    (pss_cons (ps_asg (pe_ifExp (pt_cmpR (op_eqR (K := K) rfl hr) (pv 2) pe_int (nomark _)) (pe_op (op_addR (K := K) rfl) (pv 8) (pv 3)) (pv 8)) (pgv 8 sc__law_jobs.nd))
    (pss_one (ps_expr (pe_bm PySem.F.plainAttrs_list PySem.F.slot_list_append PySem.F.type_list_append mt_append (pv 4) (pa_cons (pe_tup (pa_cons (pv 6) (pa_cons (pv 7) (pa_cons (pv 8) pa_nil)))) pa_nil))))))))
    (pss_one (ps_ret (pe_callTy (cr_tupleR (K := K) rfl) (by rfl) T.b_tuple bo_tuple (pa_cons (pv 4) pa_nil))))))), ?_⟩
  refine spn_useV (enc := (tM (p3 PyData.int PyData.int PyData.int))) (fun (x : Int) rt => W__law_jobs x rt) h (fun x hx => V__law_jobs x hx) fun x p q rt h => ?_
  revert h; revert x; intro n h
  replace h : W__law_jobs n rt := h
  unfold W__law_jobs at h
  obtain ⟨h_1, h_2, h⟩ := h
  refine sw_seq (sw_par2Z (ez_n (f := PyData.int) (en_pick (j := 0) rfl ev_int h_1)) (ez_n (f := PyData.int) (en_op2P (h := PyData.int) (R := fun y => ∃ b3, ((0 ≤ b3 ∧ (b3 < (12 : Int) ∨ b3 = 0))) ∧ y = ((1 : Int) + b3)) ev_int (en_pick (j := 0) rfl ev_int h_2) fun b3 hb4 => ⟨_, r2_addI, b3, hb4, rfl⟩)) fun way far e_5 e_6 => ?_)
  replace h := h way far e_5 e_6
  refine sw_seq (sw_asgL (v := ([] : (List (Int × Int × Int)))) (p3 PyData.int PyData.int PyData.int) (ev_lst0 (p3 PyData.int PyData.int PyData.int)) fun found e_7 => ?_)
  replace h := h found e_7
  obtain ⟨h_8, h⟩ := h
  refine sw_seq (sw_vfor (body := (fun xx ss N B => wl1__law_jobs way far xx ss N)) (Kf := (fun ss => wr1__law_jobs ss rt)) (xs := (List.range n.toNat)) (fun i : Nat => PyData.int (i : Int)) (fun ss : (List (Int × Int × Int)) => [some .src, none, some (.d (PyData.int way)), some (.d (PyData.int far)), some (oL (p3 PyData.int PyData.int PyData.int) ss), none, none, none, none]) found (ei_rngV (ea_cons (ev_var rfl) ea_nil) h_8.1 h_8.2) (by first | ((repeat (first | exact Le.nil | apply Le.keep | apply Le.drop)); done) | (refine Le.trans ?_ le; repeat (first | exact Le.nil | apply Le.keep | apply Le.drop))) h (fun xi si N_ h => ⟨_, _, gt_name, ?_⟩) (fun si ρ1 h le => ?_))
  · unfold wl1__law_jobs at h
    revert h; revert xi si; intro x s h
    obtain ⟨h_9, h⟩ := h
    refine sw_seq (sw_par3Z (ez_n (f := PyData.int) (en_op2P (h := PyData.int) (R := fun y => ∃ b10, ((0 ≤ b10 ∧ (b10 < far ∨ b10 = 0))) ∧ y = ((1 : Int) + b10)) ev_int (en_pick (j := 0) rfl (ev_var rfl) h_9) fun b10 hb11 => ⟨_, r2_addI, b10, hb11, rfl⟩)) (ez_n (f := PyData.int) (en_op2P (h := PyData.int) (R := fun y => ∃ b12, ((0 ≤ b12 ∧ (b12 < far ∨ b12 = 0))) ∧ y = ((1 : Int) + b12)) ev_int (en_pick (j := 0) rfl (ev_var rfl) h_9) fun b12 hb13 => ⟨_, r2_addI, b12, hb13, rfl⟩)) (ez_n (f := PyData.int) (en_op2P (h := PyData.int) (R := fun y => ∃ b14, ((0 ≤ b14 ∧ (b14 < far ∨ b14 = 0))) ∧ y = ((1 : Int) + b14)) ev_int (en_pick (j := 0) rfl (ev_var rfl) h_9) fun b14 hb15 => ⟨_, r2_addI, b14, hb15, rfl⟩)) fun a b c e_16 e_17 e_18 => ?_)
    replace h := h a b c e_16 e_17 e_18
    refine sw_seq (sw_asgV (v := (if (decide (way = (1 : Int))) = true then (a + far) else a)) PyData.int (ev_ifM PyData.int (et_test (ev_op (ev_var rfl) ev_int r2_eqI)) (fun hb19 => (ev_op (ev_var rfl) (ev_var rfl) r2_addI)) (fun hb19 => (ev_var rfl))) fun a2 e_20 => ?_)
    replace h := h a2 e_20
    refine sw_seq (sw_asgV (v := (if (decide (way = (2 : Int))) = true then (c + far) else c)) PyData.int (ev_ifM PyData.int (et_test (ev_op (ev_var rfl) ev_int r2_eqI)) (fun hb21 => (ev_op (ev_var rfl) (ev_var rfl) r2_addI)) (fun hb21 => (ev_var rfl))) fun c2 e_22 => ?_)
    replace h := h c2 e_22
    obtain ⟨h_23, h⟩ := h
    refine sw_appV (i := 4) (x := (a2, b, c2)) (p3 PyData.int PyData.int PyData.int) rfl (ev_tup (ea_cons (ev_var rfl) (ea_cons (ev_var rfl) (ea_cons (ev_var rfl) ea_nil)))) h_23 fun found e_24 => ?_
    replace h := h found e_24
    exact ⟨found, h, (by first | ((repeat (first | exact Le.nil | apply Le.keep | apply Le.drop)); done) | (refine Le.trans ?_ le; repeat (first | exact Le.nil | apply Le.keep | apply Le.drop)))⟩
  · refine sw_le le ?_
    clear le
    unfold wr1__law_jobs at h
    revert h; revert si; intro s h
    exact sw_ret (ev_borM 4 rfl (bor_d (imd_tM (imd_p3 imd_int imd_int imd_int))) (ev_cb (ea_cons (ev_var rfl) ea_nil) rc_tupleLM)) ⟨s, rfl, h⟩
theorem ok__law_ends {f : Addr} {fd : FuncData} (F : Fun K "_law_ends" "_law_ends" s__law_ends f fd) (T : Bl mg)  : Gn P w K mg base 1 f fd ["jobs", "orders"] (sp__law_ends K) := by
  refine gn_of F sc__law_ends (spf_len fun _ => rfl) (fun cdv A fs s H vs Q E gd hr h => ?_)
  refine ⟨_, (pss_cons (ps_par (i := 2) (j := 3) rfl sc__law_ends.nd rfl rfl (by decide) rfl rfl (pa_cons (pe_op (op_mulR (K := K) rfl) (pe_lst (pa_cons pe_int pa_nil)) (pe_callB (cr_lenR (K := K) rfl) (by rfl) T.b_len bo_len (pa_cons (pv 0) pa_nil))) (pa_cons (pe_lst pa_nil) pa_nil)) rfl)
    (pss_cons (ps_for PassesOwn.never rfl (pi_enumR (K := K) rfl rfl T.b_enumerate (pa_cons (pv 1) pa_nil)) (pg_tupR (K := K) (n := 2) rfl rfl (pgs_cons (pgv 4 sc__law_ends.nd) (pgs_cons (pgv 5 sc__law_ends.nd) pgs_nil))) (pss_cons (ps_par (i := 6) (j := 7) rfl sc__law_ends.nd rfl rfl (by decide) rfl rfl (pa_cons pe_int (pa_cons (pe_op (op_mulR (K := K) rfl) (pe_lst (pa_cons pe_int pa_nil)) (pe_callB (cr_lenR (K := K) rfl) (by rfl) T.b_len bo_len (pa_cons (pv 0) pa_nil))) pa_nil)) rfl)
    (pss_cons (ps_for PassesOwn.never rfl (pi_seqR (K := K) rfl (pv 5)) (pgv 8 sc__law_ends.nd) (pss_cons (ps_asg (pe_op (op_addR (K := K) rfl) (pe_callB (call_max2 rfl) (by rfl) T.b_max bo_max (pa_cons (pv 6) (pa_cons (pe_ix (ix_R (K := K) rfl hr) (pv 2) (pv 8) (fun _ _ => rfl)) pa_nil))) (pe_ix (ix_R (K := K) rfl hr) (pe_ix (ix_R (K := K) rfl hr) (pv 0) (pv 8) (fun _ _ => rfl)) (pv 4) (fun _ _ => rfl))) (pgv 6 sc__law_ends.nd))
    (pss_one (ps_asg (pv 6) (pg_sub (pv 7) (pv 8) (set_LD hr) (fun _ => rfl))))))
    (pss_cons (ps_expr (pe_bm PySem.F.plainAttrs_list PySem.F.slot_list_append PySem.F.type_list_append mt_append (pv 3) (pa_cons (pv 7) pa_nil)))
    (pss_one (ps_asg (pv 7) (pgv 2 sc__law_ends.nd)))))))
    (pss_one (ps_ret (pv 3))))), ?_⟩
  refine spf_useV (enc := (lM (lM PyData.int))) (fun (x : (List (Int × Int × Int)) × (List (List Int))) rt => W__law_ends x.1 x.2 rt) h (fun x hx => V__law_ends x.1 x.2 hx) fun x rt h => ?_
  obtain ⟨jobs, orders⟩ := x
  replace h : W__law_ends jobs orders rt := h
  unfold W__law_ends at h
  obtain ⟨h_1, h⟩ := h
  refine sw_seq (sw_par2Z (ez_p (fun v : (List Int) => .d ((lM PyData.int) v)) (v := (List.replicate (jobs.length : Int).toNat (0 : Int))) (ev_frzM (ev_is (ev_op (ev_frzM (ev_lstM PyData.int [(0 : Int)] (ea_cons ev_int ea_nil) rfl)) (ev_cb (ea_cons (ev_var rfl) ea_nil) rc_lenM) (r2_mulLM h_1.1 h_1.2.1 (le_sz h_1.2.2))) (by rw [rep_one])))) (ez_p (fun v : (List (List Int)) => oL (lM PyData.int) v) (v := ([] : (List (List Int)))) (ev_lst0 (lM PyData.int))) fun come found e_2 e_3 => ?_)
  replace h := h come found e_2 e_3
  refine sw_seq (sw_vfor (body := (fun xx ss N B => wl1__law_ends jobs xx ss N)) (Kf := (fun ss => wr1__law_ends ss rt)) (xs := orders.zipIdx) (fun p : (List Int) × Nat => PyData.tuple [PyData.int (p.2 : Int), (tM PyData.int) p.1]) (fun ss : (List Int) × (List (List Int)) => [some (.d ((tM (p3 PyData.int PyData.int PyData.int)) jobs)), none, some (.d ((lM PyData.int) ss.1)), some (oL (lM PyData.int) ss.2), none, none, none, none, none]) (come, found) (ei_enumM (k := false) (ea_cons (ev_var rfl) ea_nil)) (by first | ((repeat (first | exact Le.nil | apply Le.keep | apply Le.drop)); done) | (refine Le.trans ?_ le; repeat (first | exact Le.nil | apply Le.keep | apply Le.drop))) h (fun xi si N_ h => ⟨_, _, (gt_tup (gs_cons gt_name (gs_cons gt_name gs_nil)) rfl), ?_⟩) (fun si ρ1 h le => ?_))
  · unfold wl1__law_ends at h
    revert h; revert xi si; intro x s h
    obtain ⟨h_4, h⟩ := h
    refine sw_seq (sw_par2Z (ez_p (fun v : Int => .d (PyData.int v)) (v := (0 : Int)) ev_int) (ez_p (fun v : (List Int) => oL PyData.int v) (v := (List.replicate (jobs.length : Int).toNat (0 : Int))) (ev_is (ev_op (ev_frzM (ev_lstM PyData.int [(0 : Int)] (ea_cons ev_int ea_nil) rfl)) (ev_cb (ea_cons (ev_var rfl) ea_nil) rc_lenM) (r2_mulLM h_4.1 h_4.2.1 (le_sz h_4.2.2))) (by rw [rep_one]))) fun hour ends e_5 e_6 => ?_)
    replace h := h hour ends e_5 e_6
    refine sw_seq (sw_vfor (body := (fun xx ss N B => wl2__law_ends jobs s.1 s.2 (x.2 : Int) xx ss N)) (Kf := (fun ss => wr2__law_ends jobs s.2 ss N_)) (xs := x.1) PyData.int (fun ss : Int × (List Int) => [some (.d ((tM (p3 PyData.int PyData.int PyData.int)) jobs)), none, some (.d ((lM PyData.int) s.1)), some (oL (lM PyData.int) s.2), some (.d (PyData.int (x.2 : Int))), none, some (.d (PyData.int ss.1)), some (oL PyData.int ss.2), none]) (hour, ends) (ei_tup (ev_var rfl)) (by first | ((repeat (first | exact Le.nil | apply Le.keep | apply Le.drop)); done) | (refine Le.trans ?_ le; repeat (first | exact Le.nil | apply Le.keep | apply Le.drop))) h (fun xi si N_2 h => ⟨_, _, gt_name, ?_⟩) (fun si ρ1 h le => ?_))
    · unfold wl2__law_ends at h
      generalize s.1 = come at h ⊢
      generalize s.2 = found at h ⊢
      generalize (x.2 : Int) = room at h ⊢
      revert h; revert xi si; intro x s h
      obtain ⟨h_10, h_11, h_12, h⟩ := h
      refine sw_seq (sw_asgV (v := ((max s.1 (gi come x)) + (pix3 (gi jobs x) room))) PyData.int (ev_op (ev_cb (ea_cons (ev_var rfl) (ea_cons (ev_op (ev_var rfl) (ev_var rfl) (r2_ixLM h_10.1 h_10.2)) ea_nil)) rc_max2) (ev_op (ev_op (ev_var rfl) (ev_var rfl) (r2_ixM h_11.1 h_11.2)) (ev_var rfl) (r2_ixP3 h_12.1 h_12.2)) r2_addI) fun hour e_13 => ?_)
      replace h := h hour e_13
      obtain ⟨h_14, h⟩ := h
      refine sw_setV (i := 7) (v := s.2.set x.toNat hour) PyData.int rfl (ev_var rfl) (ev_var rfl) h_14.1 h_14.2 rfl fun ends e_15 => ?_
      replace h := h ends e_15
      exact ⟨(hour, ends), h, (by first | ((repeat (first | exact Le.nil | apply Le.keep | apply Le.drop)); done) | (refine Le.trans ?_ le; repeat (first | exact Le.nil | apply Le.keep | apply Le.drop)))⟩
    · refine sw_le le ?_
      clear le
      unfold wr2__law_ends at h
      generalize s.2 = found at h ⊢
      revert h; revert si; intro s h
      obtain ⟨h_7, h⟩ := h
      refine sw_frzM 7 rfl ?_
      refine sw_seq (sw_appV (i := 3) (x := s.2) (lM PyData.int) rfl (ev_var rfl) h_7 fun found2 e_8 => ?_)
      replace h := h found2 e_8
      refine sw_asgV (v := s.2) (lM PyData.int) (ev_var rfl) fun come e_9 => ?_
      replace h := h come e_9
      exact ⟨(come, found2), h, (by first | ((repeat (first | exact Le.nil | apply Le.keep | apply Le.drop)); done) | (refine Le.trans ?_ le; repeat (first | exact Le.nil | apply Le.keep | apply Le.drop)))⟩
  · refine sw_le le ?_
    clear le
    unfold wr1__law_ends at h
    revert h; revert si; intro s h
    refine sw_frzM 3 rfl ?_
    exact sw_ret (ev_var rfl) ⟨s.2, rfl, h⟩
theorem ok__law_span {f : Addr} {fd : FuncData} (F : Fun K "_law_span" "_law_span" s__law_span f fd) (T : Bl mg) (c__law_ends : Ca P w K mg base 1 "_law_ends" (sp__law_ends K)) : Gn P w K mg base 2 f fd ["jobs", "order"] (sp__law_span K) := by
  refine gn_of F sc__law_span (spf_len fun _ => rfl) (fun cdv A fs s H vs Q E gd hr h => ?_)
  refine ⟨_, (pss_one (ps_ret (pe_callB (cr_maxR (K := K) rfl rfl hr) (by rfl) T.b_max bo_max (pa_cons (pe_op (op_addR (K := K) rfl) (pe_ix (ix_R (K := K) rfl hr) (pe_g c__law_ends hr gd (by decide) (by rfl) (pa_cons (pv 0) (pa_cons (pe_tup (pa_cons (pv 1) (pa_cons (pv 1) (pa_cons (pv 1) pa_nil)))) pa_nil))) pe_int (fun _ _ => rfl)) (pe_lst (pa_cons pe_int pa_nil))) pa_nil)))), ?_⟩
  refine spf_useV (enc := PyData.int) (fun (x : (List (Int × Int × Int)) × (List Int)) rt => W__law_span x.1 x.2 rt) h (fun x hx => V__law_span x.1 x.2 hx) fun x rt h => ?_
  obtain ⟨jobs, order⟩ := x
  replace h : W__law_span jobs order rt := h
  unfold W__law_span at h
  obtain ⟨h_1, h_2, h_3, h_4, h⟩ := h
  exact sw_ret (ev_cb (ea_cons (ev_frzM (ev_op (ev_op (ev_call (jobs, [order, order, order]) (ea_cons (ev_var rfl) (ea_cons (ev_tupM (tM PyData.int) [order, order, order] (ea_cons (ev_var rfl) (ea_cons (ev_var rfl) (ea_cons (ev_var rfl) ea_nil))) rfl) ea_nil)) h_1) ev_int (r2_ixLM (by decide) (Int.ofNat_lt.mpr h_2))) (ev_frzM (ev_lstM PyData.int [(0 : Int)] (ea_cons ev_int ea_nil) rfl)) (r2_addLM (le_sz h_3)))) ea_nil) (rc_maxL h_4)) ⟨(mxI ((gi (F__law_ends jobs [order, order, order]) (2 : Int)) ++ [(0 : Int)])), rfl, h⟩
theorem ok__law_wide {f : Addr} {fd : FuncData} (F : Fun K "_law_wide" "_law_wide" s__law_wide f fd) (T : Bl mg)  : Gn P w K mg base 1 f fd ["jobs", "order"] (sp__law_wide K) := by
  refine gn_of F sc__law_wide (spf_len fun _ => rfl) (fun cdv A fs s H vs Q E gd hr h => ?_)
  refine ⟨_, (pss_cons (ps_asg (pe_tup (pa_cons pe_int (pa_cons pe_int pa_nil))) (pg_tupR (K := K) (n := 2) rfl rfl (pgs_cons (pgv 2 sc__law_wide.nd) (pgs_cons (pgv 3 sc__law_wide.nd) pgs_nil))))
    (pss_cons (ps_for PassesOwn.never rfl (pi_seqR (K := K) rfl (pv 1)) (pgv 4 sc__law_wide.nd) (pss_cons (ps_asg (pe_op (op_addR (K := K) rfl) (pv 2) (pe_ix (ix_R (K := K) rfl hr) (pe_ix (ix_R (K := K) rfl hr) (pv 0) (pv 4) (fun _ _ => rfl)) pe_int (fun _ _ => rfl))) (pgv 2 sc__law_wide.nd))
    (pss_one (ps_asg (pe_op (op_addR (K := K) rfl) (pe_callB (call_max2 rfl) (by rfl) T.b_max bo_max (pa_cons (pv 3) (pa_cons (pe_op (op_addR (K := K) rfl) (pv 2) (pe_ix (ix_R (K := K) rfl hr) (pe_ix (ix_R (K := K) rfl hr) (pv 0) (pv 4) (fun _ _ => rfl)) pe_int (fun _ _ => rfl))) pa_nil))) (pe_ix (ix_R (K := K) rfl hr) (pe_ix (ix_R (K := K) rfl hr) (pv 0) (pv 4) (fun _ _ => rfl)) pe_int (fun _ _ => rfl))) (pgv 3 sc__law_wide.nd)))))
    (pss_one (ps_ret (pv 3))))), ?_⟩
  refine spf_useV (enc := PyData.int) (fun (x : (List (Int × Int × Int)) × (List Int)) rt => W__law_wide x.1 x.2 rt) h (fun x hx => V__law_wide x.1 x.2 hx) fun x rt h => ?_
  obtain ⟨jobs, order⟩ := x
  replace h : W__law_wide jobs order rt := h
  unfold W__law_wide at h
  refine sw_seq (sw_tup2Z (ez_p (fun v : Int => .d (PyData.int v)) (v := (0 : Int)) ev_int) (ez_p (fun v : Int => .d (PyData.int v)) (v := (0 : Int)) ev_int) fun first last e_1 e_2 => ?_)
  replace h := h first last e_1 e_2
  refine sw_seq (sw_vfor (body := (fun xx ss N B => wl1__law_wide jobs xx ss N)) (Kf := (fun ss => wr1__law_wide ss rt)) (xs := order) PyData.int (fun ss : Int × Int => [some (.d ((tM (p3 PyData.int PyData.int PyData.int)) jobs)), none, some (.d (PyData.int ss.1)), some (.d (PyData.int ss.2)), none]) (first, last) (ei_tup (ev_var rfl)) (by first | ((repeat (first | exact Le.nil | apply Le.keep | apply Le.drop)); done) | (refine Le.trans ?_ le; repeat (first | exact Le.nil | apply Le.keep | apply Le.drop))) h (fun xi si N_ h => ⟨_, _, gt_name, ?_⟩) (fun si ρ1 h le => ?_))
  · unfold wl1__law_wide at h
    revert h; revert xi si; intro x s h
    obtain ⟨h_3, h⟩ := h
    refine sw_seq (sw_asgV (v := (s.1 + ((gi jobs x)).1)) PyData.int (ev_op (ev_var rfl) (ev_op (ev_op (ev_var rfl) (ev_var rfl) (r2_ixM h_3.1 h_3.2)) ev_int (r2_ixT rfl)) r2_addI) fun first e_4 => ?_)
    replace h := h first e_4
    obtain ⟨h_5, h⟩ := h
    refine sw_asgV (v := ((max s.2 (first + ((gi jobs x)).2.1)) + ((gi jobs x)).2.2)) PyData.int (ev_op (ev_cb (ea_cons (ev_var rfl) (ea_cons (ev_op (ev_var rfl) (ev_op (ev_op (ev_var rfl) (ev_var rfl) (r2_ixM h_5.1 h_5.2)) ev_int (r2_ixT rfl)) r2_addI) ea_nil)) rc_max2) (ev_op (ev_op (ev_var rfl) (ev_var rfl) (r2_ixM h_5.1 h_5.2)) ev_int (r2_ixT rfl)) r2_addI) fun last e_6 => ?_
    replace h := h last e_6
    exact ⟨(first, last), h, (by first | ((repeat (first | exact Le.nil | apply Le.keep | apply Le.drop)); done) | (refine Le.trans ?_ le; repeat (first | exact Le.nil | apply Le.keep | apply Le.drop)))⟩
  · refine sw_le le ?_
    clear le
    unfold wr1__law_wide at h
    revert h; revert si; intro s h
    exact sw_ret (ev_var rfl) ⟨s.2, rfl, h⟩
abbrev spn__law_near (n : Nat) (K : PySem.W.Frag) : Sp := SpN K (α := D × (List D)) (fun x => Ok__law_near x.1 x.2 ∧ rk__law_near x.1 x.2 < n) (fun x => [DL.encD x.1, (lM DL.encD) x.2]) (fun x d => ∃ r, d = DL.encD r ∧ Po__law_near x.1 x.2 r)
theorem okn__law_near {f : Addr} {fd : FuncData} (F : Fun K "_law_near" "_law_near" s__law_near f fd) (T : Bl mg) (c__law_of : Ca P w K mg base 2 "_law_of" (sp__law_of K)) (c__law_pick : Ca P w K mg base 1 "_law_pick" (sp__law_pick K)) (hm : mg "_law_near" = some (.ref f)) (hk : PySem.W.keepIn K (.ref f) = true) (hb : Binds K fd ["source", "value", "odd"] []) : ∀ n_ : Nat, Gn P w K mg base (3 + n_) f fd ["source", "value", "odd"] (spn__law_near n_ K)
  | 0 => ⟨(spn_len fun _ => rfl), fun _ _ _ _ _ _ _ _ _ _ _ _ _ _ ⟨_, _, _, _, _, _, hx, _⟩ => absurd hx.2 (Nat.not_lt_zero _)⟩
  | n_ + 1 => by
    have c__law_near : Ca P w K mg base (3 + n_) "_law_near" (spn__law_near n_ K) := ⟨_, _, _, okn__law_near F T c__law_of c__law_pick hm hk hb n_, hm, hk, hb⟩
    refine gn_of F sc__law_near (spn_len fun _ => rfl) (fun cdv A fs s H vs Q E gd hr h => ?_)
    refine ⟨_, (pss_cons (ps_if (PW.pt (pw_and (pt_val (pe_callB (cr_isR (K := K) rfl) (by rfl) T.b_isinstance bo_isinstance (pa_cons (pv 1) (pa_cons (pe_bltn (v := .ty "int") (by rfl) T.b_int bo_int (by rfl)) pa_nil)))) (pw_and (pt_not (pt_val (pe_callB (cr_isR (K := K) rfl) (by rfl) T.b_isinstance bo_isinstance (pa_cons (pv 1) (pa_cons (pe_bltn (v := .ty "bool") (by rfl) T.b_bool bo_bool (by rfl)) pa_nil))))) (pw_and1 (pt_cmpR (op_gtR (K := K) rfl hr) (pe_g c__law_pick hr gd (by show 1 ≤ 3 + n_; omega) (by rfl) (pa_cons (pv 0) (pa_cons pe_int pa_nil))) pe_int (nomark _)))))) (pss_one (ps_ret (pe_op (op_addR (K := K) rfl) (pv 1) (pe_g c__law_of hr gd (by show 2 ≤ 3 + n_; omega) (by rfl) (pa_cons (pv 0) (pa_cons (pe_lst (pa_cons pe_int (pa_cons (pe_un un_neg pe_int) (pa_cons pe_int pa_nil)))) pa_nil)))))) pss_nil)
    (pss_cons (ps_if (PW.pt (pw_or (pt_not (pt_val (pe_callB (cr_isR (K := K) rfl) (by rfl) T.b_isinstance bo_isinstance (pa_cons (pv 1) (pa_cons (pe_bltn (v := .ty "tuple") (by rfl) T.b_tuple bo_tuple (by rfl)) pa_nil))))) (pw_or (pt_cmpR (op_eqR (K := K) rfl hr) (pv 1) (pe_tup pa_nil) (nomark _)) (pw_or1 (pt_cmpR (op_eqR (K := K) rfl hr) (pe_g c__law_pick hr gd (by show 1 ≤ 3 + n_; omega) (by rfl) (pa_cons (pv 0) (pa_cons pe_int pa_nil))) pe_int (nomark _)))))) (pss_one (ps_ret (pe_g c__law_of hr gd (by show 2 ≤ 3 + n_; omega) (by rfl) (pa_cons (pv 0) (pa_cons (pv 2) pa_nil))))) pss_nil)
    (pss_cons (ps_par (i := 3) (j := 4) rfl sc__law_near.nd rfl rfl (by decide) rfl rfl (pa_cons (pe_g c__law_pick hr gd (by show 1 ≤ 3 + n_; omega) (by rfl) (pa_cons (pv 0) (pa_cons (pe_callB (cr_lenR (K := K) rfl) (by rfl) T.b_len bo_len (pa_cons (pv 1) pa_nil)) pa_nil))) (pa_cons (pe_g c__law_pick hr gd (by show 1 ≤ 3 + n_; omega) (by rfl) (pa_cons (pv 0) (pa_cons pe_int pa_nil))) pa_nil)) rfl)
    (pss_cons (ps_if (pt_cmpR (op_ltR (K := K) rfl hr) (pv 4) pe_int (nomark _)) (pss_one (ps_ret (pe_op (op_addR (K := K) rfl) (pe_op (op_addR (K := K) rfl) (pe_slice (sl_R (K := K) rfl) (pv 1) po_none (po_some (pv 3))) (pe_tup (pa_cons (pe_g c__law_near hr gd (by show 3 + n_ ≤ 3 + n_; omega) (by rfl) (pa_cons (pv 0) (pa_cons (pe_ix (ix_R (K := K) rfl hr) (pv 1) (pv 3) (fun _ _ => rfl)) (pa_cons (pv 2) pa_nil)))) pa_nil))) (pe_slice (sl_R (K := K) rfl) (pv 1) (po_some (pe_op (op_addR (K := K) rfl) (pv 3) pe_int)) po_none)))) pss_nil)
    (pss_one (ps_ret (pe_g c__law_of hr gd (by show 2 ≤ 3 + n_; omega) (by rfl) (pa_cons (pv 0) (pa_cons (pe_lst (pa_cons (pe_op (op_addR (K := K) rfl) (pe_slice (sl_R (K := K) rfl) (pv 1) po_none (po_some (pv 3))) (pe_slice (sl_R (K := K) rfl) (pv 1) (po_some (pe_op (op_addR (K := K) rfl) (pv 3) pe_int)) po_none)) (pa_cons (pe_op (op_addR (K := K) rfl) (pe_slice (sl_R (K := K) rfl) (pv 1) po_none (po_some (pe_op (op_addR (K := K) rfl) (pv 3) pe_int))) (pe_slice (sl_R (K := K) rfl) (pv 1) (po_some (pv 3)) po_none)) (pa_cons (pe_revR (K := K) rfl (pv 1)) (pa_cons (pe_callTy (cr_listR (K := K) rfl rfl) (by rfl) T.b_list bo_list (pa_cons (pv 1) pa_nil)) pa_nil))))) pa_nil))))))))), ?_⟩
    refine spn_useV (enc := DL.encD) (fun (x : D × (List D)) rt => rk__law_near x.1 x.2 < n_ + 1 ∧ W__law_near x.1 x.2 rt) h (fun x hx => ⟨hx.2, V__law_near x.1 x.2 hx.1⟩) fun x p q rt h => ?_
    obtain ⟨value, odd⟩ := x
    obtain ⟨hrk, h⟩ := h
    replace hrk : rk__law_near value odd < n_ + 1 := hrk
    replace h : W__law_near value odd rt := h
    unfold W__law_near at h
    obtain ⟨h_1, h_3, h_5, ht7, hf8⟩ := h
    refine sw_seq (sw_ifNA (etn_andK (et_tB (ev_isi (ev_var rfl) h_1)) fun hb2 => (etn_andK (et_not (et_tB (ev_isi (ev_var rfl) (h_3 hb2)))) fun hb4 => (etn_yes true (etn_any (etn_gtI (en_pick (j := 0) rfl ev_int (h_5 hb2 hb4)) (EvN.of (f := PyData.int) ev_int)))))) (fun hb6 => ?_) (fun hb6 => sw_next ?_))
    · have h := ht7 hb6
      obtain ⟨h_9, h_10, h⟩ := h
      refine sw_retNd (en_toD (f := PyData.int) (en_op2P (h := PyData.int) (R := fun y => ∃ b11, (b11 ∈ [(1 : Int), (-1 : Int), (2 : Int)]) ∧ y = ((dInt value) + b11)) (ev_as (d2 := PyData.int (dInt value)) h_10 (ev_var rfl)) (en_ofV true (j := 0) rfl (ev_frzM (ev_lstM PyData.int [(1 : Int), (-1 : Int), (2 : Int)] (ea_cons ev_int (ea_cons (ev_un ev_int r1_neg) (ea_cons ev_int ea_nil))) rfl)) h_9.1 h_9.2) fun b11 hb12 => ⟨_, r2_addI, b11, hb12, rfl⟩)) fun d hd => ?_
      obtain ⟨y, hdy, hy⟩ := hd
      exact ⟨y, by rw [hdy], h y hy⟩
    · have h := hf8 trivial
      obtain ⟨h_14, h_16, h_18, ht20, hf21⟩ := h
      refine sw_seq (sw_ifNO (etn_orK (et_not (et_tB (ev_isi (ev_var rfl) h_14))) fun hb15 => (etn_orK (et_test (ev_op (ev_var rfl) (ev_tupM PyData.int [] ea_nil rfl) (r2_eq (h_16 hb15) (((shd_tM (shd_int (n := 0))) ([] : (List Int))).shaped (by decide))))) fun hb17 => (etn_yes false (etn_any (etn_eqI (en_pick (j := 0) rfl ev_int (h_18 hb15 hb17)) (EvN.of (f := PyData.int) ev_int)))))) (fun hb19 => ?_) (fun hb19 => sw_next ?_))
      · have h := ht20 trivial
        obtain ⟨h_22, h⟩ := h
        refine sw_retNd (en_ofV true (j := 0) rfl (ev_var rfl) h_22.1 h_22.2) fun d hd => ?_
        obtain ⟨y, hdy, hy⟩ := hd
        exact ⟨y, by rw [hdy], h y hy⟩
      · have h := hf21 hb19
        obtain ⟨h_23, h_24, h_25, h⟩ := h
        refine sw_seq (sw_par2Z (ez_n (f := PyData.int) (en_pick (j := 0) rfl (ev_cb (ea_cons (ev_var rfl) ea_nil) (rc_lenD h_23)) h_24)) (ez_n (f := PyData.int) (en_pick (j := 0) rfl ev_int h_25)) fun k way e_26 e_27 => ?_)
        replace h := h k way e_26 e_27
        obtain ⟨ht29, hf30⟩ := h
        refine sw_seq (sw_if (et_test (ev_op (ev_var rfl) ev_int r2_ltI)) (fun hb28 => ?_) (fun hb28 => sw_next ?_))
        · have h := ht29 hb28
          obtain ⟨h_31, h_32, h_33, h_34, h_37, h_40, h_43, h⟩ := h
          refine sw_retNd (en_toD (f := (tM DL.encD)) (en_op2Q (h := (tM DL.encD)) (R := fun y => ∃ b41, ((∃ b38, ((∃ a0, Po__law_near (gi (dTup value) k) odd a0 ∧ b38 = [a0])) ∧ b41 = ((cutD (dTup value) none (some k)) ++ b38))) ∧ y = (b41 ++ (cutD (dTup value) (some (k + (1 : Int))) none))) (en_op2P (h := (tM DL.encD)) (R := fun y => ∃ b38, ((∃ a0, Po__law_near (gi (dTup value) k) odd a0 ∧ b38 = [a0])) ∧ y = ((cutD (dTup value) none (some k)) ++ b38)) (ev_slT (ev_as (d2 := (tM DL.encD) (dTup value)) h_31 (ev_var rfl)) es_none (es_some (ev_var rfl))) (en_tupT1 (en_callV (enc := DL.encD) ((gi (dTup value) k), odd) (j := 0) rfl (ea_cons (ev_op (ev_var rfl) (ev_var rfl) (r2_ixD h_32 h_33.1 h_33.2)) (ea_cons (ev_var rfl) ea_nil)) ⟨h_34.1, Nat.lt_of_lt_of_le h_34.2 (Nat.le_of_lt_succ hrk)⟩)) fun b38 hb39 => ⟨_, (r2_addM (le_sz (h_40 b38 hb39))), b38, hb39, rfl⟩) (ev_slT (ev_as (d2 := (tM DL.encD) (dTup value)) h_31 (ev_var rfl)) (es_some (ev_op (ev_var rfl) ev_int r2_addI)) es_none) fun b41 hb42 => ⟨_, (r2_addM (le_sz (h_43 b41 hb42))), b41, hb42, rfl⟩)) fun d hd => ?_
          obtain ⟨y, hdy, hy⟩ := hd
          exact ⟨y, by rw [hdy], h y hy⟩
        · have h := hf30 hb28
          obtain ⟨h_45, h_46, h_47, h_48, h⟩ := h
          refine sw_retNd (en_ofV true (j := 0) rfl (ev_frzM (ev_lstM DL.encD [((tM DL.encD) ((cutD (dTup value) none (some k)) ++ (cutD (dTup value) (some (k + (1 : Int))) none))), ((tM DL.encD) ((cutD (dTup value) none (some (k + (1 : Int)))) ++ (cutD (dTup value) (some k) none))), ((tM DL.encD) (dTup value).reverse), ((lM DL.encD) (dTup value))] (ea_cons (ev_op (ev_slT (ev_as (d2 := (tM DL.encD) (dTup value)) h_45 (ev_var rfl)) es_none (es_some (ev_var rfl))) (ev_slT (ev_as (d2 := (tM DL.encD) (dTup value)) h_45 (ev_var rfl)) (es_some (ev_op (ev_var rfl) ev_int r2_addI)) es_none) (r2_addM (le_sz h_46))) (ea_cons (ev_op (ev_slT (ev_as (d2 := (tM DL.encD) (dTup value)) h_45 (ev_var rfl)) es_none (es_some (ev_op (ev_var rfl) ev_int r2_addI))) (ev_slT (ev_as (d2 := (tM DL.encD) (dTup value)) h_45 (ev_var rfl)) (es_some (ev_var rfl)) es_none) (r2_addM (le_sz h_47))) (ea_cons (ev_revTM (ev_as (d2 := (tM DL.encD) (dTup value)) h_45 (ev_var rfl))) (ea_cons (ev_frzM (ev_cb (ea_cons (ev_as (d2 := (tM DL.encD) (dTup value)) h_45 (ev_var rfl)) ea_nil) rc_listTM)) ea_nil)))) rfl)) h_48.1 h_48.2) fun d hd => ?_
          obtain ⟨y, hdy, hy⟩ := hd
          exact ⟨y, by rw [hdy], h y hy⟩
theorem ok__law_near {f : Addr} {fd : FuncData} (F : Fun K "_law_near" "_law_near" s__law_near f fd) (T : Bl mg) (c__law_of : Ca P w K mg base 2 "_law_of" (sp__law_of K)) (c__law_pick : Ca P w K mg base 1 "_law_pick" (sp__law_pick K)) (hm : mg "_law_near" = some (.ref f)) (hk : PySem.W.keepIn K (.ref f) = true) (hb : Binds K fd ["source", "value", "odd"] []) : Gn P w K mg base 15 f fd ["source", "value", "odd"] (sp__law_near K) :=
  ⟨(spn_len fun _ => rfl), fun A st s H args us vs Q E gd hr e0 hbd rv h => (okn__law_near F T c__law_of c__law_pick hm hk hb 12).run A st s H args us vs Q E gd hr e0 hbd rv (by obtain ⟨x, p, q, ws, B, Fr, hx, rest⟩ := h; exact ⟨x, p, q, ws, B, Fr, ⟨hx, rkN__law_near x.1 x.2 hx⟩, rest⟩)⟩
theorem ok__law_way {f : Addr} {fd : FuncData} (F : Fun K "_law_way" "_law_way" s__law_way f fd) (T : Bl mg)  : Gn P w K mg base 1 f fd ["jobs", "order"] (sp__law_way K) := by
  refine gn_of F sc__law_way (spf_len fun _ => rfl) (fun cdv A fs s H vs Q E gd hr h => ?_)
  refine ⟨_, (pss_cons (ps_asg pe_non (pgv 2 sc__law_way.nd))
    (pss_cons (ps_for PassesOwn.never rfl (pi_range1 rfl T.b_range (pa_cons (pe_callB (cr_lenR (K := K) rfl) (by rfl) T.b_len bo_len (pa_cons (pv 1) pa_nil)) pa_nil)) (pgv 3 sc__law_way.nd) (pss_one (ps_for PassesOwn.never rfl (pi_range2 rfl T.b_range (pa_cons (pv 3) (pa_cons (pe_callB (cr_lenR (K := K) rfl) (by rfl) T.b_len bo_len (pa_cons (pv 1) pa_nil)) pa_nil))) (pgv 4 sc__law_way.nd) (pss_cons (ps_asg (pe_op (op_addR (K := K) rfl) (pe_callB (cr_sumR (K := K) rfl rfl) (by rfl) T.b_sum bo_sum (pa_cons (pe_lc (own := [("job", 6)]) (g := gName 6) (tt := tYes) rfl sc__law_way.nd (pi_seqR (K := K) rfl (pe_slice (sl_R (K := K) rfl) (pv 1) po_none (po_some (pe_op (op_addR (K := K) rfl) (pv 3) pe_int)))) (blk_es (N := N__law_way) (es0 (defScope s__law_way)) (by decide +kernel)) (fun _ _ _ _ _ => (pgv 6 sc__law_way.nd)) (fun _ _ _ _ _ => pts_nil) (fun _ _ _ _ _ => (pe_ix (ix_R (K := K) rfl hr) (pe_ix (ix_R (K := K) rfl hr) (pv 0) (pv 6) (fun _ _ => rfl)) pe_int (fun _ _ => rfl)))) pa_nil)) (pe_callB (cr_sumR (K := K) rfl rfl) (by rfl) T.b_sum bo_sum (pa_cons (pe_lc (own := [("job", 6)]) (g := gName 6) (tt := tYes) rfl sc__law_way.nd (pi_seqR (K := K) rfl (pe_slice (sl_R (K := K) rfl) (pv 1) (po_some (pv 3)) (po_some (pe_op (op_addR (K := K) rfl) (pv 4) pe_int)))) (blk_es (N := N__law_way) (es0 (defScope s__law_way)) (by decide +kernel)) (fun _ _ _ _ _ => (pgv 6 sc__law_way.nd)) (fun _ _ _ _ _ => pts_nil) (fun _ _ _ _ _ => (pe_ix (ix_R (K := K) rfl hr) (pe_ix (ix_R (K := K) rfl hr) (pv 0) (pv 6) (fun _ _ => rfl)) pe_int (fun _ _ => rfl)))) pa_nil))) (pgv 5 sc__law_way.nd))
    (pss_cons (ps_asg (pe_op (op_addR (K := K) rfl) (pv 5) (pe_callB (cr_sumR (K := K) rfl rfl) (by rfl) T.b_sum bo_sum (pa_cons (pe_lc (own := [("job", 6)]) (g := gName 6) (tt := tYes) rfl sc__law_way.nd (pi_seqR (K := K) rfl (pe_slice (sl_R (K := K) rfl) (pv 1) (po_some (pv 4)) po_none)) (blk_es (N := N__law_way) (es0 (defScope s__law_way)) (by decide +kernel)) (fun _ _ _ _ _ => (pgv 6 sc__law_way.nd)) (fun _ _ _ _ _ => pts_nil) (fun _ _ _ _ _ => (pe_ix (ix_R (K := K) rfl hr) (pe_ix (ix_R (K := K) rfl hr) (pv 0) (pv 6) (fun _ _ => rfl)) pe_int (fun _ _ => rfl)))) pa_nil))) (pgv 5 sc__law_way.nd))
    (pss_one (ps_asg (pe_ifExp (PW.pt (pw_or (pt_cmpR op_isN (pv 2) pe_non (nomark _)) (pw_or1 (pt_cmpR (op_gtR (K := K) rfl hr) (pv 5) (pe_ix (ix_R (K := K) rfl hr) (pv 2) pe_int (fun _ _ => rfl)) (nomark _))))) (pe_tup (pa_cons (pv 3) (pa_cons (pv 4) (pa_cons (pv 5) pa_nil)))) (pv 2)) (pgv 2 sc__law_way.nd))))))))
    (pss_one (ps_ret (pv 2))))), ?_⟩
  refine spf_useV (enc := (encQ (p3 PyData.int PyData.int PyData.int))) (fun (x : (List (Int × Int × Int)) × (List Int)) rt => W__law_way x.1 x.2 rt) h (fun x hx => V__law_way x.1 x.2 hx) fun x rt h => ?_
  obtain ⟨jobs, order⟩ := x
  replace h : W__law_way jobs order rt := h
  unfold W__law_way at h
  refine sw_seq (sw_asgV (v := ()) encU ev_non fun best e_1 => ?_)
  replace h := h best e_1
  obtain ⟨h_2, h⟩ := h
  refine sw_seq (sw_vfor (body := (fun xx ss N B => wl1__law_way jobs order xx ss N)) (Kf := (fun ss => wr1__law_way ss rt)) (xs := (List.range order.length)) (fun i : Nat => PyData.int (i : Int)) (fun ss : (Option (Int × Int × Int)) => [some (.d ((tM (p3 PyData.int PyData.int PyData.int)) jobs)), some (.d ((tM PyData.int) order)), some (.d ((encQ (p3 PyData.int PyData.int PyData.int)) ss)), none, none, none, none]) none (ei_range (ea_cons (ev_cb (ea_cons (ev_var rfl) ea_nil) rc_lenM) ea_nil) (Int.ofNat_le.mpr h_2)) (by first | ((repeat (first | exact Le.nil | apply Le.keep | apply Le.drop)); done) | (refine Le.trans ?_ le; repeat (first | exact Le.nil | apply Le.keep | apply Le.drop))) h (fun xi si N_ h => ⟨_, _, gt_name, ?_⟩) (fun si ρ1 h le => ?_))
  · unfold wl1__law_way at h
    revert h; revert xi si; intro x s h
    obtain ⟨h_3, h⟩ := h
    refine sw_vfor (body := (fun xx ss N B => wl2__law_way jobs order (x : Int) xx ss N)) (Kf := (fun ss => wr2__law_way jobs order ss N_)) (xs := (List.range ((order.length : Int) - (x : Int)).toNat)) (fun i : Nat => PyData.int ((x : Int) + (i : Int))) (fun ss : (Option (Int × Int × Int)) => [some (.d ((tM (p3 PyData.int PyData.int PyData.int)) jobs)), some (.d ((tM PyData.int) order)), some (.d ((encQ (p3 PyData.int PyData.int PyData.int)) ss)), some (.d (PyData.int (x : Int))), none, none, none]) s (ei_rng2V (ea_cons (ev_var rfl) (ea_cons (ev_cb (ea_cons (ev_var rfl) ea_nil) rc_lenM) ea_nil)) h_3) (by first | ((repeat (first | exact Le.nil | apply Le.keep | apply Le.drop)); done) | (refine Le.trans ?_ le; repeat (first | exact Le.nil | apply Le.keep | apply Le.drop))) h (fun xi si N_2 h => ⟨_, _, gt_name, ?_⟩) (fun si ρ1 h le => ?_)
    · unfold wl2__law_way at h
      generalize (x : Int) = u at h ⊢
      revert h; revert xi si; intro x s h
      obtain ⟨h_6, h_9, h⟩ := h
      refine sw_seq (sw_asgV (v := ((List.map (fun x4 : Int => ((gi jobs x4)).1) (cutD order none (some (u + (1 : Int))))).sum + (List.map (fun x7 : Int => ((gi jobs x7)).2.1) (cutD order (some u) (some ((u + (x : Int)) + (1 : Int))))).sum)) PyData.int (ev_op (ev_cb (ea_cons (ev_frzM (ev_lcM PyData.int (cutD order none (some (u + (1 : Int)))) PyData.int (fun x4 : Int => ((gi jobs x4)).1) (ei_tup (ev_slT (ev_var rfl) es_none (es_some (ev_op (ev_var rfl) ev_int r2_addI)))) fun x4 hx5 => ⟨_, _, gt_name, by simp, (ev_op (ev_op (ev_var rfl) (ev_var rfl) (r2_ixM (h_6 x4 hx5).1 (h_6 x4 hx5).2)) ev_int (r2_ixT rfl))⟩)) ea_nil) rc_sumL) (ev_cb (ea_cons (ev_frzM (ev_lcM PyData.int (cutD order (some u) (some ((u + (x : Int)) + (1 : Int)))) PyData.int (fun x7 : Int => ((gi jobs x7)).2.1) (ei_tup (ev_slT (ev_var rfl) (es_some (ev_var rfl)) (es_some (ev_op (ev_var rfl) ev_int r2_addI)))) fun x7 hx8 => ⟨_, _, gt_name, by simp, (ev_op (ev_op (ev_var rfl) (ev_var rfl) (r2_ixM (h_9 x7 hx8).1 (h_9 x7 hx8).2)) ev_int (r2_ixT rfl))⟩)) ea_nil) rc_sumL) r2_addI) fun length e_10 => ?_)
      replace h := h length e_10
      obtain ⟨h_13, h⟩ := h
      refine sw_seq (sw_asgV (v := (length + (List.map (fun x11 : Int => ((gi jobs x11)).2.2) (cutD order (some (u + (x : Int))) none)).sum)) PyData.int (ev_op (ev_var rfl) (ev_cb (ea_cons (ev_frzM (ev_lcM PyData.int (cutD order (some (u + (x : Int))) none) PyData.int (fun x11 : Int => ((gi jobs x11)).2.2) (ei_tup (ev_slT (ev_var rfl) (es_some (ev_var rfl)) es_none)) fun x11 hx12 => ⟨_, _, gt_name, by simp, (ev_op (ev_op (ev_var rfl) (ev_var rfl) (r2_ixM (h_13 x11 hx12).1 (h_13 x11 hx12).2)) ev_int (r2_ixT rfl))⟩)) ea_nil) rc_sumL) r2_addI) fun length2 e_14 => ?_)
      replace h := h length2 e_14
      obtain ⟨h_16, h⟩ := h
      refine sw_asgV (v := (if (s.isNone || (decide (((qv s)).2.2 < length2))) = true then (some (u, (u + (x : Int)), length2)) else s)) (encQ (p3 PyData.int PyData.int PyData.int)) (ev_ifM (encQ (p3 PyData.int PyData.int PyData.int)) (et_or (et_test (ev_op (ev_var rfl) ev_non (r2_isNQ (fun _ h => by cases h)))) fun hb15 => (et_test (ev_op (ev_var rfl) (ev_op (ev_qv (ev_var rfl) (h_16 hb15)) ev_int (r2_ixT rfl)) r2_gtI))) (fun hb18 => (ev_tup (ea_cons (ev_var rfl) (ea_cons (ev_var rfl) (ea_cons (ev_var rfl) ea_nil))))) (fun hb18 => (ev_var rfl))) fun best e_19 => ?_
      replace h := h best e_19
      exact ⟨best, h, (by first | ((repeat (first | exact Le.nil | apply Le.keep | apply Le.drop)); done) | (refine Le.trans ?_ le; repeat (first | exact Le.nil | apply Le.keep | apply Le.drop)))⟩
    · unfold wr2__law_way at h
      revert le; revert h; revert si; intro s h le
      exact ⟨s, h, (by first | ((repeat (first | exact Le.nil | apply Le.keep | apply Le.drop)); done) | (refine Le.trans ?_ le; repeat (first | exact Le.nil | apply Le.keep | apply Le.drop)))⟩
  · refine sw_le le ?_
    clear le
    unfold wr1__law_way at h
    revert h; revert si; intro s h
    exact sw_ret (ev_var rfl) ⟨s, rfl, h⟩
theorem ok_law {f : Addr} {fd : FuncData} (F : Fun K "law" "law" s_law f fd) (T : Bl mg) (c__law_source : Ca P w K mg base 1 "_law_source" (sp__law_source K)) (c__law_pick : Ca P w K mg base 1 "_law_pick" (sp__law_pick K)) (c__law_jobs : Ca P w K mg base 2 "_law_jobs" (sp__law_jobs K)) (c__law_wide : Ca P w K mg base 1 "_law_wide" (sp__law_wide K)) (c_room_span : Ca P w K mg base 4 "room_span" (sp_room_span K)) (c__law_ends : Ca P w K mg base 1 "_law_ends" (sp__law_ends K)) (c__law_span : Ca P w K mg base 2 "_law_span" (sp__law_span K)) (c__law_way : Ca P w K mg base 1 "_law_way" (sp__law_way K)) (c_wide_span : Ca P w K mg base 2 "wide_span" (sp_wide_span K)) (c__law_mixed : Ca P w K mg base 2 "_law_mixed" (sp__law_mixed K)) (c_rooms_span : Ca P w K mg base 3 "rooms_span" (sp_rooms_span K)) (c__law_near : Ca P w K mg base 15 "_law_near" (sp__law_near K)) (c_room_ends : Ca P w K mg base 3 "room_ends" (sp_room_ends K)) (c_turned_rooms : Ca P w K mg base 1 "turned_rooms" (sp_turned_rooms K)) (c_with_middle : Ca P w K mg base 1 "with_middle" (sp_with_middle K)) (c_greatest_way : Ca P w K mg base 2 "greatest_way" (sp_greatest_way K)) (c_are_room_jobs : Ca P w K mg base 3 "are_room_jobs" (sp_are_room_jobs K)) : Gn P w K mg base 16 f fd ["script"] (sp_law K) := by
  refine gn_of F sc_law (fun _ _ _ _ ⟨_, _, e, _⟩ => by rw [e]; rfl) (fun cdv A fs s H vs Q E gd hr h => ?_)
  refine ⟨_, (pss_cons (ps_asg (pe_g c__law_source hr gd (by decide) (by rfl) (pa_cons (pv 0) pa_nil)) (pgv 1 sc_law.nd))
    (pss_cons (ps_asg (pe_lst (pa_cons pe_non (pa_cons pe_bl (pa_cons pe_int (pa_cons pe_int (pa_cons (pe_un un_neg pe_int) (pa_cons pe_str (pa_cons (pe_tup pa_nil) (pa_cons (pe_tup (pa_cons pe_int pa_nil)) (pa_cons (pe_tup (pa_cons pe_int (pa_cons pe_int (pa_cons pe_int pa_nil)))) (pa_cons (pe_tup (pa_cons pe_int (pa_cons pe_int (pa_cons pe_int pa_nil)))) (pa_cons (pe_lst (pa_cons pe_int (pa_cons pe_int (pa_cons pe_int pa_nil)))) (pa_cons (pe_op op_pow pe_int pe_int) pa_nil))))))))))))) (pgv 2 sc_law.nd))
    (pss_cons (ps_for PassesOwn.never rfl (pi_range1 rfl T.b_range (pa_cons pe_int pa_nil)) (pgv 3 sc_law.nd) (pss_cons (ps_asg (pe_g c__law_pick hr gd (by decide) (by rfl) (pa_cons (pv 1) (pa_cons pe_int pa_nil))) (pgv 4 sc_law.nd))
    (pss_cons (ps_asg (pe_g c__law_jobs hr gd (by decide) (by rfl) (pa_cons (pv 1) (pa_cons (pv 4) pa_nil))) (pgv 5 sc_law.nd))
    (pss_cons (ps_par (i := 6) (j := 7) rfl sc_law.nd rfl rfl (by decide) rfl rfl (pa_cons (pe_callTy (cr_tupleR (K := K) rfl) (by rfl) T.b_tuple bo_tuple (pa_cons (pe_g c__law_mixed hr gd (by decide) (by rfl) (pa_cons (pv 1) (pa_cons (pe_listRg rfl (by rfl) T.b_list (prg_1 (by rfl) T.b_range (pv 4))) pa_nil))) pa_nil)) (pa_cons (pe_callB (cr_reprR (K := K) rfl gd hr) (by rfl) T.b_repr bo_repr (pa_cons (pv 5) pa_nil)) pa_nil)) rfl)
    (pss_cons (ps_asg (pe_tup (pa_cons (pe_g c__law_ends hr gd (by decide) (by rfl) (pa_cons (pv 5) (pa_cons (pe_tup (pa_cons (pv 6) (pa_cons (pv 6) (pa_cons (pv 6) pa_nil)))) pa_nil))) (pa_cons (pe_g c__law_span hr gd (by decide) (by rfl) (pa_cons (pv 5) (pa_cons (pv 6) pa_nil))) pa_nil))) (pg_tupR (K := K) (n := 2) rfl rfl (pgs_cons (pgv 8 sc_law.nd) (pgs_cons (pgv 9 sc_law.nd) pgs_nil))))
    (pss_cons (ps_asg (pe_callTy (cr_tupleR (K := K) rfl) (by rfl) T.b_tuple bo_tuple (pa_cons (pe_lc (own := [("job", 11)]) (g := gName 11) (tt := tYes) rfl sc_law.nd (pi_range1 rfl T.b_range (pa_cons (pv 4) pa_nil)) (blk_es (N := N_law) (es0 (defScope s_law)) (by decide +kernel)) (fun _ _ _ _ _ => (pgv 11 sc_law.nd)) (fun _ _ _ _ _ => pts_nil) (fun _ _ _ _ _ => (pe_tup (pa_cons (pe_ix (ix_R (K := K) rfl hr) (pe_ix (ix_R (K := K) rfl hr) (pv 8) pe_int (fun _ _ => rfl)) (pv 11) (fun _ _ => rfl)) (pa_cons (pe_ix (ix_R (K := K) rfl hr) (pe_ix (ix_R (K := K) rfl hr) (pv 8) pe_int (fun _ _ => rfl)) (pv 11) (fun _ _ => rfl)) (pa_cons (pe_ix (ix_R (K := K) rfl hr) (pe_ix (ix_R (K := K) rfl hr) (pv 8) pe_int (fun _ _ => rfl)) (pv 11) (fun _ _ => rfl)) pa_nil)))))) pa_nil)) (pgv 10 sc_law.nd))
    (pss_cons (ps_if (pt_cmpR (op_neR (K := K) rfl hr) (pe_callB (cr_reprR (K := K) rfl gd hr) (by rfl) T.b_repr bo_repr (pa_cons (pe_lst (pa_cons (pe_g c_room_ends hr gd (by decide) (by rfl) (pa_cons (pv 5) (pa_cons (pv 6) pa_nil))) (pa_cons (pe_g c_room_span hr gd (by decide) (by rfl) (pa_cons (pv 5) (pa_cons (pv 6) pa_nil))) pa_nil))) pa_nil)) (pe_callB (cr_reprR (K := K) rfl gd hr) (by rfl) T.b_repr bo_repr (pa_cons (pe_lst (pa_cons (pv 10) (pa_cons (pv 9) pa_nil))) pa_nil)) (nomark _)) (pss_one (ps_ret pe_bl)) pss_nil)
    (pss_cons (ps_if (pt_cmpR (op_gtR (K := K) rfl hr) (pv 4) pe_int (nomark _)) (pss_cons (ps_asg (pe_g c__law_way hr gd (by decide) (by rfl) (pa_cons (pv 5) (pa_cons (pv 6) pa_nil))) (pgv 12 sc_law.nd))
    (pss_one (ps_if (PW.pt (pw_or (pt_cmpR (op_neR (K := K) rfl hr) (pe_callB (cr_reprR (K := K) rfl gd hr) (by rfl) T.b_repr bo_repr (pa_cons (pe_g c_greatest_way hr gd (by decide) (by rfl) (pa_cons (pv 5) (pa_cons (pv 6) pa_nil))) pa_nil)) (pe_callB (cr_reprR (K := K) rfl gd hr) (by rfl) T.b_repr bo_repr (pa_cons (pv 12) pa_nil)) (nomark _)) (pw_or1 (pt_cmpR (op_neR (K := K) rfl hr) (pe_ix (ix_R (K := K) rfl hr) (pv 12) pe_int (fun _ _ => rfl)) (pv 9) (nomark _))))) (pss_one (ps_ret pe_bl)) pss_nil))) pss_nil)
    (pss_cons (ps_asg (pe_g c__law_wide hr gd (by decide) (by rfl) (pa_cons (pv 5) (pa_cons (pv 6) pa_nil))) (pgv 13 sc_law.nd))
    (pss_cons (ps_if (PW.pt (pw_or (pt_cmpR (op_neR (K := K) rfl hr) (pe_callB (cr_reprR (K := K) rfl gd hr) (by rfl) T.b_repr bo_repr (pa_cons (pe_g c_wide_span hr gd (by decide) (by rfl) (pa_cons (pv 5) (pa_cons (pv 6) pa_nil))) pa_nil)) (pe_callB (cr_reprR (K := K) rfl gd hr) (by rfl) T.b_repr bo_repr (pa_cons (pv 13) pa_nil)) (nomark _)) (pw_or1 (pt_cmpR (op_gtR (K := K) rfl hr) (pv 13) (pv 9) (nomark _))))) (pss_one (ps_ret pe_bl)) pss_nil)
    (pss_cons (ps_asg (pe_callTy (cr_tupleR (K := K) rfl) (by rfl) T.b_tuple bo_tuple (pa_cons (pe_lc (own := [("room", 15)]) (g := gName 15) (tt := tYes) rfl sc_law.nd (pi_range1 rfl T.b_range (pa_cons pe_int pa_nil)) (blk_es (N := N_law) (es0 (defScope s_law)) (by decide +kernel)) (fun _ _ _ _ _ => (pgv 15 sc_law.nd)) (fun _ _ _ _ _ => pts_nil) (fun _ _ _ _ _ => (pe_callTy (cr_tupleR (K := K) rfl) (by rfl) T.b_tuple bo_tuple (pa_cons (pe_g c__law_mixed hr gd (by decide) (by rfl) (pa_cons (pv 1) (pa_cons (pe_listRg rfl (by rfl) T.b_list (prg_1 (by rfl) T.b_range (pv 4))) pa_nil))) pa_nil)))) pa_nil)) (pgv 14 sc_law.nd))
    (pss_cons (ps_if (pt_cmpR (op_neR (K := K) rfl hr) (pe_callB (cr_reprR (K := K) rfl gd hr) (by rfl) T.b_repr bo_repr (pa_cons (pe_g c_rooms_span hr gd (by decide) (by rfl) (pa_cons (pv 5) (pa_cons (pv 14) pa_nil))) pa_nil)) (pe_callB (cr_reprR (K := K) rfl gd hr) (by rfl) T.b_repr bo_repr (pa_cons (pe_callB (cr_maxR (K := K) rfl rfl hr) (by rfl) T.b_max bo_max (pa_cons (pe_op (op_addR (K := K) rfl) (pe_ix (ix_R (K := K) rfl hr) (pe_g c__law_ends hr gd (by decide) (by rfl) (pa_cons (pv 5) (pa_cons (pv 14) pa_nil))) pe_int (fun _ _ => rfl)) (pe_lst (pa_cons pe_int pa_nil))) pa_nil)) pa_nil)) (nomark _)) (pss_one (ps_ret pe_bl)) pss_nil)
    (pss_cons (ps_asg (pe_callTy (cr_tupleR (K := K) rfl) (by rfl) T.b_tuple bo_tuple (pa_cons (pe_lc (own := [("a", 17), ("b", 18), ("c", 19)]) (g := gTup K 3 (gCons (gName 17) ((gCons (gName 18) ((gCons (gName 19) (gNil))))))) (tt := tYes) rfl sc_law.nd (pi_seqR (K := K) rfl (pv 5)) (blk_es (N := N_law) (es0 (defScope s_law)) (by decide +kernel)) (fun _ _ _ _ _ => (pg_tupR (K := K) (n := 3) rfl rfl (pgs_cons (pgv 17 sc_law.nd) (pgs_cons (pgv 18 sc_law.nd) (pgs_cons (pgv 19 sc_law.nd) pgs_nil))))) (fun _ _ _ _ _ => pts_nil) (fun _ _ _ _ _ => (pe_tup (pa_cons (pv 19) (pa_cons (pv 18) (pa_cons (pv 17) pa_nil)))))) pa_nil)) (pgv 16 sc_law.nd))
    (pss_cons (ps_if (PW.pt (pw_or (pt_cmpR (op_neR (K := K) rfl hr) (pe_callB (cr_reprR (K := K) rfl gd hr) (by rfl) T.b_repr bo_repr (pa_cons (pe_g c_turned_rooms hr gd (by decide) (by rfl) (pa_cons (pv 5) pa_nil)) pa_nil)) (pe_callB (cr_reprR (K := K) rfl gd hr) (by rfl) T.b_repr bo_repr (pa_cons (pv 16) pa_nil)) (nomark _)) (pw_or1 (pt_cmpR (op_neR (K := K) rfl hr) (pe_g c_room_span hr gd (by decide) (by rfl) (pa_cons (pv 16) (pa_cons (pe_revR (K := K) rfl (pv 6)) pa_nil))) (pv 9) (nomark _))))) (pss_one (ps_ret pe_bl)) pss_nil)
    (pss_cons (ps_if (pt_cmpR (op_neR (K := K) rfl hr) (pe_g c_wide_span hr gd (by decide) (by rfl) (pa_cons (pv 16) (pa_cons (pe_revR (K := K) rfl (pv 6)) pa_nil))) (pv 13) (nomark _)) (pss_one (ps_ret pe_bl)) pss_nil)
    (pss_cons (ps_asg (pe_g c__law_pick hr gd (by decide) (by rfl) (pa_cons (pv 1) (pa_cons pe_int pa_nil))) (pgv 20 sc_law.nd))
    (pss_cons (ps_asg (pe_callTy (cr_tupleR (K := K) rfl) (by rfl) T.b_tuple bo_tuple (pa_cons (pe_lc (own := [("a", 17), ("b", 18), ("c", 19)]) (g := gTup K 3 (gCons (gName 17) ((gCons (gName 18) ((gCons (gName 19) (gNil))))))) (tt := tYes) rfl sc_law.nd (pi_seqR (K := K) rfl (pv 5)) (blk_es (N := N_law) (es0 (defScope s_law)) (by decide +kernel)) (fun _ _ _ _ _ => (pg_tupR (K := K) (n := 3) rfl rfl (pgs_cons (pgv 17 sc_law.nd) (pgs_cons (pgv 18 sc_law.nd) (pgs_cons (pgv 19 sc_law.nd) pgs_nil))))) (fun _ _ _ _ _ => pts_nil) (fun _ _ _ _ _ => (pe_tup (pa_cons (pv 17) (pa_cons (pe_op (op_addR (K := K) rfl) (pv 18) (pv 20)) (pa_cons (pv 19) pa_nil)))))) pa_nil)) (pgv 21 sc_law.nd))
    (pss_cons (ps_if (PW.pt (pw_or (pt_cmpR (op_neR (K := K) rfl hr) (pe_callB (cr_reprR (K := K) rfl gd hr) (by rfl) T.b_repr bo_repr (pa_cons (pe_g c_with_middle hr gd (by decide) (by rfl) (pa_cons (pv 5) (pa_cons (pv 20) pa_nil))) pa_nil)) (pe_callB (cr_reprR (K := K) rfl gd hr) (by rfl) T.b_repr bo_repr (pa_cons (pv 21) pa_nil)) (nomark _)) (pw_or1 (pt_cmpR (op_neR (K := K) rfl hr) (pe_g c_wide_span hr gd (by decide) (by rfl) (pa_cons (pv 21) (pa_cons (pv 6) pa_nil))) (pe_op (op_addR (K := K) rfl) (pv 13) (pe_op (op_mulR (K := K) rfl) (pv 20) (pe_callTy call_int1 (by rfl) T.b_int bo_int (pa_cons (pe_cmpR (op_gtR (K := K) rfl hr) (pv 4) pe_int (nomark _)) pa_nil)))) (nomark _))))) (pss_one (ps_ret pe_bl)) pss_nil)
    (pss_cons (ps_if (PW.pt (pw_and (pt_cmpR (op_gtR (K := K) rfl hr) (pv 4) pe_int (nomark _)) (pw_and1 (pt_not (pt_chain (op_leR (K := K) rfl hr) (op_leR (K := K) rfl hr) (pe_op (op_addR (K := K) rfl) (pv 9) (pv 20)) (pe_g c_room_span hr gd (by decide) (by rfl) (pa_cons (pv 21) (pa_cons (pv 6) pa_nil))) (pe_op (op_addR (K := K) rfl) (pv 9) (pe_op (op_mulR (K := K) rfl) (pv 4) (pv 20)))))))) (pss_one (ps_ret pe_bl)) pss_nil)
    (pss_cons (ps_if (pt_cmpR (op_gtR (K := K) rfl hr) (pv 4) pe_int (nomark _)) (pss_cons (ps_par (i := 22) (j := 15) rfl sc_law.nd rfl rfl (by decide) rfl rfl (pa_cons (pe_g c__law_pick hr gd (by decide) (by rfl) (pa_cons (pv 1) (pa_cons (pv 4) pa_nil))) (pa_cons (pe_g c__law_pick hr gd (by decide) (by rfl) (pa_cons (pv 1) (pa_cons pe_int pa_nil))) pa_nil)) rfl)
    (pss_cons (ps_setLc (i := 23) (own := [("job", 11)]) (g := gName 11) (tt := tYes)  rfl sc_law.nd rfl rfl rfl (pi_seqR (K := K) rfl (pv 5)) (blk_es (N := N_law) (es0 (defScope s_law)) (by decide +kernel)) (fun _ _ _ _ _ => (pgv 11 sc_law.nd)) (fun _ _ _ _ _ => pts_nil) (fun _ _ _ _ _ => (pe_callTy (cr_listR (K := K) rfl rfl) (by rfl) T.b_list bo_list (pa_cons (pv 11) pa_nil))))
    (pss_cons (ps_asg (pe_op (op_addR (K := K) rfl) (pe_op (op_addR (K := K) rfl) (pe_ix (ix_R (K := K) rfl hr) (pe_ix (ix_R (K := K) rfl hr) (pv 23) (pv 22) (fun _ _ => rfl)) (pv 15) (fun _ _ => rfl)) pe_int) (pe_g c__law_pick hr gd (by decide) (by rfl) (pa_cons (pv 1) (pa_cons pe_int pa_nil)))) (pg_sub (pe_ix (ix_R (K := K) rfl hr) (pv 23) (pv 22) (fun _ _ => rfl)) (pv 15) (set_LD hr) (fun _ => rfl)))
    (pss_cons (ps_asg (pe_callTy (cr_tupleR (K := K) rfl) (by rfl) T.b_tuple bo_tuple (pa_cons (pe_lc (own := [("job", 11)]) (g := gName 11) (tt := tYes) rfl sc_law.nd (pi_seqR (K := K) rfl (pv 23)) (blk_es (N := N_law) (es0 (defScope s_law)) (by decide +kernel)) (fun _ _ _ _ _ => (pgv 11 sc_law.nd)) (fun _ _ _ _ _ => pts_nil) (fun _ _ _ _ _ => (pe_callTy (cr_tupleR (K := K) rfl) (by rfl) T.b_tuple bo_tuple (pa_cons (pv 11) pa_nil)))) pa_nil)) (pgv 23 sc_law.nd))
    (pss_one (ps_if (PW.pt (pw_or (pt_cmpR (op_ltR (K := K) rfl hr) (pe_g c_room_span hr gd (by decide) (by rfl) (pa_cons (pv 23) (pa_cons (pv 6) pa_nil))) (pv 9) (nomark _)) (pw_or1 (pt_cmpR (op_ltR (K := K) rfl hr) (pe_g c_wide_span hr gd (by decide) (by rfl) (pa_cons (pv 23) (pa_cons (pv 6) pa_nil))) (pv 13) (nomark _))))) (pss_one (ps_ret pe_bl)) pss_nil)))))) pss_nil)
    (pss_cons (ps_asg (pe_lst (pa_cons (pv 5) (pa_cons (pe_callTy (cr_listR (K := K) rfl rfl) (by rfl) T.b_list bo_list (pa_cons (pv 5) pa_nil)) (pa_cons (pe_op (op_addR (K := K) rfl) (pv 5) (pe_tup (pa_cons (pe_tup (pa_cons pe_int (pa_cons pe_int (pa_cons pe_int pa_nil)))) pa_nil))) (pa_cons (pe_op (op_addR (K := K) rfl) (pv 5) (pe_tup (pa_cons (pe_tup (pa_cons pe_int (pa_cons pe_int (pa_cons pe_int pa_nil)))) pa_nil))) (pa_cons pe_non (pa_cons pe_int (pa_cons (pe_tup (pa_cons pe_int (pa_cons pe_int (pa_cons pe_int pa_nil)))) pa_nil)))))))) (pgv 24 sc_law.nd))
    (pss_cons (ps_for PassesOwn.never rfl (pi_seqR (K := K) rfl (pe_op (op_addR (K := K) rfl) (pv 24) (pe_lc (own := [("look", 26)]) (g := gName 26) (tt := tYes) rfl sc_law.nd (pi_range1 rfl T.b_range (pa_cons pe_int pa_nil)) (blk_es (N := N_law) (es0 (defScope s_law)) (by decide +kernel)) (fun _ _ _ _ _ => (pgv 26 sc_law.nd)) (fun _ _ _ _ _ => pts_nil) (fun _ _ _ _ _ => (pe_g c__law_near hr gd (by decide) (by rfl) (pa_cons (pv 1) (pa_cons (pv 5) (pa_cons (pv 2) pa_nil)))))))) (pgv 25 sc_law.nd) (pss_cons (ps_asg (pe_callB (cr_isR (K := K) rfl) (by rfl) T.b_isinstance bo_isinstance (pa_cons (pv 25) (pa_cons (pe_bltn (v := .ty "tuple") (by rfl) T.b_tuple bo_tuple (by rfl)) pa_nil))) (pgv 27 sc_law.nd))
    (pss_cons (ps_for PassesOwn.never rfl (pi_seqR (K := K) rfl (pe_ifExp (pt_val (pv 27)) (pe_callTy (cr_listR (K := K) rfl rfl) (by rfl) T.b_list bo_list (pa_cons (pv 25) pa_nil)) (pe_lst pa_nil))) (pgv 11 sc_law.nd) (pss_cons (ps_asg (pe_and (pv 27) (pe_and (pe_callB (cr_isR (K := K) rfl) (by rfl) T.b_isinstance bo_isinstance (pa_cons (pv 11) (pa_cons (pe_bltn (v := .ty "tuple") (by rfl) T.b_tuple bo_tuple (by rfl)) pa_nil))) (pe_one (pe_cmpR (op_eqR (K := K) rfl hr) (pe_callB (cr_lenR (K := K) rfl) (by rfl) T.b_len bo_len (pa_cons (pv 11) pa_nil)) pe_int (nomark _))))) (pgv 27 sc_law.nd))
    (pss_one (ps_asg (pe_and (pv 27) (pe_one (pe_cmpR (op_eqR (K := K) rfl hr) (pe_lc (own := [("x", 22)]) (g := gName 22) rfl sc_law.nd (pi_seqR (K := K) rfl (pv 11)) (blk_es (N := N_law) (es0 (defScope s_law)) (by decide +kernel)) (fun _ _ _ _ _ => (pgv 22 sc_law.nd)) (fun _ _ _ _ _ => (pts_one (PW.pt (pw_or (pt_not (pt_val (pe_callB (cr_isR (K := K) rfl) (by rfl) T.b_isinstance bo_isinstance (pa_cons (pv 22) (pa_cons (pe_bltn (v := .ty "int") (by rfl) T.b_int bo_int (by rfl)) pa_nil))))) (pw_or (pt_val (pe_callB (cr_isR (K := K) rfl) (by rfl) T.b_isinstance bo_isinstance (pa_cons (pv 22) (pa_cons (pe_bltn (v := .ty "bool") (by rfl) T.b_bool bo_bool (by rfl)) pa_nil)))) (pw_or1 (pt_cmpR (op_ltR (K := K) rfl hr) (pv 22) pe_int (nomark _)))))))) (fun _ _ _ _ _ => (pv 22))) (pe_lst pa_nil) (nomark _)))) (pgv 27 sc_law.nd)))))
    (pss_cons (ps_asg (pe_callB (cr_reprR (K := K) rfl gd hr) (by rfl) T.b_repr bo_repr (pa_cons (pv 25) pa_nil)) (pgv 28 sc_law.nd))
    (pss_one (ps_if (PW.pt (pw_or (pt_cmpR (op_neR (K := K) rfl hr) (pe_callB (cr_reprR (K := K) rfl gd hr) (by rfl) T.b_repr bo_repr (pa_cons (pe_g c_are_room_jobs hr gd (by decide) (by rfl) (pa_cons (pv 25) pa_nil)) pa_nil)) (pe_callB (cr_reprR (K := K) rfl gd hr) (by rfl) T.b_repr bo_repr (pa_cons (pv 27) pa_nil)) (nomark _)) (pw_or1 (pt_cmpR (op_neR (K := K) rfl hr) (pe_callB (cr_reprR (K := K) rfl gd hr) (by rfl) T.b_repr bo_repr (pa_cons (pv 25) pa_nil)) (pv 28) (nomark _))))) (pss_one (ps_ret pe_bl)) pss_nil))))))
    (pss_one (ps_if (pt_cmpR (op_neR (K := K) rfl hr) (pe_callB (cr_reprR (K := K) rfl gd hr) (by rfl) T.b_repr bo_repr (pa_cons (pv 5) pa_nil)) (pv 7) (nomark _)) (pss_one (ps_ret pe_bl)) pss_nil))))))))))))))))))))))))
    (pss_one (ps_ret (pe_cmpR (op_eqR (K := K) rfl hr) (pe_g c_room_span hr gd (by decide) (by rfl) (pa_cons (pe_tup (pa_cons (pe_tup (pa_cons pe_int (pa_cons pe_int (pa_cons pe_int pa_nil)))) (pa_cons (pe_tup (pa_cons pe_int (pa_cons pe_int (pa_cons pe_int pa_nil)))) pa_nil))) (pa_cons (pe_tup (pa_cons pe_int (pa_cons pe_int pa_nil))) pa_nil))) pe_int (nomark _))))))), ?_⟩
  refine spl_useV W_law h V_law fun rt h ns hn hb => ?_
  unfold W_law at h
  refine sw_open rfl hn hb (fun o e => e.1) fun p q => law_rt ?_
  refine sw_seq (sw_asgV (v := [(encU ()), (PyData.bool true), (PyData.int (0 : Int)), (PyData.int (1 : Int)), (PyData.int (-1 : Int)), (PyData.str ("0" : Str)), ((tM PyData.int) ([] : (List Int))), ((p1 PyData.int) (1 : Int)), ((p3 PyData.int PyData.int PyData.int) ((1 : Int), (1 : Int), (0 : Int))), ((p3 PyData.int PyData.int PyData.int) ((1 : Int), (1 : Int), (1 : Int))), ((lM PyData.int) [(1 : Int), (1 : Int), (1 : Int)]), (PyData.int (100000000000000000000 : Int))]) (lM DL.encD) (ev_frzM (ev_lstM DL.encD [(encU ()), (PyData.bool true), (PyData.int (0 : Int)), (PyData.int (1 : Int)), (PyData.int (-1 : Int)), (PyData.str ("0" : Str)), ((tM PyData.int) ([] : (List Int))), ((p1 PyData.int) (1 : Int)), ((p3 PyData.int PyData.int PyData.int) ((1 : Int), (1 : Int), (0 : Int))), ((p3 PyData.int PyData.int PyData.int) ((1 : Int), (1 : Int), (1 : Int))), ((lM PyData.int) [(1 : Int), (1 : Int), (1 : Int)]), (PyData.int (100000000000000000000 : Int))] (ea_cons ev_non (ea_cons ev_bl (ea_cons ev_int (ea_cons ev_int (ea_cons (ev_un ev_int r1_neg) (ea_cons ev_str (ea_cons (ev_tupM PyData.int [] ea_nil rfl) (ea_cons (ev_tup (ea_cons ev_int ea_nil)) (ea_cons (ev_tup (ea_cons ev_int (ea_cons ev_int (ea_cons ev_int ea_nil)))) (ea_cons (ev_tup (ea_cons ev_int (ea_cons ev_int (ea_cons ev_int ea_nil)))) (ea_cons (ev_frzM (ev_lstM PyData.int [(1 : Int), (1 : Int), (1 : Int)] (ea_cons ev_int (ea_cons ev_int (ea_cons ev_int ea_nil))) rfl)) (ea_cons (ev_is (ev_op ev_int ev_int (r2_pow (by decide) (by decide) (by decide))) (congrArg (fun z => O.d (PyData.int z)) (show (10 : Int) ^ Int.toNat 20 = 100000000000000000000 by decide +kernel))) ea_nil)))))))))))) rfl)) fun odd e_1 => ?_)
  replace h := h odd e_1
  refine sw_seq (sw_vfor (body := (fun xx ss N B => wl1_law odd xx ss N rt)) (Kf := (fun ss => wr1_law ss rt)) (xs := (List.range 5)) (fun i : Nat => PyData.int (i : Int)) (fun ss : Unit => [none, some .src, some (.d ((lM DL.encD) odd)), none, none, none, none, none, none, none, none, none, none, none, none, none, none, none, none, none, none, none, none, none, none, none, none, none, none]) () (ei_range (ea_cons ev_int ea_nil) (by decide)) (by first | ((repeat (first | exact Le.nil | apply Le.keep | apply Le.drop)); done) | (refine Le.trans ?_ le; repeat (first | exact Le.nil | apply Le.keep | apply Le.drop))) h (fun xi si N_ h => ⟨_, _, gt_name, ?_⟩) (fun si ρ1 h le => ?_))
  · unfold wl1_law at h
    revert h; revert xi si; intro x s h
    obtain ⟨h_3, h⟩ := h
    refine sw_seq (sw_asgNV PyData.int (en_pick (j := 1) rfl ev_int h_3) fun n e_4 => ?_)
    replace h := h n e_4
    obtain ⟨h_5, h⟩ := h
    refine sw_seq (sw_asgNV (tM (p3 PyData.int PyData.int PyData.int)) (en_callV (enc := (tM (p3 PyData.int PyData.int PyData.int))) n (j := 1) rfl (ea_cons (ev_var rfl) ea_nil) h_5) fun jobs e_6 => ?_)
    replace h := h jobs e_6
    obtain ⟨h_7, h_8, h_9, h⟩ := h
    refine sw_seq (sw_par2Z (ez_n (f := (tM PyData.int)) (en_tuple (en_mixV true (j := 1) rfl (ev_frzM (ev_lstRgV (ev_var rfl) h_7.1 h_7.2)) h_8))) (ez_p (fun v : Str => .d (PyData.str v)) (v := ((tM (p3 PyData.int PyData.int PyData.int)) jobs).shown) (ev_repr (m := 2) (ev_var rfl) ((shd_tM (shd_p3 (shd_int (n := 0)) (shd_int (n := 0)) (shd_int (n := 0)))) jobs) (by decide) h_9 (by decide))) fun order kept e_10 e_11 => ?_)
    replace h := h order kept e_10 e_11
    obtain ⟨h_12, h_13, h⟩ := h
    refine sw_seq (sw_tup2Z (ez_p (fun v : (List (List Int)) => .d ((lM (lM PyData.int)) v)) (v := (F__law_ends jobs [order, order, order])) (ev_call (jobs, [order, order, order]) (ea_cons (ev_var rfl) (ea_cons (ev_tupM (tM PyData.int) [order, order, order] (ea_cons (ev_var rfl) (ea_cons (ev_var rfl) (ea_cons (ev_var rfl) ea_nil))) rfl) ea_nil)) h_12)) (ez_p (fun v : Int => .d (PyData.int v)) (v := (F__law_span jobs order)) (ev_call (jobs, order) (ea_cons (ev_var rfl) (ea_cons (ev_var rfl) ea_nil)) h_13)) fun ends span e_14 e_15 => ?_)
    replace h := h ends span e_14 e_15
    obtain ⟨h_16, h_19, h_20, h_21, h_22, h_23, h_24, h⟩ := h
    refine sw_seq (sw_asgV (v := (List.map (fun x17 : Nat => ((gi (gi ends (0 : Int)) (x17 : Int)), (gi (gi ends (1 : Int)) (x17 : Int)), (gi (gi ends (2 : Int)) (x17 : Int)))) (List.range n.toNat))) (tM (p3 PyData.int PyData.int PyData.int)) (ev_cb (ea_cons (ev_frzM (ev_lcM (p3 PyData.int PyData.int PyData.int) (List.range n.toNat) (fun i : Nat => PyData.int (i : Int)) (fun x17 : Nat => ((gi (gi ends (0 : Int)) (x17 : Int)), (gi (gi ends (1 : Int)) (x17 : Int)), (gi (gi ends (2 : Int)) (x17 : Int)))) (ei_rngV (ea_cons (ev_var rfl) ea_nil) h_16.1 h_16.2) fun x17 hx18 => ⟨_, _, gt_name, by simp, (ev_tup (ea_cons (ev_op (ev_op (ev_var rfl) ev_int (r2_ixLM (by decide) (Int.ofNat_lt.mpr (h_19 x17 hx18)))) (ev_var rfl) (r2_ixLM (h_20 x17 hx18).1 (h_20 x17 hx18).2)) (ea_cons (ev_op (ev_op (ev_var rfl) ev_int (r2_ixLM (by decide) (Int.ofNat_lt.mpr (h_21 x17 hx18)))) (ev_var rfl) (r2_ixLM (h_22 x17 hx18).1 (h_22 x17 hx18).2)) (ea_cons (ev_op (ev_op (ev_var rfl) ev_int (r2_ixLM (by decide) (Int.ofNat_lt.mpr (h_23 x17 hx18)))) (ev_var rfl) (r2_ixLM (h_24 x17 hx18).1 (h_24 x17 hx18).2)) ea_nil))))⟩)) ea_nil) rc_tupleLM) fun due e_25 => ?_)
    replace h := h due e_25
    obtain ⟨h_26, h_27, h_28, h_29, ht31, hf32⟩ := h
    refine sw_seq (sw_if (et_test (ev_op (ev_repr (m := 3) (ev_frzL (ds := [(tM (tM PyData.int)) (F_room_ends jobs order), PyData.int (F_room_span jobs order)]) (ev_lst (ea_cons (ev_call (jobs, order) (ea_cons (ev_var rfl) (ea_cons (ev_var rfl) ea_nil)) h_26) (ea_cons (ev_call (jobs, order) (ea_cons (ev_var rfl) (ea_cons (ev_var rfl) ea_nil)) h_27) ea_nil)))) ((shd_y2 (shd_tM (shd_tM (shd_int (n := 0)))) (shd_int (n := 2))) ((F_room_ends jobs order), (F_room_span jobs order))) (by decide) h_28 (by decide)) (ev_repr (m := 3) (ev_frzL (ds := [(tM (p3 PyData.int PyData.int PyData.int)) due, PyData.int span]) (ev_lst (ea_cons (ev_var rfl) (ea_cons (ev_var rfl) ea_nil)))) ((shd_y2 (shd_tM (shd_p3 (shd_int (n := 0)) (shd_int (n := 0)) (shd_int (n := 0)))) (shd_int (n := 2))) (due, span)) (by decide) h_29 (by decide)) r2_neS)) (fun hb30 => ?_) (fun hb30 => sw_next ?_))
    · have h := ht31 hb30
      exact sw_ret ev_bl ⟨false, rfl, h⟩
    · have h := hf32 hb30
      obtain ⟨ht34, hf35⟩ := h
      refine sw_join (fun ss : Unit => [none, some .src, some (.d ((lM DL.encD) odd)), none, some (.d (PyData.int n)), some (.d ((tM (p3 PyData.int PyData.int PyData.int)) jobs)), some (.d ((tM PyData.int) order)), some (.d (PyData.str kept)), none, some (.d (PyData.int span)), none, none, none, none, none, none, none, none, none, none, none, none, none, none, none, none, none, none, none]) (fun ss => wj2_law odd n jobs order kept span ss N_ rt) (sw_if (et_test (ev_op (ev_var rfl) ev_int r2_gtI)) (fun hb33 => ?_) (fun hb33 => ?_)) (fun si h => ?_)
      · have h := ht34 hb33
        obtain ⟨h_179, h⟩ := h
        refine sw_seq (sw_asgV (v := (F__law_way jobs order)) (encQ (p3 PyData.int PyData.int PyData.int)) (ev_call (jobs, order) (ea_cons (ev_var rfl) (ea_cons (ev_var rfl) ea_nil)) h_179) fun way e_180 => ?_)
        replace h := h way e_180
        obtain ⟨h_181, h_182, h_183, h_185, ht188, hf189⟩ := h
        refine sw_if (et_or (et_test (ev_op (ev_repr (m := 1) (ev_call (jobs, order) (ea_cons (ev_var rfl) (ea_cons (ev_var rfl) ea_nil)) h_181) ((shd_p3 (shd_int (n := 0)) (shd_int (n := 0)) (shd_int (n := 0))) (F_greatest_way jobs order)) (by decide) h_182 (by decide)) (ev_repr (m := 1) (ev_var rfl) ((shd_Q (shd_p3 (shd_int (n := 0)) (shd_int (n := 0)) (shd_int (n := 0)))) way) (by decide) h_183 (by decide)) r2_neS)) fun hb184 => (et_test (ev_op (ev_op (ev_qv (ev_var rfl) (h_185 hb184)) ev_int (r2_ixT rfl)) (ev_var rfl) r2_neI))) (fun hb187 => ?_) (fun hb187 => sw_next ?_)
        · have h := ht188 hb187
          exact sw_ret ev_bl ⟨false, rfl, h⟩
        · have h := hf189 hb187
          exact ⟨(), h, (by first | ((repeat (first | exact Le.nil | apply Le.keep | apply Le.drop)); done) | (refine Le.trans ?_ le; repeat (first | exact Le.nil | apply Le.keep | apply Le.drop)))⟩
      · have h := hf35 hb33
        refine sw_next ?_
        exact ⟨(), h, (by first | ((repeat (first | exact Le.nil | apply Le.keep | apply Le.drop)); done) | (refine Le.trans ?_ le; repeat (first | exact Le.nil | apply Le.keep | apply Le.drop)))⟩
      · unfold wj2_law at h
        revert h; revert si; intro s h
        obtain ⟨h_36, h⟩ := h
        refine sw_seq (sw_asgV (v := (F__law_wide jobs order)) PyData.int (ev_call (jobs, order) (ea_cons (ev_var rfl) (ea_cons (ev_var rfl) ea_nil)) h_36) fun wide e_37 => ?_)
        replace h := h wide e_37
        obtain ⟨h_38, h_39, h_40, ht44, hf45⟩ := h
        refine sw_seq (sw_if (et_or (et_test (ev_op (ev_reprI (ev_call (jobs, order) (ea_cons (ev_var rfl) (ea_cons (ev_var rfl) ea_nil)) h_38) h_39) (ev_reprI (ev_var rfl) h_40) r2_neS)) fun hb41 => (et_test (ev_op (ev_var rfl) (ev_var rfl) r2_gtI))) (fun hb43 => ?_) (fun hb43 => sw_next ?_))
        · have h := ht44 hb43
          exact sw_ret ev_bl ⟨false, rfl, h⟩
        · have h := hf45 hb43
          obtain ⟨h_48, h_49, h⟩ := h
          refine sw_seq (sw_asgNV (tM (tM PyData.int)) (en_tuple (en_lcM (tM PyData.int) (fun (x46 : Nat) y => y.Perm (List.map (fun i : Nat => (i : Int)) (List.range n.toNat))) (List.range 3) (fun i : Nat => PyData.int (i : Int)) (ei_range (ea_cons ev_int ea_nil) (by decide)) fun x46 hx47 => ⟨_, _, gt_name, by simp, (en_tuple (en_mixV true (j := 1) rfl (ev_frzM (ev_lstRgV (ev_var rfl) (h_48 x46 hx47).1 (h_48 x46 hx47).2)) (h_49 x46 hx47)))⟩)) fun orders e_50 => ?_)
          replace h := h orders e_50
          obtain ⟨h_51, h_52, h_53, h_54, h_55, h_56, h_57, ht59, hf60⟩ := h
          refine sw_seq (sw_if (et_test (ev_op (ev_reprI (ev_call (jobs, orders) (ea_cons (ev_var rfl) (ea_cons (ev_var rfl) ea_nil)) h_51) h_52) (ev_reprI (ev_cb (ea_cons (ev_frzM (ev_op (ev_op (ev_call (jobs, orders) (ea_cons (ev_var rfl) (ea_cons (ev_var rfl) ea_nil)) h_53) ev_int (r2_ixLM (by decide) (Int.ofNat_lt.mpr h_54))) (ev_frzM (ev_lstM PyData.int [(0 : Int)] (ea_cons ev_int ea_nil) rfl)) (r2_addLM (le_sz h_55)))) ea_nil) (rc_maxL h_56)) h_57) r2_neS)) (fun hb58 => ?_) (fun hb58 => sw_next ?_))
          · have h := ht59 hb58
            exact sw_ret ev_bl ⟨false, rfl, h⟩
          · have h := hf60 hb58
            refine sw_seq (sw_asgV (v := (List.map (fun x61 : (Int × Int × Int) => (x61.2.2, x61.2.1, x61.1)) jobs)) (tM (p3 PyData.int PyData.int PyData.int)) (ev_cb (ea_cons (ev_frzM (ev_lcM (p3 PyData.int PyData.int PyData.int) jobs (p3 PyData.int PyData.int PyData.int) (fun x61 : (Int × Int × Int) => (x61.2.2, x61.2.1, x61.1)) (ei_tup (ev_var rfl)) fun x61 hx62 => ⟨_, _, (gt_tup (gs_cons gt_name (gs_cons gt_name (gs_cons gt_name gs_nil))) rfl), by simp, (ev_tup (ea_cons (ev_var rfl) (ea_cons (ev_var rfl) (ea_cons (ev_var rfl) ea_nil))))⟩)) ea_nil) rc_tupleLM) fun back e_63 => ?_)
            replace h := h back e_63
            obtain ⟨h_64, h_65, h_66, h_68, ht71, hf72⟩ := h
            refine sw_seq (sw_if (et_or (et_test (ev_op (ev_repr (m := 2) (ev_call jobs (ea_cons (ev_var rfl) ea_nil) h_64) ((shd_tM (shd_p3 (shd_int (n := 0)) (shd_int (n := 0)) (shd_int (n := 0)))) (F_turned_rooms jobs)) (by decide) h_65 (by decide)) (ev_repr (m := 2) (ev_var rfl) ((shd_tM (shd_p3 (shd_int (n := 0)) (shd_int (n := 0)) (shd_int (n := 0)))) back) (by decide) h_66 (by decide)) r2_neS)) fun hb67 => (et_test (ev_op (ev_call (back, order.reverse) (ea_cons (ev_var rfl) (ea_cons (ev_revTM (ev_var rfl)) ea_nil)) (h_68 hb67)) (ev_var rfl) r2_neI))) (fun hb70 => ?_) (fun hb70 => sw_next ?_))
            · have h := ht71 hb70
              exact sw_ret ev_bl ⟨false, rfl, h⟩
            · have h := hf72 hb70
              obtain ⟨h_73, ht75, hf76⟩ := h
              refine sw_seq (sw_if (et_test (ev_op (ev_call (back, order.reverse) (ea_cons (ev_var rfl) (ea_cons (ev_revTM (ev_var rfl)) ea_nil)) h_73) (ev_var rfl) r2_neI)) (fun hb74 => ?_) (fun hb74 => sw_next ?_))
              · have h := ht75 hb74
                exact sw_ret ev_bl ⟨false, rfl, h⟩
              · have h := hf76 hb74
                obtain ⟨h_77, h⟩ := h
                refine sw_seq (sw_asgNV PyData.int (en_pick (j := 1) rfl ev_int h_77) fun more e_78 => ?_)
                replace h := h more e_78
                refine sw_seq (sw_asgV (v := (List.map (fun x79 : (Int × Int × Int) => (x79.1, (x79.2.1 + more), x79.2.2)) jobs)) (tM (p3 PyData.int PyData.int PyData.int)) (ev_cb (ea_cons (ev_frzM (ev_lcM (p3 PyData.int PyData.int PyData.int) jobs (p3 PyData.int PyData.int PyData.int) (fun x79 : (Int × Int × Int) => (x79.1, (x79.2.1 + more), x79.2.2)) (ei_tup (ev_var rfl)) fun x79 hx80 => ⟨_, _, (gt_tup (gs_cons gt_name (gs_cons gt_name (gs_cons gt_name gs_nil))) rfl), by simp, (ev_tup (ea_cons (ev_var rfl) (ea_cons (ev_op (ev_var rfl) (ev_var rfl) r2_addI) (ea_cons (ev_var rfl) ea_nil))))⟩)) ea_nil) rc_tupleLM) fun late e_81 => ?_)
                replace h := h late e_81
                obtain ⟨h_82, h_83, h_84, h_86, h_87, ht90, hf91⟩ := h
                refine sw_seq (sw_if (et_or (et_test (ev_op (ev_repr (m := 2) (ev_call (jobs, more) (ea_cons (ev_var rfl) (ea_cons (ev_var rfl) ea_nil)) h_82) ((shd_tM (shd_p3 (shd_int (n := 0)) (shd_int (n := 0)) (shd_int (n := 0)))) (F_with_middle jobs more)) (by decide) h_83 (by decide)) (ev_repr (m := 2) (ev_var rfl) ((shd_tM (shd_p3 (shd_int (n := 0)) (shd_int (n := 0)) (shd_int (n := 0)))) late) (by decide) h_84 (by decide)) r2_neS)) fun hb85 => (et_test (ev_op (ev_call (late, order) (ea_cons (ev_var rfl) (ea_cons (ev_var rfl) ea_nil)) (h_86 hb85)) (ev_op (ev_var rfl) (ev_op (ev_var rfl) (ev_cb (ea_cons (ev_op (ev_var rfl) ev_int r2_gtI) ea_nil) rc_intB) (r2_mulI (h_87 hb85))) r2_addI) r2_neI))) (fun hb89 => ?_) (fun hb89 => sw_next ?_))
                · have h := ht90 hb89
                  exact sw_ret ev_bl ⟨false, rfl, h⟩
                · have h := hf91 hb89
                  obtain ⟨h_93, h_95, ht98, hf99⟩ := h
                  refine sw_seq (sw_if (et_and (et_test (ev_op (ev_var rfl) ev_int r2_gtI)) fun hb92 => (et_not (et_test (ev_chain (ev_op (ev_var rfl) (ev_var rfl) r2_addI) (ev_call (late, order) (ea_cons (ev_var rfl) (ea_cons (ev_var rfl) ea_nil)) (h_93 hb92)) r2_leI (fun hb94 => (ev_op (ev_var rfl) (ev_op (ev_var rfl) (ev_var rfl) (r2_mulI (h_95 hb92 hb94))) r2_addI)) (fun hb94 => r2_leI))))) (fun hb97 => ?_) (fun hb97 => sw_next ?_))
                  · have h := ht98 hb97
                    exact sw_ret ev_bl ⟨false, rfl, h⟩
                  · have h := hf99 hb97
                    obtain ⟨ht101, hf102⟩ := h
                    refine sw_join (fun ss : Unit => [none, some .src, some (.d ((lM DL.encD) odd)), none, none, some (.d ((tM (p3 PyData.int PyData.int PyData.int)) jobs)), none, some (.d (PyData.str kept)), none, none, none, none, none, none, none, none, none, none, none, none, none, none, none, none, none, none, none, none, none]) (fun ss => wj3_law odd jobs kept ss N_ rt) (sw_if (et_test (ev_op (ev_var rfl) ev_int r2_gtI)) (fun hb100 => ?_) (fun hb100 => ?_)) (fun si h => ?_)
                    · have h := ht101 hb100
                      obtain ⟨h_154, h_155, h⟩ := h
                      refine sw_seq (sw_par2Z (ez_n (f := PyData.int) (en_pick (j := 1) rfl (ev_var rfl) h_154)) (ez_n (f := PyData.int) (en_pick (j := 1) rfl ev_int h_155)) fun x2 room e_156 e_157 => ?_)
                      replace h := h x2 room e_156 e_157
                      refine sw_seq (sw_asgLL (v := (List.map (fun x158 : (Int × Int × Int) => [x158.1, x158.2.1, x158.2.2]) jobs)) PyData.int (ev_lcMO PyData.int jobs (p3 PyData.int PyData.int PyData.int) (fun x158 : (Int × Int × Int) => [x158.1, x158.2.1, x158.2.2]) (ei_tup (ev_var rfl)) fun x158 hx159 => ⟨_, _, gt_name, by simp, (ev_cb (ea_cons (ev_asP3 (ev_var rfl)) ea_nil) rc_listTM)⟩) fun longer e_160 => ?_)
                      replace h := h longer e_160
                      obtain ⟨h_161, h_162, h_163, h⟩ := h
                      refine sw_seq (sw_setVVN (i := 23) PyData.int rfl (en_op2P (h := PyData.int) (R := fun y => ∃ b164, ((0 ≤ b164 ∧ (b164 < (5 : Int) ∨ b164 = 0))) ∧ y = (((gi (gi longer x2) room) + (1 : Int)) + b164)) (ev_op (ev_borMM 23 rfl (bor_d imd_int) (ev_op (ev_op (ev_var rfl) (ev_var rfl) (r2_ixLM h_161.1 h_161.2)) (ev_var rfl) (r2_ixLM h_162.1 h_162.2))) ev_int r2_addI) (en_pick (j := 1) rfl ev_int h_163) fun b164 hb165 => ⟨_, r2_addI, b164, hb165, rfl⟩) (ev_var rfl) (ev_var rfl) h_161.1 h_161.2 h_162.1 h_162.2 fun y e_166 longer2 e_167 => ?_)
                      replace h := h y e_166 longer2 e_167
                      obtain ⟨h_170, h⟩ := h
                      refine sw_seq (sw_asgV (v := (List.map (fun y_ : (List Int) => (gi y_ (0 : Int), gi y_ (1 : Int), gi y_ (2 : Int))) (List.map (fun x168 : (List Int) => x168) longer2))) (tM (p3 PyData.int PyData.int PyData.int)) (ev_toMP3 (ev_cb (ea_cons (ev_frzM (ev_borMM 23 rfl (bor_l (imd_tM imd_int)) (ev_lcM (tM PyData.int) longer2 (lM PyData.int) (fun x168 : (List Int) => x168) (ei_list (ev_var rfl)) fun x168 hx169 => ⟨_, _, gt_name, by simp, (ev_cb (ea_cons (ev_var rfl) ea_nil) rc_tupleLM)⟩))) ea_nil) rc_tupleLM) h_170) fun longer3 e_171 => ?_)
                      replace h := h longer3 e_171
                      obtain ⟨h_172, h_174, ht177, hf178⟩ := h
                      refine sw_if (et_or (et_test (ev_op (ev_call (longer3, order) (ea_cons (ev_var rfl) (ea_cons (ev_var rfl) ea_nil)) h_172) (ev_var rfl) r2_ltI)) fun hb173 => (et_test (ev_op (ev_call (longer3, order) (ea_cons (ev_var rfl) (ea_cons (ev_var rfl) ea_nil)) (h_174 hb173)) (ev_var rfl) r2_ltI))) (fun hb176 => ?_) (fun hb176 => sw_next ?_)
                      · have h := ht177 hb176
                        exact sw_ret ev_bl ⟨false, rfl, h⟩
                      · have h := hf178 hb176
                        exact ⟨(), h, (by first | ((repeat (first | exact Le.nil | apply Le.keep | apply Le.drop)); done) | (refine Le.trans ?_ le; repeat (first | exact Le.nil | apply Le.keep | apply Le.drop)))⟩
                    · have h := hf102 hb100
                      refine sw_next ?_
                      exact ⟨(), h, (by first | ((repeat (first | exact Le.nil | apply Le.keep | apply Le.drop)); done) | (refine Le.trans ?_ le; repeat (first | exact Le.nil | apply Le.keep | apply Le.drop)))⟩
                    · unfold wj3_law at h
                      revert h; revert si; intro s h
                      obtain ⟨h_103, h_104, h⟩ := h
                      refine sw_seq (sw_asgV (v := [((tM (p3 PyData.int PyData.int PyData.int)) jobs), ((lM (p3 PyData.int PyData.int PyData.int)) jobs), ((tM (p3 PyData.int PyData.int PyData.int)) (jobs ++ [((1 : Int), (1 : Int), (0 : Int))])), ((tM (p3 PyData.int PyData.int PyData.int)) (jobs ++ [((1 : Int), (1 : Int), (1 : Int))])), (encU ()), (PyData.int (0 : Int)), ((p3 PyData.int PyData.int PyData.int) ((1 : Int), (1 : Int), (1 : Int)))]) (lM DL.encD) (ev_frzM (ev_lstM DL.encD [((tM (p3 PyData.int PyData.int PyData.int)) jobs), ((lM (p3 PyData.int PyData.int PyData.int)) jobs), ((tM (p3 PyData.int PyData.int PyData.int)) (jobs ++ [((1 : Int), (1 : Int), (0 : Int))])), ((tM (p3 PyData.int PyData.int PyData.int)) (jobs ++ [((1 : Int), (1 : Int), (1 : Int))])), (encU ()), (PyData.int (0 : Int)), ((p3 PyData.int PyData.int PyData.int) ((1 : Int), (1 : Int), (1 : Int)))] (ea_cons (ev_var rfl) (ea_cons (ev_frzM (ev_cb (ea_cons (ev_var rfl) ea_nil) rc_listTM)) (ea_cons (ev_op (ev_var rfl) (ev_tupM (p3 PyData.int PyData.int PyData.int) [((1 : Int), (1 : Int), (0 : Int))] (ea_cons (ev_tup (ea_cons ev_int (ea_cons ev_int (ea_cons ev_int ea_nil)))) ea_nil) rfl) (r2_addM (le_sz h_103))) (ea_cons (ev_op (ev_var rfl) (ev_tupM (p3 PyData.int PyData.int PyData.int) [((1 : Int), (1 : Int), (1 : Int))] (ea_cons (ev_tup (ea_cons ev_int (ea_cons ev_int (ea_cons ev_int ea_nil)))) ea_nil) rfl) (r2_addM (le_sz h_104))) (ea_cons ev_non (ea_cons ev_int (ea_cons (ev_tup (ea_cons ev_int (ea_cons ev_int (ea_cons ev_int ea_nil)))) ea_nil))))))) rfl)) fun values e_105 => ?_)
                      replace h := h values e_105
                      obtain ⟨h_108, h_111, h_114, h⟩ := h
                      refine sw_seq (sw_vforN (body := (fun xx ss N B => wl4_law odd jobs kept xx ss N rt)) (Kf := (fun ss => wr4_law odd jobs kept ss N_ rt)) DL.encD (fun ss : Unit => [none, some .src, some (.d ((lM DL.encD) odd)), none, none, some (.d ((tM (p3 PyData.int PyData.int PyData.int)) jobs)), none, some (.d (PyData.str kept)), none, none, none, none, none, none, none, none, none, none, none, none, none, none, none, none, none, none, none, none, none]) () (ein_list (en_op2LP (h := DL.encD) (R := fun y => ∃ b112, ((All2 (fun (x109 : Nat) y => Po__law_near ((tM (p3 PyData.int PyData.int PyData.int)) jobs) odd y) (List.range 6) b112)) ∧ y = (values ++ b112)) (ev_var rfl) (en_lcM DL.encD (fun (x109 : Nat) y => Po__law_near ((tM (p3 PyData.int PyData.int PyData.int)) jobs) odd y) (List.range 6) (fun i : Nat => PyData.int (i : Int)) (ei_range (ea_cons ev_int ea_nil) (by decide)) fun x109 hx110 => ⟨_, _, gt_name, by simp, (en_callV (enc := DL.encD) (((tM (p3 PyData.int PyData.int PyData.int)) jobs), odd) (j := 1) rfl (ea_cons (ev_var rfl) (ea_cons (ev_var rfl) ea_nil)) (h_111 x109 hx110))⟩) fun b112 hb113 => ⟨_, (r2_addLM (le_sz (h_114 b112 hb113))), b112, hb113, rfl⟩)) (by first | ((repeat (first | exact Le.nil | apply Le.keep | apply Le.drop)); done) | (refine Le.trans ?_ le; repeat (first | exact Le.nil | apply Le.keep | apply Le.drop))) h (fun xi si N_2 h => ⟨_, _, gt_name, ?_⟩) (fun si ρ1 h le => ?_))
                      · unfold wl4_law at h
                        revert h; revert xi si; intro x s h
                        obtain ⟨h_119, h⟩ := h
                        refine sw_seq (sw_asgV (v := (isB "tuple" x)) PyData.bool (ev_isi (ev_var rfl) h_119) fun fits e_120 => ?_)
                        replace h := h fits e_120
                        obtain ⟨h_122, h⟩ := h
                        refine sw_seq (sw_vfor (body := (fun xx ss N B => wl5_law odd jobs kept x xx ss N)) (Kf := (fun ss => wr5_law odd jobs kept x ss N_2 rt)) (xs := (if fits = true then (dTup x) else ([] : (List D)))) DL.encD (fun ss : Bool => [none, some .src, some (.d ((lM DL.encD) odd)), none, none, some (.d ((tM (p3 PyData.int PyData.int PyData.int)) jobs)), none, some (.d (PyData.str kept)), none, none, none, none, none, none, none, none, none, none, none, none, none, none, none, none, none, some (.d (DL.encD x)), none, some (.d (PyData.bool ss)), none]) fits (ei_list (ev_frzM (ev_ifO DL.encD (et_tB (ev_var rfl)) (fun hb121 => (ev_cb (ea_cons (ev_as (d2 := (tM DL.encD) (dTup x)) (h_122 hb121) (ev_var rfl)) ea_nil) rc_listTM)) (fun hb121 => (ev_lst0 DL.encD))))) (by first | ((repeat (first | exact Le.nil | apply Le.keep | apply Le.drop)); done) | (refine Le.trans ?_ le; repeat (first | exact Le.nil | apply Le.keep | apply Le.drop))) h (fun xi si N_3 h => ⟨_, _, gt_name, ?_⟩) (fun si ρ1 h le => ?_))
                        · unfold wl5_law at h
                          generalize x = value at h ⊢
                          revert h; revert xi si; intro x s h
                          obtain ⟨h_137, h_139, h⟩ := h
                          refine sw_seq (sw_asgV (v := (s && ((isB "tuple" x) && (decide (((dTup x).length : Int) = (3 : Int)))))) PyData.bool (ev_andV (ev_var rfl) fun hb136 => (ev_andV (ev_isi (ev_var rfl) (h_137 hb136)) fun hb138 => (ev_op (ev_cb (ea_cons (ev_var rfl) ea_nil) (rc_lenD (h_139 hb136 hb138))) ev_int r2_eqI))) fun fits e_140 => ?_)
                          replace h := h fits e_140
                          obtain ⟨h_142, h_145, h_147, h_149, h_152, h⟩ := h
                          refine sw_asgV (v := (fits && (List.isEmpty (List.map (fun x143 : D => x143) (List.filter (fun x143 : D => ((!(isB "int" x143)) || ((isB "bool" x143) || (decide (dInt x143 < (1 : Int)))))) (dTup x)))))) PyData.bool (ev_andV (ev_var rfl) fun hb141 => (ev_op (ev_frzM (ev_lcF DL.encD (dTup x) (fun d : D => d) (fun x143 : D => ((!(isB "int" x143)) || ((isB "bool" x143) || (decide (dInt x143 < (1 : Int)))))) (fun x143 : D => x143) (ei_D (ev_var rfl) (h_142 hb141)) fun x143 hx144 => ⟨_, _, gt_name, by simp, (et_or (et_not (et_tB (ev_isi (ev_var rfl) (h_145 hb141 x143 hx144)))) fun hb146 => (et_or (et_tB (ev_isi (ev_var rfl) (h_147 hb141 x143 hx144 hb146))) fun hb148 => (et_test (ev_op (ev_var rfl) ev_int (r2_ltD (h_149 hb141 x143 hx144 hb146 hb148)))))), fun hc151 => (ev_var rfl)⟩)) (ev_frzM (ev_lst0 DL.encD)) (r2_eqEL (h_152 hb141)))) fun fits2 e_153 => ?_
                          replace h := h fits2 e_153
                          exact ⟨fits2, h, (by first | ((repeat (first | exact Le.nil | apply Le.keep | apply Le.drop)); done) | (refine Le.trans ?_ le; repeat (first | exact Le.nil | apply Le.keep | apply Le.drop)))⟩
                        · refine sw_le le ?_
                          clear le
                          unfold wr5_law at h
                          generalize x = value at h ⊢
                          revert h; revert si; intro s h
                          obtain ⟨h_123, h_124, h⟩ := h
                          refine sw_seq (sw_asgV (v := (PyData.shown value)) PyData.str (ev_repr (m := 40) (ev_var rfl) h_123 (by decide) h_124 (by decide)) fun shown e_125 => ?_)
                          replace h := h shown e_125
                          obtain ⟨h_126, h_127, h_128, h_130, h_131, ht134, hf135⟩ := h
                          refine sw_if (et_or (et_test (ev_op (ev_repr (m := 0) (ev_call value (ea_cons (ev_var rfl) ea_nil) h_126) ((shd_bool (n := 0)) (F_are_room_jobs value)) (by decide) h_127 (by decide)) (ev_repr (m := 0) (ev_var rfl) ((shd_bool (n := 0)) s) (by decide) h_128 (by decide)) r2_neS)) fun hb129 => (et_test (ev_op (ev_repr (m := 40) (ev_var rfl) (h_130 hb129) (by decide) (h_131 hb129) (by decide)) (ev_var rfl) r2_neS))) (fun hb133 => ?_) (fun hb133 => sw_next ?_)
                          · have h := ht134 hb133
                            exact sw_ret ev_bl ⟨false, rfl, h⟩
                          · have h := hf135 hb133
                            exact ⟨(), h, (by first | ((repeat (first | exact Le.nil | apply Le.keep | apply Le.drop)); done) | (refine Le.trans ?_ le; repeat (first | exact Le.nil | apply Le.keep | apply Le.drop)))⟩
                      · refine sw_le le ?_
                        clear le
                        unfold wr4_law at h
                        revert h; revert si; intro s h
                        obtain ⟨h_115, ht117, hf118⟩ := h
                        refine sw_if (et_test (ev_op (ev_repr (m := 2) (ev_var rfl) ((shd_tM (shd_p3 (shd_int (n := 0)) (shd_int (n := 0)) (shd_int (n := 0)))) jobs) (by decide) h_115 (by decide)) (ev_var rfl) r2_neS)) (fun hb116 => ?_) (fun hb116 => sw_next ?_)
                        · have h := ht117 hb116
                          exact sw_ret ev_bl ⟨false, rfl, h⟩
                        · have h := hf118 hb116
                          exact ⟨(), h, (by first | ((repeat (first | exact Le.nil | apply Le.keep | apply Le.drop)); done) | (refine Le.trans ?_ le; repeat (first | exact Le.nil | apply Le.keep | apply Le.drop)))⟩
  · refine sw_le le ?_
    clear le
    unfold wr1_law at h
    revert h; revert si; intro s h
    obtain ⟨h_2, h⟩ := h
    exact sw_ret (ev_op (ev_call ([((3 : Int), (2 : Int), (4 : Int)), ((5 : Int), (1 : Int), (3 : Int))], [(1 : Int), (0 : Int)]) (ea_cons (ev_tupM (p3 PyData.int PyData.int PyData.int) [((3 : Int), (2 : Int), (4 : Int)), ((5 : Int), (1 : Int), (3 : Int))] (ea_cons (ev_tup (ea_cons ev_int (ea_cons ev_int (ea_cons ev_int ea_nil)))) (ea_cons (ev_tup (ea_cons ev_int (ea_cons ev_int (ea_cons ev_int ea_nil)))) ea_nil)) rfl) (ea_cons (ev_tupM PyData.int [(1 : Int), (0 : Int)] (ea_cons ev_int (ea_cons ev_int ea_nil)) rfl) ea_nil)) h_2) ev_int r2_eqI) ⟨(decide ((F_room_span [((3 : Int), (2 : Int), (4 : Int)), ((5 : Int), (1 : Int), (3 : Int))] [(1 : Int), (0 : Int)]) = (14 : Int))), rfl, h⟩
end
end K86

set_option Elab.async false
set_option linter.all false
set_option maxRecDepth 100000
set_option maxHeartbeats 4000000
namespace K86
open PySem PySem.Spec PyProof.Rows L2 DL
/-! ### what the top has written, the row -/
theorem all_mk {l : PySem.W.OpenLaw} {w : World} {K : PySem.W.Frag} {h : Heap} {mg : Str → Option Value} {fa f1 f2 f3 f4 f5 f6 f7 f8 f9 f10 f11 f12 f13 f14 f15 f16 f17 f18 f19 f20 f21 f22 f23 f24 : Addr} (X : K.In h) (G : h.Ns mainGlobals mg) (hfa : mg "law" = some (.ref fa))
    {od1 an1 od2 an2 od3 an3 od4 an4 od5 an5 od6 an6 od7 an7 od8 an8 od9 an9 od10 an10 od11 an11 od12 an12 od13 an13 od14 an14 od15 an15 od16 an16 od17 an17 od18 an18 od19 an19 od20 an20 od21 an21 od22 an22 od23 an23 od24 an24 : Option Addr} {sl1 sl2 sl3 sl4 sl5 sl6 sl7 sl8 sl9 sl10 sl11 sl12 sl13 sl14 sl15 sl16 sl17 sl18 sl19 sl20 sl21 sl22 sl23 sl24 : Array (Option Value)} {oc1 kV1 dc1 pm1 cd1 ct1 oc2 kV2 dc2 pm2 cd2 ct2 oc3 kV3 dc3 pm3 cd3 ct3 oc4 kV4 dc4 pm4 cd4 ct4 oc5 kV5 dc5 pm5 cd5 ct5 oc6 kV6 dc6 pm6 cd6 ct6 oc7 kV7 dc7 pm7 cd7 ct7 oc8 kV8 dc8 pm8 cd8 ct8 oc9 kV9 dc9 pm9 cd9 ct9 oc10 kV10 dc10 pm10 cd10 ct10 oc11 kV11 dc11 pm11 cd11 ct11 oc12 kV12 dc12 pm12 cd12 ct12 oc13 kV13 dc13 pm13 cd13 ct13 oc14 kV14 dc14 pm14 cd14 ct14 oc15 kV15 dc15 pm15 cd15 ct15 oc16 kV16 dc16 pm16 cd16 ct16 oc17 kV17 dc17 pm17 cd17 ct17 oc18 kV18 dc18 pm18 cd18 ct18 oc19 kV19 dc19 pm19 cd19 ct19 oc20 kV20 dc20 pm20 cd20 ct20 oc21 kV21 dc21 pm21 cd21 ct21 oc22 kV22 dc22 pm22 cd22 ct22 oc23 kV23 dc23 pm23 cd23 ct23 oc24 kV24 dc24 pm24 cd24 ct24 : Value}
    (a1 : PySem.W.nsIn K mainGlobals "is_number" = some (some (.ref f1))) (l1 : K.lookup f1 = some ⟨oc1, od1, .func (PySem.W.fnOf "is_number" "is_number" (defArgs s_is_number) (defBody s_is_number) (defScope s_is_number) .none kV1 dc1 pm1 an1 cd1 ct1), sl1⟩) (c1 : PySem.W.codeIn K cd1 "is_number" = true) (k1 : PySem.W.keepIn K (.ref f1) = true)
    (a2 : PySem.W.nsIn K mainGlobals "is_room_job" = some (some (.ref f2))) (l2 : K.lookup f2 = some ⟨oc2, od2, .func (PySem.W.fnOf "is_room_job" "is_room_job" (defArgs s_is_room_job) (defBody s_is_room_job) (defScope s_is_room_job) .none kV2 dc2 pm2 an2 cd2 ct2), sl2⟩) (c2 : PySem.W.codeIn K cd2 "is_room_job" = true) (k2 : PySem.W.keepIn K (.ref f2) = true)
    (a3 : PySem.W.nsIn K mainGlobals "are_room_jobs" = some (some (.ref f3))) (l3 : K.lookup f3 = some ⟨oc3, od3, .func (PySem.W.fnOf "are_room_jobs" "are_room_jobs" (defArgs s_are_room_jobs) (defBody s_are_room_jobs) (defScope s_are_room_jobs) .none kV3 dc3 pm3 an3 cd3 ct3), sl3⟩) (c3 : PySem.W.codeIn K cd3 "are_room_jobs" = true) (k3 : PySem.W.keepIn K (.ref f3) = true)
    (a4 : PySem.W.nsIn K mainGlobals "ends_in_room" = some (some (.ref f4))) (l4 : K.lookup f4 = some ⟨oc4, od4, .func (PySem.W.fnOf "ends_in_room" "ends_in_room" (defArgs s_ends_in_room) (defBody s_ends_in_room) (defScope s_ends_in_room) .none kV4 dc4 pm4 an4 cd4 ct4), sl4⟩) (c4 : PySem.W.codeIn K cd4 "ends_in_room" = true) (k4 : PySem.W.keepIn K (.ref f4) = true)
    (a5 : PySem.W.nsIn K mainGlobals "ends_by_rooms" = some (some (.ref f5))) (l5 : K.lookup f5 = some ⟨oc5, od5, .func (PySem.W.fnOf "ends_by_rooms" "ends_by_rooms" (defArgs s_ends_by_rooms) (defBody s_ends_by_rooms) (defScope s_ends_by_rooms) .none kV5 dc5 pm5 an5 cd5 ct5), sl5⟩) (c5 : PySem.W.codeIn K cd5 "ends_by_rooms" = true) (k5 : PySem.W.keepIn K (.ref f5) = true)
    (a6 : PySem.W.nsIn K mainGlobals "room_ends" = some (some (.ref f6))) (l6 : K.lookup f6 = some ⟨oc6, od6, .func (PySem.W.fnOf "room_ends" "room_ends" (defArgs s_room_ends) (defBody s_room_ends) (defScope s_room_ends) .none kV6 dc6 pm6 an6 cd6 ct6), sl6⟩) (c6 : PySem.W.codeIn K cd6 "room_ends" = true) (k6 : PySem.W.keepIn K (.ref f6) = true)
    (a7 : PySem.W.nsIn K mainGlobals "rooms_span" = some (some (.ref f7))) (l7 : K.lookup f7 = some ⟨oc7, od7, .func (PySem.W.fnOf "rooms_span" "rooms_span" (defArgs s_rooms_span) (defBody s_rooms_span) (defScope s_rooms_span) .none kV7 dc7 pm7 an7 cd7 ct7), sl7⟩) (c7 : PySem.W.codeIn K cd7 "rooms_span" = true) (k7 : PySem.W.keepIn K (.ref f7) = true)
    (a8 : PySem.W.nsIn K mainGlobals "room_span" = some (some (.ref f8))) (l8 : K.lookup f8 = some ⟨oc8, od8, .func (PySem.W.fnOf "room_span" "room_span" (defArgs s_room_span) (defBody s_room_span) (defScope s_room_span) .none kV8 dc8 pm8 an8 cd8 ct8), sl8⟩) (c8 : PySem.W.codeIn K cd8 "room_span" = true) (k8 : PySem.W.keepIn K (.ref f8) = true)
    (a9 : PySem.W.nsIn K mainGlobals "way_length" = some (some (.ref f9))) (l9 : K.lookup f9 = some ⟨oc9, od9, .func (PySem.W.fnOf "way_length" "way_length" (defArgs s_way_length) (defBody s_way_length) (defScope s_way_length) .none kV9 dc9 pm9 an9 cd9 ct9), sl9⟩) (c9 : PySem.W.codeIn K cd9 "way_length" = true) (k9 : PySem.W.keepIn K (.ref f9) = true)
    (a10 : PySem.W.nsIn K mainGlobals "greatest_way" = some (some (.ref f10))) (l10 : K.lookup f10 = some ⟨oc10, od10, .func (PySem.W.fnOf "greatest_way" "greatest_way" (defArgs s_greatest_way) (defBody s_greatest_way) (defScope s_greatest_way) .none kV10 dc10 pm10 an10 cd10 ct10), sl10⟩) (c10 : PySem.W.codeIn K cd10 "greatest_way" = true) (k10 : PySem.W.keepIn K (.ref f10) = true)
    (a11 : PySem.W.nsIn K mainGlobals "wide_span" = some (some (.ref f11))) (l11 : K.lookup f11 = some ⟨oc11, od11, .func (PySem.W.fnOf "wide_span" "wide_span" (defArgs s_wide_span) (defBody s_wide_span) (defScope s_wide_span) .none kV11 dc11 pm11 an11 cd11 ct11), sl11⟩) (c11 : PySem.W.codeIn K cd11 "wide_span" = true) (k11 : PySem.W.keepIn K (.ref f11) = true)
    (a12 : PySem.W.nsIn K mainGlobals "turned_rooms" = some (some (.ref f12))) (l12 : K.lookup f12 = some ⟨oc12, od12, .func (PySem.W.fnOf "turned_rooms" "turned_rooms" (defArgs s_turned_rooms) (defBody s_turned_rooms) (defScope s_turned_rooms) .none kV12 dc12 pm12 an12 cd12 ct12), sl12⟩) (c12 : PySem.W.codeIn K cd12 "turned_rooms" = true) (k12 : PySem.W.keepIn K (.ref f12) = true)
    (a13 : PySem.W.nsIn K mainGlobals "with_middle" = some (some (.ref f13))) (l13 : K.lookup f13 = some ⟨oc13, od13, .func (PySem.W.fnOf "with_middle" "with_middle" (defArgs s_with_middle) (defBody s_with_middle) (defScope s_with_middle) .none kV13 dc13 pm13 an13 cd13 ct13), sl13⟩) (c13 : PySem.W.codeIn K cd13 "with_middle" = true) (k13 : PySem.W.keepIn K (.ref f13) = true)
    (a14 : PySem.W.nsIn K mainGlobals "_law_source" = some (some (.ref f14))) (l14 : K.lookup f14 = some ⟨oc14, od14, .func (PySem.W.fnOf "_law_source" "_law_source" (defArgs s__law_source) (defBody s__law_source) (defScope s__law_source) .none kV14 dc14 pm14 an14 cd14 ct14), sl14⟩) (c14 : PySem.W.codeIn K cd14 "_law_source" = true) (k14 : PySem.W.keepIn K (.ref f14) = true)
    (a15 : PySem.W.nsIn K mainGlobals "_law_pick" = some (some (.ref f15))) (l15 : K.lookup f15 = some ⟨oc15, od15, .func (PySem.W.fnOf "_law_pick" "_law_pick" (defArgs s__law_pick) (defBody s__law_pick) (defScope s__law_pick) .none kV15 dc15 pm15 an15 cd15 ct15), sl15⟩) (c15 : PySem.W.codeIn K cd15 "_law_pick" = true) (k15 : PySem.W.keepIn K (.ref f15) = true)
    (a16 : PySem.W.nsIn K mainGlobals "_law_of" = some (some (.ref f16))) (l16 : K.lookup f16 = some ⟨oc16, od16, .func (PySem.W.fnOf "_law_of" "_law_of" (defArgs s__law_of) (defBody s__law_of) (defScope s__law_of) .none kV16 dc16 pm16 an16 cd16 ct16), sl16⟩) (c16 : PySem.W.codeIn K cd16 "_law_of" = true) (k16 : PySem.W.keepIn K (.ref f16) = true)
    (a17 : PySem.W.nsIn K mainGlobals "_law_mixed" = some (some (.ref f17))) (l17 : K.lookup f17 = some ⟨oc17, od17, .func (PySem.W.fnOf "_law_mixed" "_law_mixed" (defArgs s__law_mixed) (defBody s__law_mixed) (defScope s__law_mixed) .none kV17 dc17 pm17 an17 cd17 ct17), sl17⟩) (c17 : PySem.W.codeIn K cd17 "_law_mixed" = true) (k17 : PySem.W.keepIn K (.ref f17) = true)
    (a18 : PySem.W.nsIn K mainGlobals "_law_jobs" = some (some (.ref f18))) (l18 : K.lookup f18 = some ⟨oc18, od18, .func (PySem.W.fnOf "_law_jobs" "_law_jobs" (defArgs s__law_jobs) (defBody s__law_jobs) (defScope s__law_jobs) .none kV18 dc18 pm18 an18 cd18 ct18), sl18⟩) (c18 : PySem.W.codeIn K cd18 "_law_jobs" = true) (k18 : PySem.W.keepIn K (.ref f18) = true)
    (a19 : PySem.W.nsIn K mainGlobals "_law_ends" = some (some (.ref f19))) (l19 : K.lookup f19 = some ⟨oc19, od19, .func (PySem.W.fnOf "_law_ends" "_law_ends" (defArgs s__law_ends) (defBody s__law_ends) (defScope s__law_ends) .none kV19 dc19 pm19 an19 cd19 ct19), sl19⟩) (c19 : PySem.W.codeIn K cd19 "_law_ends" = true) (k19 : PySem.W.keepIn K (.ref f19) = true)
    (a20 : PySem.W.nsIn K mainGlobals "_law_span" = some (some (.ref f20))) (l20 : K.lookup f20 = some ⟨oc20, od20, .func (PySem.W.fnOf "_law_span" "_law_span" (defArgs s__law_span) (defBody s__law_span) (defScope s__law_span) .none kV20 dc20 pm20 an20 cd20 ct20), sl20⟩) (c20 : PySem.W.codeIn K cd20 "_law_span" = true) (k20 : PySem.W.keepIn K (.ref f20) = true)
    (a21 : PySem.W.nsIn K mainGlobals "_law_wide" = some (some (.ref f21))) (l21 : K.lookup f21 = some ⟨oc21, od21, .func (PySem.W.fnOf "_law_wide" "_law_wide" (defArgs s__law_wide) (defBody s__law_wide) (defScope s__law_wide) .none kV21 dc21 pm21 an21 cd21 ct21), sl21⟩) (c21 : PySem.W.codeIn K cd21 "_law_wide" = true) (k21 : PySem.W.keepIn K (.ref f21) = true)
    (a22 : PySem.W.nsIn K mainGlobals "_law_near" = some (some (.ref f22))) (l22 : K.lookup f22 = some ⟨oc22, od22, .func (PySem.W.fnOf "_law_near" "_law_near" (defArgs s__law_near) (defBody s__law_near) (defScope s__law_near) .none kV22 dc22 pm22 an22 cd22 ct22), sl22⟩) (c22 : PySem.W.codeIn K cd22 "_law_near" = true) (k22 : PySem.W.keepIn K (.ref f22) = true)
    (a23 : PySem.W.nsIn K mainGlobals "_law_way" = some (some (.ref f23))) (l23 : K.lookup f23 = some ⟨oc23, od23, .func (PySem.W.fnOf "_law_way" "_law_way" (defArgs s__law_way) (defBody s__law_way) (defScope s__law_way) .none kV23 dc23 pm23 an23 cd23 ct23), sl23⟩) (c23 : PySem.W.codeIn K cd23 "_law_way" = true) (k23 : PySem.W.keepIn K (.ref f23) = true)
    (a24 : PySem.W.nsIn K mainGlobals "law" = some (some (.ref f24))) (l24 : K.lookup f24 = some ⟨oc24, od24, .func (PySem.W.fnOf "law" "law" (defArgs s_law) (defBody s_law) (defScope s_law) .none kV24 dc24 pm24 an24 cd24 ct24), sl24⟩) (c24 : PySem.W.codeIn K cd24 "law" = true) (k24 : PySem.W.keepIn K (.ref f24) = true)
    (z_isinstance : PySem.W.nsIn K mainGlobals "isinstance" = some none) (z_int : PySem.W.nsIn K mainGlobals "int" = some none) (z_bool : PySem.W.nsIn K mainGlobals "bool" = some none) (z_all : PySem.W.nsIn K mainGlobals "all" = some none) (z_tuple : PySem.W.nsIn K mainGlobals "tuple" = some none) (z_len : PySem.W.nsIn K mainGlobals "len" = some none) (z_max : PySem.W.nsIn K mainGlobals "max" = some none) (z_enumerate : PySem.W.nsIn K mainGlobals "enumerate" = some none) (z_range : PySem.W.nsIn K mainGlobals "range" = some none) (z_list : PySem.W.nsIn K mainGlobals "list" = some none) (z_sum : PySem.W.nsIn K mainGlobals "sum" = some none) (z_min : PySem.W.nsIn K mainGlobals "min" = some none) (z_abs : PySem.W.nsIn K mainGlobals "abs" = some none) (z_repr : PySem.W.nsIn K mainGlobals "repr" = some none) :
    ∃ fd : FuncData, (∀ (s : Shared) (v : Value), BindsTo s fd ⟨[v], []⟩ [("script", v)]) ∧ ∀ base : Heap, K.In base → base.Ns mainGlobals mg → Gn l.prog w K mg base 16 fa fd ["script"] (sp_law K) := by
  have e := hfa.symm.trans (PySem.W.mg_of X G a24)
  cases e
  have T : Bl mg := ⟨PySem.W.mg_none_of X G z_isinstance, PySem.W.mg_none_of X G z_int, PySem.W.mg_none_of X G z_bool, PySem.W.mg_none_of X G z_all, PySem.W.mg_none_of X G z_tuple, PySem.W.mg_none_of X G z_len, PySem.W.mg_none_of X G z_max, PySem.W.mg_none_of X G z_enumerate, PySem.W.mg_none_of X G z_range, PySem.W.mg_none_of X G z_list, PySem.W.mg_none_of X G z_sum, PySem.W.mg_none_of X G z_min, PySem.W.mg_none_of X G z_abs, PySem.W.mg_none_of X G z_repr⟩
  have F1 := fun_mk (st := s_is_number) l1 c1 k1
  have F2 := fun_mk (st := s_is_room_job) l2 c2 k2
  have F3 := fun_mk (st := s_are_room_jobs) l3 c3 k3
  have F4 := fun_mk (st := s_ends_in_room) l4 c4 k4
  have F5 := fun_mk (st := s_ends_by_rooms) l5 c5 k5
  have F6 := fun_mk (st := s_room_ends) l6 c6 k6
  have F7 := fun_mk (st := s_rooms_span) l7 c7 k7
  have F8 := fun_mk (st := s_room_span) l8 c8 k8
  have F9 := fun_mk (st := s_way_length) l9 c9 k9
  have F10 := fun_mk (st := s_greatest_way) l10 c10 k10
  have F11 := fun_mk (st := s_wide_span) l11 c11 k11
  have F12 := fun_mk (st := s_turned_rooms) l12 c12 k12
  have F13 := fun_mk (st := s_with_middle) l13 c13 k13
  have F14 := fun_mk (st := s__law_source) l14 c14 k14
  have F15 := fun_mk (st := s__law_pick) l15 c15 k15
  have F16 := fun_mk (st := s__law_of) l16 c16 k16
  have F17 := fun_mk (st := s__law_mixed) l17 c17 k17
  have F18 := fun_mk (st := s__law_jobs) l18 c18 k18
  have F19 := fun_mk (st := s__law_ends) l19 c19 k19
  have F20 := fun_mk (st := s__law_span) l20 c20 k20
  have F21 := fun_mk (st := s__law_wide) l21 c21 k21
  have F22 := fun_mk (st := s__law_near) l22 c22 k22
  have F23 := fun_mk (st := s__law_way) l23 c23 k23
  have F24 := fun_mk (st := s_law) l24 c24 k24
  have b1 := F1.binds (ps := ["value"]) fun _ _ _ _ _ _ us hl => match us, hl with | [_], _ => rfl
  have b2 := F2.binds (ps := ["value"]) fun _ _ _ _ _ _ us hl => match us, hl with | [_], _ => rfl
  have b3 := F3.binds (ps := ["value"]) fun _ _ _ _ _ _ us hl => match us, hl with | [_], _ => rfl
  have b4 := F4.binds (ps := ["lengths", "order", "come"]) fun _ _ _ _ _ _ us hl => match us, hl with | [_, _, _], _ => rfl
  have b5 := F5.binds (ps := ["jobs", "orders"]) fun _ _ _ _ _ _ us hl => match us, hl with | [_, _], _ => rfl
  have b6 := F6.binds (ps := ["jobs", "order"]) fun _ _ _ _ _ _ us hl => match us, hl with | [_, _], _ => rfl
  have b7 := F7.binds (ps := ["jobs", "orders"]) fun _ _ _ _ _ _ us hl => match us, hl with | [_, _], _ => rfl
  have b8 := F8.binds (ps := ["jobs", "order"]) fun _ _ _ _ _ _ us hl => match us, hl with | [_, _], _ => rfl
  have b9 := F9.binds (ps := ["jobs", "order", "u", "v"]) fun _ _ _ _ _ _ us hl => match us, hl with | [_, _, _, _], _ => rfl
  have b10 := F10.binds (ps := ["jobs", "order"]) fun _ _ _ _ _ _ us hl => match us, hl with | [_, _], _ => rfl
  have b11 := F11.binds (ps := ["jobs", "order"]) fun _ _ _ _ _ _ us hl => match us, hl with | [_, _], _ => rfl
  have b12 := F12.binds (ps := ["jobs"]) fun _ _ _ _ _ _ us hl => match us, hl with | [_], _ => rfl
  have b13 := F13.binds (ps := ["jobs", "more"]) fun _ _ _ _ _ _ us hl => match us, hl with | [_, _], _ => rfl
  have b14 := F14.binds (ps := ["script"]) fun _ _ _ _ _ _ us hl => match us, hl with | [_], _ => rfl
  have b15 := F15.binds (ps := ["source", "many"]) fun _ _ _ _ _ _ us hl => match us, hl with | [_, _], _ => rfl
  have b16 := F16.binds (ps := ["source", "some"]) fun _ _ _ _ _ _ us hl => match us, hl with | [_, _], _ => rfl
  have b17 := F17.binds (ps := ["source", "things"]) fun _ _ _ _ _ _ us hl => match us, hl with | [_, _], _ => rfl
  have b18 := F18.binds (ps := ["source", "n"]) fun _ _ _ _ _ _ us hl => match us, hl with | [_, _], _ => rfl
  have b19 := F19.binds (ps := ["jobs", "orders"]) fun _ _ _ _ _ _ us hl => match us, hl with | [_, _], _ => rfl
  have b20 := F20.binds (ps := ["jobs", "order"]) fun _ _ _ _ _ _ us hl => match us, hl with | [_, _], _ => rfl
  have b21 := F21.binds (ps := ["jobs", "order"]) fun _ _ _ _ _ _ us hl => match us, hl with | [_, _], _ => rfl
  have b22 := F22.binds (ps := ["source", "value", "odd"]) fun _ _ _ _ _ _ us hl => match us, hl with | [_, _, _], _ => rfl
  have b23 := F23.binds (ps := ["jobs", "order"]) fun _ _ _ _ _ _ us hl => match us, hl with | [_, _], _ => rfl
  refine ⟨PySem.W.fnOf "law" "law" (defArgs s_law) (defBody s_law) (defScope s_law) .none kV24 dc24 pm24 an24 cd24 ct24, fun s v => .of_eq rfl, fun base _ _ => ?_⟩
  have C1 : Ca l.prog w K mg base 1 "is_number" (sp_is_number K) := ⟨f1, _, _, ok_is_number F1 T , PySem.W.mg_of X G a1, k1, b1⟩
  have C4 : Ca l.prog w K mg base 1 "ends_in_room" (sp_ends_in_room K) := ⟨f4, _, _, ok_ends_in_room F4 T , PySem.W.mg_of X G a4, k4, b4⟩
  have C9 : Ca l.prog w K mg base 1 "way_length" (sp_way_length K) := ⟨f9, _, _, ok_way_length F9 T , PySem.W.mg_of X G a9, k9, b9⟩
  have C12 : Ca l.prog w K mg base 1 "turned_rooms" (sp_turned_rooms K) := ⟨f12, _, _, ok_turned_rooms F12 T , PySem.W.mg_of X G a12, k12, b12⟩
  have C13 : Ca l.prog w K mg base 1 "with_middle" (sp_with_middle K) := ⟨f13, _, _, ok_with_middle F13 T , PySem.W.mg_of X G a13, k13, b13⟩
  have C14 : Ca l.prog w K mg base 1 "_law_source" (sp__law_source K) := ⟨f14, _, _, ok__law_source F14 T , PySem.W.mg_of X G a14, k14, b14⟩
  have C15 : Ca l.prog w K mg base 1 "_law_pick" (sp__law_pick K) := ⟨f15, _, _, ok__law_pick F15 T , PySem.W.mg_of X G a15, k15, b15⟩
  have C19 : Ca l.prog w K mg base 1 "_law_ends" (sp__law_ends K) := ⟨f19, _, _, ok__law_ends F19 T , PySem.W.mg_of X G a19, k19, b19⟩
  have C21 : Ca l.prog w K mg base 1 "_law_wide" (sp__law_wide K) := ⟨f21, _, _, ok__law_wide F21 T , PySem.W.mg_of X G a21, k21, b21⟩
  have C23 : Ca l.prog w K mg base 1 "_law_way" (sp__law_way K) := ⟨f23, _, _, ok__law_way F23 T , PySem.W.mg_of X G a23, k23, b23⟩
  have C2 : Ca l.prog w K mg base 2 "is_room_job" (sp_is_room_job K) := ⟨f2, _, _, ok_is_room_job F2 T C1, PySem.W.mg_of X G a2, k2, b2⟩
  have C5 : Ca l.prog w K mg base 2 "ends_by_rooms" (sp_ends_by_rooms K) := ⟨f5, _, _, ok_ends_by_rooms F5 T C4, PySem.W.mg_of X G a5, k5, b5⟩
  have C10 : Ca l.prog w K mg base 2 "greatest_way" (sp_greatest_way K) := ⟨f10, _, _, ok_greatest_way F10 T C9, PySem.W.mg_of X G a10, k10, b10⟩
  have C11 : Ca l.prog w K mg base 2 "wide_span" (sp_wide_span K) := ⟨f11, _, _, ok_wide_span F11 T C9, PySem.W.mg_of X G a11, k11, b11⟩
  have C16 : Ca l.prog w K mg base 2 "_law_of" (sp__law_of K) := ⟨f16, _, _, ok__law_of F16 T C15, PySem.W.mg_of X G a16, k16, b16⟩
  have C17 : Ca l.prog w K mg base 2 "_law_mixed" (sp__law_mixed K) := ⟨f17, _, _, ok__law_mixed F17 T C15, PySem.W.mg_of X G a17, k17, b17⟩
  have C18 : Ca l.prog w K mg base 2 "_law_jobs" (sp__law_jobs K) := ⟨f18, _, _, ok__law_jobs F18 T C15, PySem.W.mg_of X G a18, k18, b18⟩
  have C20 : Ca l.prog w K mg base 2 "_law_span" (sp__law_span K) := ⟨f20, _, _, ok__law_span F20 T C19, PySem.W.mg_of X G a20, k20, b20⟩
  have C3 : Ca l.prog w K mg base 3 "are_room_jobs" (sp_are_room_jobs K) := ⟨f3, _, _, ok_are_room_jobs F3 T C2, PySem.W.mg_of X G a3, k3, b3⟩
  have C6 : Ca l.prog w K mg base 3 "room_ends" (sp_room_ends K) := ⟨f6, _, _, ok_room_ends F6 T C5, PySem.W.mg_of X G a6, k6, b6⟩
  have C7 : Ca l.prog w K mg base 3 "rooms_span" (sp_rooms_span K) := ⟨f7, _, _, ok_rooms_span F7 T C5, PySem.W.mg_of X G a7, k7, b7⟩
  have C8 : Ca l.prog w K mg base 4 "room_span" (sp_room_span K) := ⟨f8, _, _, ok_room_span F8 T C7, PySem.W.mg_of X G a8, k8, b8⟩
  have C22 : Ca l.prog w K mg base 15 "_law_near" (sp__law_near K) := ⟨f22, _, _, ok__law_near F22 T C16 C15 (PySem.W.mg_of X G a22) k22 b22, PySem.W.mg_of X G a22, k22, b22⟩
  exact ok_law F24 T C14 C15 C18 C21 C8 C19 C20 C23 C11 C17 C7 C22 C6 C12 C13 C10 C3
theorem walk {l : PySem.W.OpenLaw} {q : Program} {loose : List Str} {XP : (Str → Option Value) → Heap → Prop} {YP : World → Heap → Prop} {d : DefRec} {K : Params → PySem.W.Frag} (hn : l.most = some 63) (hdf : d.params.defaults = []) (hY : ∀ (w : World) (h : Heap), YP w h → (K w.params).In h)
    (F : ∀ (w : World) (mg : Str → Option Value) (fa : Addr) (h : Heap), (K w.params).In h → h.Ns mainGlobals mg → mg d.name = some (.ref fa) →
      ∃ fd : FuncData, (∀ (s : Shared) (u : Value), BindsTo s fd ⟨[u], []⟩ [("script", u)]) ∧ ∀ base : Heap, (K w.params).In base → base.Ns mainGlobals mg → Gn l.prog w (K w.params) mg base 16 fa fd ["script"] (sp_law (K w.params))) :
    PySem.W.WalkO q loose XP YP l.row.toRowW d [] (fun f vs => PySem.call f vs) :=
  walk_g (n := 63) (k := 16) (x := "script") (sp := fun w => sp_law (K w.params)) hn (by rw [sizeLine_eq]; decide) hdf ⟨rfl, by decide, by decide⟩ hY F fun _ _ a ns hl hb _ hS => ⟨a, ns, rfl, hS, hl, hb, fun _ => rfl⟩
end K86
open PySem PySem.W PyProof.Rows in
set_option maxRecDepth 100000 in
set_option maxHeartbeats 0 in
theorem PySem.Challenge.cw_jobsinturn_k86_whole_spans_and_ways_holds : PySem.Challenge.rw_jobsinturn_k86_whole_spans_and_ways.Holds := by
  w_on; o_law; k_head; (case hw => w_witness2)
  k_fill
  refine K86.walk (l := PySem.Challenge.rw_jobsinturn_k86_whole_spans_and_ways) rfl rfl (fun w h Y => PySem.W.kIn_of Y) ?F
  case F =>
    intro w mg fa h KX G hmg
    refine' K86.all_mk KX G hmg ?a1 ?l1 ?c1 ?k1 ?a2 ?l2 ?c2 ?k2 ?a3 ?l3 ?c3 ?k3 ?a4 ?l4 ?c4 ?k4 ?a5 ?l5 ?c5 ?k5 ?a6 ?l6 ?c6 ?k6 ?a7 ?l7 ?c7 ?k7 ?a8 ?l8 ?c8 ?k8 ?a9 ?l9 ?c9 ?k9 ?a10 ?l10 ?c10 ?k10 ?a11 ?l11 ?c11 ?k11 ?a12 ?l12 ?c12 ?k12 ?a13 ?l13 ?c13 ?k13 ?a14 ?l14 ?c14 ?k14 ?a15 ?l15 ?c15 ?k15 ?a16 ?l16 ?c16 ?k16 ?a17 ?l17 ?c17 ?k17 ?a18 ?l18 ?c18 ?k18 ?a19 ?l19 ?c19 ?k19 ?a20 ?l20 ?c20 ?k20 ?a21 ?l21 ?c21 ?k21 ?a22 ?l22 ?c22 ?k22 ?a23 ?l23 ?c23 ?k23 ?a24 ?l24 ?c24 ?k24 ?z_isinstance ?z_int ?z_bool ?z_all ?z_tuple ?z_len ?z_max ?z_enumerate ?z_range ?z_list ?z_sum ?z_min ?z_abs ?z_repr
    (case a1 => k_is)
    (case l1 => k_is)
    (case c1 => k_is)
    (case k1 => k_is)
    (case a2 => k_is)
    (case l2 => k_is)
    (case c2 => k_is)
    (case k2 => k_is)
    (case a3 => k_is)
    (case l3 => k_is)
    (case c3 => k_is)
    (case k3 => k_is)
    (case a4 => k_is)
    (case l4 => k_is)
    (case c4 => k_is)
    (case k4 => k_is)
    (case a5 => k_is)
    (case l5 => k_is)
    (case c5 => k_is)
    (case k5 => k_is)
    (case a6 => k_is)
    (case l6 => k_is)
    (case c6 => k_is)
    (case k6 => k_is)
    (case a7 => k_is)
    (case l7 => k_is)
    (case c7 => k_is)
    (case k7 => k_is)
    (case a8 => k_is)
    (case l8 => k_is)
    (case c8 => k_is)
    (case k8 => k_is)
    (case a9 => k_is)
    (case l9 => k_is)
    (case c9 => k_is)
    (case k9 => k_is)
    (case a10 => k_is)
    (case l10 => k_is)
    (case c10 => k_is)
    (case k10 => k_is)
    (case a11 => k_is)
    (case l11 => k_is)
    (case c11 => k_is)
    (case k11 => k_is)
    (case a12 => k_is)
    (case l12 => k_is)
    (case c12 => k_is)
    (case k12 => k_is)
    (case a13 => k_is)
    (case l13 => k_is)
    (case c13 => k_is)
    (case k13 => k_is)
    (case a14 => k_is)
    (case l14 => k_is)
    (case c14 => k_is)
    (case k14 => k_is)
    (case a15 => k_is)
    (case l15 => k_is)
    (case c15 => k_is)
    (case k15 => k_is)
    (case a16 => k_is)
    (case l16 => k_is)
    (case c16 => k_is)
    (case k16 => k_is)
    (case a17 => k_is)
    (case l17 => k_is)
    (case c17 => k_is)
    (case k17 => k_is)
    (case a18 => k_is)
    (case l18 => k_is)
    (case c18 => k_is)
    (case k18 => k_is)
    (case a19 => k_is)
    (case l19 => k_is)
    (case c19 => k_is)
    (case k19 => k_is)
    (case a20 => k_is)
    (case l20 => k_is)
    (case c20 => k_is)
    (case k20 => k_is)
    (case a21 => k_is)
    (case l21 => k_is)
    (case c21 => k_is)
    (case k21 => k_is)
    (case a22 => k_is)
    (case l22 => k_is)
    (case c22 => k_is)
    (case k22 => k_is)
    (case a23 => k_is)
    (case l23 => k_is)
    (case c23 => k_is)
    (case k23 => k_is)
    (case a24 => k_is)
    (case l24 => k_is)
    (case c24 => k_is)
    (case k24 => k_is)
    (case z_isinstance => k_is)
    (case z_int => k_is)
    (case z_bool => k_is)
    (case z_all => k_is)
    (case z_tuple => k_is)
    (case z_len => k_is)
    (case z_max => k_is)
    (case z_enumerate => k_is)
    (case z_range => k_is)
    (case z_list => k_is)
    (case z_sum => k_is)
    (case z_min => k_is)
    (case z_abs => k_is)
    (case z_repr => k_is)
