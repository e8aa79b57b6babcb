import PyProof.Rows.All
import Wide.All
import OpenK.AllK
import Wide.FinOn
import PyProof.EqAt
import PyProof.EqKinds
import PyProof.TupleCall
import Open.SpecLaws
import KE.OsGo
import HandS.ForSpec
import HandS.Comp
import HandS.Iter
import HandS.Style
import HandS.Deep
import HandS.ExcInit
import HandS.ExcField
import PySem.Challenge.RW_layerbars_s06_covered_colours
set_option Elab.async false
set_option linter.all false
set_option maxRecDepth 100000
set_option maxHeartbeats 4000000
namespace LB
abbrev Sq := Nat × Nat
abbrev Br := Nat × Nat × Nat
/-- the squares of a bar -/
def sqOf (n : Nat) (b : Br) : List Sq := if b.2.2 = 1 then (List.range n).map (fun k => (b.1 + k, b.2.1)) else (List.range n).map fun k => (b.1, b.2.1 + k)
def inM (w h : Nat) (q : Sq) : Bool := decide (q.1 < w) && decide (q.2 < h)
def okSq (w h : Nat) (cov : List Sq) (q : Sq) : Bool := inM w h q && !decide (q ∈ cov)
def fitsM (w h n : Nat) (cov : List Sq) (b : Br) : Bool := (sqOf n b).all (okSq w h cov)
def coverM (w h n : Nat) : List Sq → List Br → Option (List Sq)
  | cov, [] => some cov
  | cov, b :: r => if fitsM w h n cov b = true then coverM w h n (cov ++ sqOf n b) r else none
def allSq (w h : Nat) : List Sq := Kbe4.allSquares w h
def firstM (w h : Nat) (cov : List Sq) : Option Sq := (allSq w h).find? fun q => !decide (q ∈ cov)
def remM (w h : Nat) (cov : List Sq) : List Sq := (allSq w h).filter fun q => !decide (q ∈ cov)
/-- the canonical filling; the first number only sees to an end -/
def comp (w h n : Nat) : Nat → List Sq → List Br → Option (List Br)
  | 0, _, _ => none
  | m + 1, cov, bars => match firstM w h cov with
    | none => some bars
    | some q =>
      match (if fitsM w h n cov (q.1, q.2, 1) = true then comp w h n m (cov ++ sqOf n (q.1, q.2, 1)) (bars ++ [(q.1, q.2, 1)]) else none) with
      | some r => some r
      | none => if fitsM w h n cov (q.1, q.2, 0) = true then comp w h n m (cov ++ sqOf n (q.1, q.2, 0)) (bars ++ [(q.1, q.2, 0)]) else none
def toBar (b : Br) : Kbe4.Bar := ⟨b.1, b.2.1, b.2.2 == 1⟩
def colM (n : Nat) (q : Sq) : Nat := (q.1 + q.2) % n
def cntM (n : Nat) (L : List Sq) (c : Nat) : Nat := (L.filter fun q => colM n q == c).length
def countsM (n : Nat) (L : List Sq) : List Nat := (List.range n).map (cntM n L)
def parseM : List Nat → Option (List Br)
  | [] => some []
  | x :: y :: d :: rest => if 7 < x ∨ 7 < y ∨ 1 < d then none else (parseM rest).map fun p => (x, y, d) :: p
  | _ => none
def sizeOk (x : Int) : Bool := decide (1 ≤ x) && decide (x ≤ 6)

/-! ### squares and bars -/
theorem sqOf_len (n : Nat) (b : Br) : (sqOf n b).length = n := by
  unfold sqOf
  split <;> simp
theorem covered_toBar (n : Nat) (b : Br) : Kbe4.coveredBy n (toBar b) = sqOf n b := by
  unfold Kbe4.coveredBy sqOf toBar
  by_cases c : b.2.2 = 1
  · rw [if_pos c]
    simp [c]
  · rw [if_neg c]
    simp [c]
theorem nodup_map {α β : Type} {f : α → β} (hf : ∀ a b, f a = f b → a = b) : ∀ {l : List α}, l.Nodup → (l.map f).Nodup
  | [], _ => by simp
  | a :: r, h => by
    rw [List.nodup_cons] at h
    rw [List.map_cons, List.nodup_cons]
    refine ⟨fun m => ?_, nodup_map hf h.2⟩
    obtain ⟨b, hb, e⟩ := List.mem_map.mp m
    exact h.1 (hf _ _ e ▸ hb)
theorem sqOf_nodup (n : Nat) (b : Br) : (sqOf n b).Nodup := by
  unfold sqOf
  split
  · exact nodup_map (fun a c e => by simpa using e) List.nodup_range
  · exact nodup_map (fun a c e => by simpa using e) List.nodup_range
theorem mem_sqOf_first {n : Nat} (hn : 0 < n) (x y d : Nat) : (x, y) ∈ sqOf n (x, y, d) := by
  unfold sqOf
  split
  · exact List.mem_map.mpr ⟨0, List.mem_range.mpr hn, rfl⟩
  · exact List.mem_map.mpr ⟨0, List.mem_range.mpr hn, rfl⟩
theorem mem_allSq {w h : Nat} {q : Sq} : q ∈ allSq w h ↔ q.1 < w ∧ q.2 < h := by
  obtain ⟨x, y⟩ := q
  unfold allSq Kbe4.allSquares
  constructor
  · intro m
    obtain ⟨y', hy, m⟩ := List.mem_flatMap.mp m
    obtain ⟨x', hx, e⟩ := List.mem_map.mp m
    cases e
    exact ⟨List.mem_range.mp hx, List.mem_range.mp hy⟩
  · intro ⟨hx, hy⟩
    exact List.mem_flatMap.mpr ⟨y, List.mem_range.mpr hy, List.mem_map.mpr ⟨x, List.mem_range.mpr hx, rfl⟩⟩
theorem inM_iff {w h : Nat} {q : Sq} : inM w h q = true ↔ q ∈ allSq w h := by
  rw [mem_allSq]
  simp [inM]
theorem okSq_iff {w h : Nat} {cov : List Sq} {q : Sq} : okSq w h cov q = true ↔ q ∈ remM w h cov := by
  unfold okSq remM
  rw [Bool.and_eq_true, inM_iff, List.mem_filter]
theorem fitsM_iff {w h n : Nat} {cov : List Sq} {b : Br} : fitsM w h n cov b = true ↔ ∀ q ∈ sqOf n b, q ∈ remM w h cov := by
  unfold fitsM
  rw [List.all_eq_true]
  exact ⟨fun f q m => okSq_iff.mp (f q m), fun f q m => okSq_iff.mpr (f q m)⟩
end LB
namespace LB
theorem find_congr {α : Type} {p q : α → Bool} : ∀ {l : List α}, (∀ a ∈ l, p a = q a) → l.find? p = l.find? q
  | [], _ => rfl
  | a :: r, h => by
    rw [List.find?_cons, List.find?_cons, h a List.mem_cons_self, find_congr fun b hb => h b (List.mem_cons_of_mem _ hb)]
theorem allSq_nil (w h : Nat) : remM w h [] = allSq w h := by
  unfold remM
  simp
theorem contains_iff {q : Sq} {L : List Sq} : L.contains q = decide (q ∈ L) := by
  simp
theorem remM_contains {w h : Nat} {cov : List Sq} {q : Sq} (m : q ∈ allSq w h) : (remM w h cov).contains q = !decide (q ∈ cov) := by
  have e : (q ∈ remM w h cov) ↔ ¬ q ∈ cov := by
    unfold remM
    rw [List.mem_filter]
    simp [m]
  rw [contains_iff]
  by_cases c : q ∈ cov
  · have : ¬ q ∈ remM w h cov := fun z => (e.mp z) c
    simp [c, this]
  · have : q ∈ remM w h cov := e.mpr c
    simp [c, this]
theorem firstM_spec (w h : Nat) (cov : List Sq) : ((Kbe4.allSquares w h).find? fun q => (remM w h cov).contains q) = firstM w h cov :=
  find_congr fun _ m => remM_contains m
theorem remM_step (w h : Nat) (cov sq : List Sq) : ((remM w h cov).filter fun q => !sq.contains q) = remM w h (cov ++ sq) := by
  unfold remM
  rw [List.filter_filter]
  refine List.filter_congr fun q _ => ?_
  simp
  by_cases a : q ∈ cov <;> by_cases b : q ∈ sq <;> simp [a, b]
theorem fits_spec (w h n : Nat) (cov : List Sq) (b : Br) : ((Kbe4.coveredBy n (toBar b)).all fun q => (remM w h cov).contains q) = fitsM w h n cov b := by
  rw [covered_toBar, Bool.eq_iff_iff, fitsM_iff, List.all_eq_true]
  simp
def fromBar (b : Kbe4.Bar) : Br := (b.x, b.y, if b.alongX then 1 else 0)
theorem comp_spec (w h n : Nat) : ∀ (m : Nat) (cov : List Sq) (bars : List Br), comp w h n m cov bars = (Kbe4.coverFree w h n m (remM w h cov)).map fun rest => bars ++ rest.map fromBar
  | 0, _, _ => rfl
  | m + 1, cov, bars => by
    unfold comp Kbe4.coverFree
    rw [firstM_spec]
    cases firstM w h cov with
    | none => simp
    | some q =>
      obtain ⟨x, y⟩ := q
      have e1 : (⟨x, y, true⟩ : Kbe4.Bar) = toBar (x, y, 1) := rfl
      have e0 : (⟨x, y, false⟩ : Kbe4.Bar) = toBar (x, y, 0) := rfl
      dsimp only
      rw [e1, e0, fits_spec, fits_spec, covered_toBar, covered_toBar, remM_step, remM_step, comp_spec w h n m (cov ++ sqOf n (x, y, 1)), comp_spec w h n m (cov ++ sqOf n (x, y, 0))]
      have f1 : fromBar (toBar (x, y, 1)) = (x, y, 1) := rfl
      have f0 : fromBar (toBar (x, y, 0)) = (x, y, 0) := rfl
      by_cases c1 : fitsM w h n cov (x, y, 1) = true
      · rw [if_pos c1, if_pos c1]
        cases Kbe4.coverFree w h n m (remM w h (cov ++ sqOf n (x, y, 1))) with
        | some r => simp [f1]
        | none =>
          by_cases c0 : fitsM w h n cov (x, y, 0) = true
          · rw [if_pos c0, if_pos c0]
            cases Kbe4.coverFree w h n m (remM w h (cov ++ sqOf n (x, y, 0))) with
            | some r => simp [f0]
            | none => simp
          · rw [if_neg c0, if_neg c0]
            simp
      · rw [if_neg c1, if_neg c1]
        by_cases c0 : fitsM w h n cov (x, y, 0) = true
        · rw [if_pos c0, if_pos c0]
          cases Kbe4.coverFree w h n m (remM w h (cov ++ sqOf n (x, y, 0))) with
          | some r => simp [f0]
          | none => simp
        · rw [if_neg c0, if_neg c0]
          simp
/-! ### counting -/
theorem filter_out {S : List Sq} : ∀ {L : List Sq}, L.Nodup → S.Nodup → (∀ q ∈ S, q ∈ L) → (L.filter fun q => !S.contains q).length + S.length = L.length := by
  induction S with
  | nil => intro L _ _ _; simp
  | cons s S ih =>
    intro L hL hS hm
    rw [List.nodup_cons] at hS
    have hs : s ∈ L := hm s List.mem_cons_self
    have hE : (L.erase s).Nodup := hL.erase s
    have h1 := ih (L := L.erase s) hE hS.2 fun q hq => (List.Nodup.mem_erase_iff hL).mpr ⟨fun e => hS.1 (e ▸ hq), hm q (List.mem_cons_of_mem _ hq)⟩
    have h2 : (L.filter fun q => !(s :: S).contains q) = (L.erase s).filter fun q => !S.contains q := by
      rw [List.Nodup.erase_eq_filter hL, List.filter_filter]
      refine List.filter_congr fun q _ => ?_
      by_cases a : q = s <;> simp [a]
    have h3 := List.length_erase_of_mem hs
    have h4 : 0 < L.length := List.length_pos_of_mem hs
    rw [h2, List.length_cons]
    omega
theorem allSq_nodup (w h : Nat) : (allSq w h).Nodup := by
  unfold allSq Kbe4.allSquares
  have e : (List.range h).Nodup := List.nodup_range
  revert e
  generalize List.range h = ys
  induction ys with
  | nil => intro _; simp
  | cons y r ih =>
    intro e
    rw [List.nodup_cons] at e
    rw [List.flatMap_cons, List.nodup_append]
    refine ⟨nodup_map (fun a b q => by simpa using q) List.nodup_range, ih e.2, fun a ha b hb q => ?_⟩
    subst q
    obtain ⟨x, _, rfl⟩ := List.mem_map.mp ha
    obtain ⟨y', hy', hb⟩ := List.mem_flatMap.mp hb
    obtain ⟨x', _, q⟩ := List.mem_map.mp hb
    have q2 : y' = y := congrArg Prod.snd q
    exact e.1 (q2 ▸ hy')
theorem allSq_len (w h : Nat) : (allSq w h).length = w * h := by
  unfold allSq Kbe4.allSquares
  have e : (List.range h).length = h := List.length_range
  rw [← e]
  rw [show (List.range (List.range h).length) = List.range h by rw [e]]
  generalize List.range h = ys
  induction ys with
  | nil => simp
  | cons y r ih =>
    rw [List.flatMap_cons, List.length_append, ih]
    simp [Nat.mul_add, Nat.add_comm]
theorem cover_len (w h n : Nat) : ∀ (m : Nat) (free : List Sq) (r : List Kbe4.Bar), free.Nodup → (∀ q ∈ free, q ∈ allSq w h) → Kbe4.coverFree w h n m free = some r → free.length = n * r.length
  | 0, _, _, _, _, e => by cases e
  | m + 1, free, r, hN, hI, e => by
    unfold Kbe4.coverFree at e
    cases q : (Kbe4.allSquares w h).find? (fun square => free.contains square) with
    | none =>
      rw [q] at e
      have e' : r = [] := by simpa using e.symm
      subst e'
      have z := List.find?_eq_none.mp q
      cases free with
      | nil => simp
      | cons a t => exact absurd (by simp) (z a (hI a List.mem_cons_self))
    | some sq =>
      rw [q] at e
      have att : ∀ (b : Kbe4.Bar) (r : List Kbe4.Bar), (if ((Kbe4.coveredBy n b).all fun covered => free.contains covered) = true
          then (Kbe4.coverFree w h n m (free.filter fun other => !(Kbe4.coveredBy n b).contains other)).map (fun rest => b :: rest) else none) = some r → free.length = n * r.length := by
        intro b r e
        split at e
        · rename_i c
          obtain ⟨rest, e1, e2⟩ := Option.map_eq_some_iff.mp e
          have sub : ∀ q ∈ Kbe4.coveredBy n b, q ∈ free := fun q hq => by
            have := List.all_eq_true.mp c q hq
            simpa using this
          have cl : (Kbe4.coveredBy n b).length = n := by
            unfold Kbe4.coveredBy
            simp
          have cn : (Kbe4.coveredBy n b).Nodup := by
            unfold Kbe4.coveredBy
            cases b.alongX
            · exact nodup_map (fun a c e => by simpa using e) List.nodup_range
            · exact nodup_map (fun a c e => by simpa using e) List.nodup_range
          have h1 := filter_out hN cn sub
          have h2 := cover_len w h n m _ rest (hN.filter _) (fun q hq => hI q (List.mem_filter.mp hq).1) e1
          subst e2
          rw [cl] at h1
          rw [List.length_cons, Nat.mul_add, Nat.mul_one, ← h2, h1]
        · cases e
      dsimp only at e
      split at e
      · rename_i bars e1
        cases e
        exact att _ _ e1
      · exact att _ _ e
/-- the specification's filling is the program's -/
theorem fill_spec {w h n : Nat} (hn : 0 < n) : (Kbe4.fill w h n).map (fun r => r.map fromBar) = comp w h n (w * h + 1) [] [] := by
  rw [comp_spec, allSq_nil]
  unfold Kbe4.fill
  by_cases c : n = 0 ∨ w * h % n ≠ 0
  · rw [if_pos c]
    cases e : Kbe4.coverFree w h n (w * h + 1) (allSq w h) with
    | none => rfl
    | some r =>
      have z := cover_len w h n _ _ r (allSq_nodup w h) (fun _ q => q) e
      rw [allSq_len] at z
      rcases c with c | c
      · omega
      · rw [z] at c
        exact absurd (Nat.mul_mod_right n r.length) c
  · rw [if_neg c]
    simp only [List.nil_append]
    rfl
/-- each bar takes a free square away -/
theorem rem_less {w h n : Nat} (hn : 0 < n) {cov : List Sq} {q : Sq} (hq : firstM w h cov = some q) (d : Nat) : (remM w h (cov ++ sqOf n (q.1, q.2, d))).length < (remM w h cov).length := by
  rw [← remM_step]
  have h1 := List.find?_some hq
  have h2 := List.mem_of_find?_eq_some hq
  have hm : q ∈ remM w h cov := List.mem_filter.mpr ⟨h2, h1⟩
  have hs : q ∈ sqOf n (q.1, q.2, d) := mem_sqOf_first hn q.1 q.2 d
  generalize remM w h cov = L at hm
  generalize sqOf n (q.1, q.2, d) = S at hs
  clear h1 h2 hq
  induction L with
  | nil => cases hm
  | cons a r ih =>
    rcases List.mem_cons.mp hm with e | m
    · subst e
      rw [List.filter_cons_of_neg (by simpa using hs), List.length_cons]
      exact Nat.lt_succ_of_le (List.length_filter_le _ _)
    · by_cases c : a ∈ S
      · rw [List.filter_cons_of_neg (by simpa using c), List.length_cons]
        exact Nat.lt_succ_of_lt (ih m)
      · rw [List.filter_cons_of_pos (by simpa using c), List.length_cons, List.length_cons]
        exact Nat.succ_lt_succ (ih m)
end LB
namespace LB
/-! ### arrangements -/
theorem zip_nodup (L : List Sq) : (L.zipIdx.all fun e => !(L.take e.2).contains e.1) = decide L.Nodup := by
  rw [Bool.eq_iff_iff, List.all_eq_true, decide_eq_true_iff]
  constructor
  · intro f
    refine List.pairwise_iff_getElem.mpr fun i j hi hj hij e => ?_
    have m : (L[j], j) ∈ L.zipIdx := List.mem_zipIdx_iff_getElem?.mpr (by simp)
    have z := f _ m
    have z2 : ¬ L[j] ∈ L.take j := by simpa using z
    exact z2 (List.mem_iff_getElem.mpr ⟨i, by rw [List.length_take]; omega, by rw [List.getElem_take]; exact e⟩)
  · intro f p m
    have e := List.mem_zipIdx_iff_getElem?.mp m
    obtain ⟨hj, e⟩ := List.getElem?_eq_some_iff.mp e
    have g := List.pairwise_iff_getElem.mp f
    have z : ¬ p.1 ∈ L.take p.2 := fun q => by
      obtain ⟨i, hi, e2⟩ := List.mem_iff_getElem.mp q
      rw [List.length_take] at hi
      rw [List.getElem_take] at e2
      exact g i p.2 (by omega) hj (by omega) (e2.trans e.symm)
    simpa using z
def Valid (w h : Nat) (L : List Sq) : Prop := (∀ q ∈ L, inM w h q = true) ∧ L.Nodup
def flat (n : Nat) (bars : List Br) : List Sq := bars.flatMap (sqOf n)
theorem flat_spec (n : Nat) (bars : List Br) : (bars.map toBar).flatMap (Kbe4.coveredBy n) = flat n bars := by
  unfold flat
  rw [List.flatMap_map]
  congr 1
  funext b
  exact covered_toBar n b
theorem flat_len (n : Nat) : ∀ bars : List Br, (flat n bars).length = bars.length * n
  | [] => by simp [flat]
  | b :: r => by
    have ih := flat_len n r
    unfold flat at ih ⊢
    rw [List.flatMap_cons, List.length_append, sqOf_len, ih, List.length_cons, Nat.add_mul, Nat.one_mul, Nat.add_comm]
theorem cover_or (w h n : Nat) : ∀ (bars : List Br) (cov : List Sq), Valid w h cov → (coverM w h n cov bars = some (cov ++ flat n bars) ∧ Valid w h (cov ++ flat n bars)) ∨ (coverM w h n cov bars = none ∧ ¬ Valid w h (cov ++ flat n bars))
  | [], cov, v => by
    left
    simp only [flat, List.flatMap_nil, List.append_nil]
    exact ⟨rfl, v⟩
  | b :: r, cov, v => by
    unfold coverM
    have ef : cov ++ flat n (b :: r) = (cov ++ sqOf n b) ++ flat n r := by
      unfold flat
      rw [List.flatMap_cons, List.append_assoc]
    rw [ef]
    by_cases c : fitsM w h n cov b = true
    · rw [if_pos c]
      have g := fitsM_iff.mp c
      have v2 : Valid w h (cov ++ sqOf n b) := by
        refine ⟨fun q m => ?_, List.nodup_append.mpr ⟨v.2, sqOf_nodup n b, fun a ha d hd e => ?_⟩⟩
        · rcases List.mem_append.mp m with m | m
          · exact v.1 q m
          · exact inM_iff.mpr (List.mem_filter.mp (g q m)).1
        · subst e
          have z := (List.mem_filter.mp (g a hd)).2
          simp [ha] at z
      exact cover_or w h n r (cov ++ sqOf n b) v2
    · rw [if_neg c]
      refine .inr ⟨rfl, fun v3 => c ?_⟩
      refine fitsM_iff.mpr fun q m => List.mem_filter.mpr ⟨inM_iff.mp (v3.1 q (by simp [m])), ?_⟩
      have d := List.nodup_append.mp v3.2
      have d2 := (List.nodup_append.mp d.1).2.2
      have z : ¬ q ∈ cov := fun hq => d2 q hq q m rfl
      simp [z]
theorem valid_spec (w h n : Nat) (bars : List Br) : (Kbe4.isValid w h n (bars.map toBar) = true) ↔ Valid w h (flat n bars) := by
  unfold Kbe4.isValid
  dsimp only
  rw [flat_spec, zip_nodup, Bool.and_eq_true, List.all_eq_true, decide_eq_true_iff]
  exact Iff.rfl
theorem cover_spec (w h n : Nat) (bars : List Br) : coverM w h n [] bars = if Kbe4.isValid w h n (bars.map toBar) = true then some (flat n bars) else none := by
  have v : Valid w h [] := ⟨fun _ m => absurd m (by simp), List.nodup_nil⟩
  rcases cover_or w h n bars [] v with ⟨e, g⟩ | ⟨e, g⟩
  · rw [List.nil_append] at e g
    rw [e, if_pos ((valid_spec w h n bars).mpr g)]
  · rw [List.nil_append] at g
    rw [e, if_neg fun z => g ((valid_spec w h n bars).mp z)]
/-! ### the list of bars -/
theorem parse_spec : ∀ ms : List Nat, Kbe4.parseBars ms = (parseM ms).map fun p => p.map toBar
  | [] => rfl
  | [_] => rfl
  | [_, _] => rfl
  | x :: y :: d :: rest => by
    unfold Kbe4.parseBars parseM
    by_cases c : 7 < x ∨ 7 < y ∨ 1 < d
    · rw [if_pos c, if_pos c]
      rfl
    · rw [if_neg c, if_neg c, parse_spec rest]
      cases parseM rest with
      | none => rfl
      | some p => rfl
theorem parse_len : ∀ (ms : List Nat) (p : List Br), parseM ms = some p → ms.length = 3 * p.length
  | [], p, e => by
    cases e
    rfl
  | [_], _, e => by cases e
  | [_, _], _, e => by cases e
  | x :: y :: d :: rest, p, e => by
    unfold parseM at e
    split at e
    · cases e
    · obtain ⟨r, e1, e2⟩ := Option.map_eq_some_iff.mp e
      have ih := parse_len rest r e1
      subst e2
      simp only [List.length_cons]
      omega
theorem parse_odd (ms : List Nat) (c : ms.length % 3 ≠ 0) : parseM ms = none := by
  cases e : parseM ms with
  | none => rfl
  | some p =>
    have z := parse_len ms p e
    omega
theorem drop3 {ms : List Nat} {i : Nat} (c : ms.length % 3 = 0) (hi : 3 * i < ms.length) : ∃ x y d, ms[3 * i]? = some x ∧ ms[3 * i + 1]? = some y ∧ ms[3 * i + 2]? = some d ∧ ms.drop (3 * i) = x :: y :: d :: ms.drop (3 * (i + 1)) := by
  have h1 : 3 * i + 1 < ms.length := by omega
  have h2 : 3 * i + 2 < ms.length := by omega
  refine ⟨ms[3 * i], ms[3 * i + 1], ms[3 * i + 2], by simp [hi], by simp [h1], by simp [h2], ?_⟩
  rw [List.drop_eq_getElem_cons hi, List.drop_eq_getElem_cons h1, List.drop_eq_getElem_cons h2]
  rfl
/-! ### colours -/
theorem counts_len (n : Nat) (L : List Sq) : (countsM n L).length = n := by
  unfold countsM
  simp
theorem counts_get {n : Nat} (L : List Sq) {c : Nat} (hc : c < n) : (countsM n L)[c]? = some (cntM n L c) := by
  unfold countsM
  simp [hc]
theorem counts_step {n : Nat} (hn : 0 < n) (L : List Sq) (q : Sq) : (countsM n L).set (colM n q) (cntM n L (colM n q) + 1) = countsM n (L ++ [q]) := by
  have hc : colM n q < n := Nat.mod_lt _ hn
  refine List.ext_getElem? fun i => ?_
  by_cases hi : i < n
  · rw [counts_get _ hi, List.getElem?_set]
    by_cases e : colM n q = i
    · rw [if_pos e, if_pos (by rw [counts_len]; exact hc)]
      unfold cntM
      rw [List.filter_append, List.length_append, ← e]
      simp
    · rw [if_neg e, counts_get _ hi]
      unfold cntM
      rw [List.filter_append, List.length_append]
      simp [e]
  · have a : (countsM n (L ++ [q]))[i]? = none := List.getElem?_eq_none (by rw [counts_len]; omega)
    rw [a]
    exact List.getElem?_eq_none (by rw [List.length_set, counts_len]; omega)
theorem counts_nil (n : Nat) : countsM n [] = List.replicate n 0 := by
  unfold countsM
  have e : cntM n [] = fun _ => 0 := by
    funext c
    rfl
  rw [e]
  refine List.ext_getElem? fun i => ?_
  by_cases hi : i < n <;> simp [hi]
theorem counts_spec (w h n : Nat) : Kbe4.colourCounts w h n = countsM n (allSq w h) := rfl
theorem cnt_le (n : Nat) (L : List Sq) (c : Nat) : cntM n L c ≤ L.length := List.length_filter_le _ _
theorem foldl_min : ∀ (l : List Nat) (a : Nat), (l.foldl min a ≤ a ∧ ∀ y ∈ l, l.foldl min a ≤ y) ∧ (l.foldl min a = a ∨ l.foldl min a ∈ l)
  | [], a => ⟨⟨Nat.le_refl _, fun _ m => nomatch m⟩, .inl rfl⟩
  | b :: r, a => by
    obtain ⟨⟨h1, h2⟩, h3⟩ := foldl_min r (min a b)
    rw [List.foldl_cons]
    refine ⟨⟨Nat.le_trans h1 (Nat.min_le_left _ _), fun y m => ?_⟩, ?_⟩
    · rcases List.mem_cons.mp m with e | m
      · rw [e]
        exact Nat.le_trans h1 (Nat.min_le_right _ _)
      · exact h2 y m
    · rcases h3 with h3 | h3
      · rw [h3]
        by_cases c : a ≤ b
        · exact .inl (Nat.min_eq_left c)
        · exact .inr (by rw [Nat.min_eq_right (by omega)]; exact List.mem_cons_self)
      · exact .inr (List.mem_cons_of_mem _ h3)
/-- the least of the counts -/
theorem bound_spec {w h n : Nat} (m : Nat) (hm : m ∈ countsM n (allSq w h)) (hle : ∀ y ∈ countsM n (allSq w h), m ≤ y) : Kbe4.colourBound w h n = m := by
  unfold Kbe4.colourBound
  rw [counts_spec]
  obtain ⟨⟨h1, h2⟩, h3⟩ := foldl_min (countsM n (allSq w h)) (w * h)
  have z := h2 m hm
  have mx : m ≤ w * h := by
    obtain ⟨c, _, e⟩ := List.mem_map.mp hm
    rw [← e, ← allSq_len w h]
    exact cnt_le n _ c
  rcases h3 with e | e
  · omega
  · have := hle _ e
    omega
def rowsM (a b n : Nat) : Nat := a / n * b + b / n * (a % n)
theorem rows_spec {w h n : Nat} (hn : 0 < n) : Kbe4.rowPacking w h n = if rowsM w h n < rowsM h w n then rowsM h w n else rowsM w h n := by
  unfold Kbe4.rowPacking rowsM
  rw [if_neg (by omega), Nat.max_def]
  split <;> split <;> omega
/-! ### the answers -/
theorem layer_ok {w h n : Int} (c : (sizeOk w && sizeOk h && sizeOk n) = true) : Kbe4.validLayer w.toNat h.toNat n.toNat = true := by
  simp only [sizeOk, Bool.and_eq_true, decide_eq_true_eq] at c
  simp only [Kbe4.validLayer, Bool.and_eq_true, decide_eq_true_eq]
  omega
theorem layer_bad {w h n : Int} (c : (sizeOk w && sizeOk h && sizeOk n) = false) : Kbe4.validLayer w.toNat h.toNat n.toNat = false := by
  cases e : Kbe4.validLayer w.toNat h.toNat n.toNat with
  | false => rfl
  | true =>
    simp only [Kbe4.validLayer, Bool.and_eq_true, decide_eq_true_eq] at e
    have : (sizeOk w && sizeOk h && sizeOk n) = true := by
      simp only [sizeOk, Bool.and_eq_true, decide_eq_true_eq]
      omega
    rw [c] at this
    cases this
def nInts (l : List Nat) : List Int := l.map fun (x : Nat) => (x : Int)
def barInts (b : Br) : List Int := [(b.1 : Int), (b.2.1 : Int), (b.2.2 : Int)]
def sqInts (q : Sq) : List Int := [(q.1 : Int), (q.2 : Int)]
def fillA (w h n : Nat) : List Int := match comp w h n (w * h + 1) [] [] with
  | some r => (r.length : Int) :: r.flatMap barInts
  | none => [-33]
def canA (w h n : Nat) : List Int := [if (comp w h n (w * h + 1) [] []).isSome = true then 1 else 0]
def countsA (w h n : Nat) : List Int := (n : Int) :: nInts (countsM n (allSq w h))
def boundsA (w h n : Nat) : List Int := [(Kbe4.colourBound w h n : Nat), (Kbe4.rowPacking w h n : Nat)]
def validA (w h n : Nat) (ms : List Nat) : List Int := match parseM ms with
  | none => [-22]
  | some bars => [if (coverM w h n [] bars).isSome = true then 1 else 0]
def coveredA (w h n : Nat) (ms : List Nat) : List Int := match parseM ms with
  | none => [-22]
  | some bars => match coverM w h n [] bars with
    | none => [-33]
    | some cov => (cov.length : Int) :: nInts (countsM n cov)
def freeA (w h n : Nat) (ms : List Nat) : List Int := match parseM ms with
  | none => [-22]
  | some bars => match coverM w h n [] bars with
    | none => [-33]
    | some cov => ((2 * (remM w h cov).length : Nat) : Int) :: (remM w h cov).flatMap sqInts
theorem from_ints : ∀ r : List Kbe4.Bar, (r.flatMap fun bar => [(bar.x : Int), (bar.y : Int), if bar.alongX then 1 else 0]) = (r.map fromBar).flatMap barInts
  | [] => rfl
  | b :: r => by
    rw [List.flatMap_cons, List.map_cons, List.flatMap_cons, from_ints r]
    congr 1
    unfold fromBar barInts
    cases b.alongX <;> rfl
theorem pos_of {n : Int} (c : sizeOk n = true) : 0 < n.toNat := by
  simp only [sizeOk, Bool.and_eq_true, decide_eq_true_eq] at c
  omega
theorem and3 {a b c : Bool} (e : (a && b && c) = true) : a = true ∧ b = true ∧ c = true := by
  rw [Bool.and_eq_true, Bool.and_eq_true] at e
  exact ⟨e.1.1, e.1.2, e.2⟩
theorem due_fill (w h n : Int) : PyKbe4.fill w h n = if (sizeOk w && sizeOk h && sizeOk n) = true then fillA w.toNat h.toNat n.toNat else [-22] := by
  show (Kbe4.respond (.fill w.toNat h.toNat n.toNat)).head :: (Kbe4.respond (.fill w.toNat h.toNat n.toNat)).tail = _
  cases c : (sizeOk w && sizeOk h && sizeOk n) with
  | false =>
    rw [if_neg (by simp)]
    simp [Kbe4.respond, layer_bad c, Kbe4.single, Kbe4.invalidArgument]
  | true =>
    rw [if_pos rfl]
    unfold fillA
    rw [← fill_spec (pos_of (and3 c).2.2)]
    unfold Kbe4.respond
    dsimp only
    rw [layer_ok c, if_neg (by simp)]
    cases Kbe4.fill w.toNat h.toNat n.toNat with
    | none => rfl
    | some r =>
      simp only [Option.map_some, List.length_map]
      rw [from_ints]
theorem due_can (w h n : Int) : PyKbe4.can_fill w h n = if (sizeOk w && sizeOk h && sizeOk n) = true then canA w.toNat h.toNat n.toNat else [-22] := by
  show (Kbe4.respond (.canFill w.toNat h.toNat n.toNat)).head :: (Kbe4.respond (.canFill w.toNat h.toNat n.toNat)).tail = _
  cases c : (sizeOk w && sizeOk h && sizeOk n) with
  | false =>
    rw [if_neg (by simp)]
    simp [Kbe4.respond, layer_bad c, Kbe4.single, Kbe4.invalidArgument]
  | true =>
    rw [if_pos rfl]
    unfold canA
    rw [← fill_spec (pos_of (and3 c).2.2)]
    unfold Kbe4.respond
    dsimp only
    rw [layer_ok c, if_neg (by simp)]
    cases Kbe4.fill w.toNat h.toNat n.toNat with
    | none => rfl
    | some r => rfl
theorem due_counts (w h n : Int) : PyKbe4.colour_counts w h n = if (sizeOk w && sizeOk h && sizeOk n) = true then countsA w.toNat h.toNat n.toNat else [-22] := by
  show (Kbe4.respond (.colourCounts w.toNat h.toNat n.toNat)).head :: (Kbe4.respond (.colourCounts w.toNat h.toNat n.toNat)).tail = _
  cases c : (sizeOk w && sizeOk h && sizeOk n) with
  | false =>
    rw [if_neg (by simp)]
    simp [Kbe4.respond, layer_bad c, Kbe4.single, Kbe4.invalidArgument]
  | true =>
    rw [if_pos rfl]
    unfold countsA Kbe4.respond
    dsimp only
    rw [layer_ok c, if_neg (by simp), counts_spec]
    show ((Kbe4.toInts (countsM n.toNat (allSq w.toNat h.toNat))).length : Int) :: Kbe4.toInts (countsM n.toNat (allSq w.toNat h.toNat)) = _
    unfold Kbe4.toInts
    rw [List.length_map, counts_len]
    rfl
theorem due_bounds (w h n : Int) : PyKbe4.bounds w h n = if (sizeOk w && sizeOk h && sizeOk n) = true then boundsA w.toNat h.toNat n.toNat else [-22] := by
  show (Kbe4.respond (.bounds w.toNat h.toNat n.toNat)).head :: (Kbe4.respond (.bounds w.toNat h.toNat n.toNat)).tail = _
  cases c : (sizeOk w && sizeOk h && sizeOk n) with
  | false =>
    rw [if_neg (by simp)]
    simp [Kbe4.respond, layer_bad c, Kbe4.single, Kbe4.invalidArgument]
  | true =>
    rw [if_pos rfl]
    unfold boundsA Kbe4.respond
    dsimp only
    rw [layer_ok c, if_neg (by simp)]
theorem due_valid (w h n : Int) (ms : List Nat) : PyKbe4.is_valid w h n (nInts ms) = if (sizeOk w && sizeOk h && sizeOk n) = true then validA w.toNat h.toNat n.toNat ms else [-22] := by
  have e : Kbe4Neutral.toNats (nInts ms) = ms := by
    unfold Kbe4Neutral.toNats nInts
    rw [List.map_map]
    exact (List.map_congr_left fun a _ => rfl).trans (List.map_id ms)
  show (Kbe4.respond (.isValid w.toNat h.toNat n.toNat (Kbe4Neutral.toNats (nInts ms)))).head :: (Kbe4.respond (.isValid w.toNat h.toNat n.toNat (Kbe4Neutral.toNats (nInts ms)))).tail = _
  rw [e]
  unfold Kbe4.respond Kbe4.withBars
  dsimp only
  cases c : (sizeOk w && sizeOk h && sizeOk n) with
  | false =>
    rw [layer_bad c, if_pos rfl]
    rfl
  | true =>
    rw [if_pos rfl, layer_ok c, if_neg (by simp), parse_spec]
    unfold validA
    cases parseM ms with
    | none => rfl
    | some bars =>
      dsimp only [Option.map_some]
      rw [cover_spec]
      cases Kbe4.isValid w.toNat h.toNat n.toNat (bars.map toBar) <;> rfl
theorem due_covered (w h n : Int) (ms : List Nat) : PyKbe4.covered_colours w h n (nInts ms) = if (sizeOk w && sizeOk h && sizeOk n) = true then coveredA w.toNat h.toNat n.toNat ms else [-22] := by
  have e : Kbe4Neutral.toNats (nInts ms) = ms := by
    unfold Kbe4Neutral.toNats nInts
    rw [List.map_map]
    exact (List.map_congr_left fun a _ => rfl).trans (List.map_id ms)
  show (Kbe4.respond (.coveredColours w.toNat h.toNat n.toNat (Kbe4Neutral.toNats (nInts ms)))).head :: (Kbe4.respond (.coveredColours w.toNat h.toNat n.toNat (Kbe4Neutral.toNats (nInts ms)))).tail = _
  rw [e]
  unfold Kbe4.respond Kbe4.withBars
  dsimp only
  cases c : (sizeOk w && sizeOk h && sizeOk n) with
  | false =>
    rw [layer_bad c, if_pos rfl]
    rfl
  | true =>
    rw [if_pos rfl, layer_ok c, if_neg (by simp), parse_spec]
    unfold coveredA
    cases parseM ms with
    | none => rfl
    | some bars =>
      dsimp only [Option.map_some]
      rw [cover_spec, flat_spec]
      cases Kbe4.isValid w.toNat h.toNat n.toNat (bars.map toBar) with
      | false => rfl
      | true =>
        simp only [if_true]
        rw [flat_len, List.length_map]
        unfold nInts countsM
        rw [List.map_map]
        rfl
theorem due_free (w h n : Int) (ms : List Nat) : PyKbe4.free_squares w h n (nInts ms) = if (sizeOk w && sizeOk h && sizeOk n) = true then freeA w.toNat h.toNat n.toNat ms else [-22] := by
  have e : Kbe4Neutral.toNats (nInts ms) = ms := by
    unfold Kbe4Neutral.toNats nInts
    rw [List.map_map]
    exact (List.map_congr_left fun a _ => rfl).trans (List.map_id ms)
  show (Kbe4.respond (.freeSquares w.toNat h.toNat n.toNat (Kbe4Neutral.toNats (nInts ms)))).head :: (Kbe4.respond (.freeSquares w.toNat h.toNat n.toNat (Kbe4Neutral.toNats (nInts ms)))).tail = _
  rw [e]
  unfold Kbe4.respond Kbe4.withBars
  dsimp only
  cases c : (sizeOk w && sizeOk h && sizeOk n) with
  | false =>
    rw [layer_bad c, if_pos rfl]
    rfl
  | true =>
    rw [if_pos rfl, layer_ok c, if_neg (by simp), parse_spec]
    unfold freeA
    cases parseM ms with
    | none => rfl
    | some bars =>
      dsimp only [Option.map_some]
      rw [cover_spec, flat_spec]
      cases Kbe4.isValid w.toNat h.toNat n.toNat (bars.map toBar) with
      | false => rfl
      | true =>
        simp only [if_true]
        have z : ((Kbe4.allSquares w.toNat h.toNat).filter fun square => !(flat n.toNat bars).contains square) = remM w.toNat h.toNat (flat n.toNat bars) := by
          unfold remM allSq
          refine List.filter_congr fun q _ => ?_
          simp
        rw [z, Nat.mul_comm]
        rfl
end LB
namespace LB
open PySem PySem.Spec PyProof.Rows L2
/-! ### data on the heap -/
inductive Al {α : Type} (R : V → α → Prop) : List V → List α → Prop
  | nil : Al R [] []
  | cons {v : V} {vs : List V} {a : α} {l : List α} : R v a → Al R vs l → Al R (v :: vs) (a :: l)
theorem Al.len {α : Type} {R : V → α → Prop} : ∀ {vs : List V} {l : List α}, Al R vs l → vs.length = l.length
  | _, _, .nil => rfl
  | _, _, .cons _ t => congrArg (· + 1) (Al.len t)
theorem Al.imp {α : Type} {R S : V → α → Prop} (f : ∀ v a, R v a → S v a) : ∀ {vs : List V} {l : List α}, Al R vs l → Al S vs l
  | _, _, .nil => .nil
  | _, _, .cons r t => .cons (f _ _ r) (Al.imp f t)
theorem Al.app {α : Type} {R : V → α → Prop} : ∀ {vs us : List V} {l m : List α}, Al R vs l → Al R us m → Al R (vs ++ us) (l ++ m)
  | _, _, _, _, .nil, s => s
  | _, _, _, _, .cons r t, s => .cons r (Al.app t s)
theorem Al.get {α : Type} {R : V → α → Prop} : ∀ {vs : List V} {l : List α} {i : Nat} {v : V}, Al R vs l → vs[i]? = some v → ∃ a, l[i]? = some a ∧ R v a
  | _, _, _, _, .nil, e => by simp at e
  | _, _, 0, _, .cons r _, e => by
    have e' := Option.some.inj (by simpa using e)
    subst e'
    exact ⟨_, rfl, r⟩
  | _, _, i + 1, v, .cons _ t, e => by
    obtain ⟨a, h1, h2⟩ := Al.get (i := i) (v := v) t (by simpa using e)
    exact ⟨a, by simpa using h1, h2⟩
/-- v is a tuple of xs -/
def TupIs (H : Hp) (xs : List V) (v : V) : Prop := ∃ t, v = .ref t ∧ H t = some (.tup xs)
/-- at p: a list of tuples -/
def TupL {α : Type} (f : α → List V) (H : Hp) (p : Addr) (L : List α) : Prop := ∃ vs, H p = some (.lst vs) ∧ Al (fun v a => TupIs H (f a) v) vs L
def sqV (q : Sq) : List V := [.int (q.1 : Nat), .int (q.2 : Nat)]
def brV (b : Br) : List V := [.int (b.1 : Nat), .int (b.2.1 : Nat), .int (b.2.2 : Nat)]
theorem TupIs.same {H H' : Hp} {xs : List V} {v : V} (s : Same H H') (x : TupIs H xs v) : TupIs H' xs v := by
  obtain ⟨t, e, h⟩ := x
  exact ⟨t, e, s _ _ h⟩
theorem TupIs.put {H : Hp} {p : Addr} {ys : List V} {o : HO} {xs : List V} {v : V} (hp : H p = some (.lst ys)) (x : TupIs H xs v) : TupIs (upd H p o) xs v := by
  obtain ⟨t, e, h⟩ := x
  exact ⟨t, e, by rw [upd_ne (ne_of h hp (by intro z; cases z))]; exact h⟩
theorem TupL.same {α : Type} {f : α → List V} {H H' : Hp} {p : Addr} {L : List α} (s : Same H H') (x : TupL f H p L) : TupL f H' p L := by
  obtain ⟨vs, h, a⟩ := x
  exact ⟨vs, s _ _ h, a.imp fun _ _ r => r.same s⟩
theorem same_new {H : Hp} {p : Addr} {o : HO} (hp : H p = none) : Same H (upd H p o) := fun b u e => by
  rw [upd_ne (ne_of_none e hp)]
  exact e
theorem same_put {H H1 : Hp} {p : Addr} {o : HO} (s : Same H H1) (hp : H p = none) : Same H (upd H1 p o) := fun b u e => by
  rw [upd_ne (ne_of_none e hp)]
  exact s b u e
theorem TupL.new {α : Type} {f : α → List V} {H : Hp} {p : Addr} : TupL f (upd H p (.lst [])) p [] := ⟨[], upd_same, .nil⟩
/-- a new tuple is appended -/
theorem TupL.push {α : Type} {f : α → List V} {H : Hp} {p t : Addr} {L : List α} {q : α} (x : TupL f H p L) (ht : H t = none) :
    ∃ acc, upd H t (.tup (f q)) p = some (.lst acc) ∧ acc.length = L.length ∧ TupL f (upd (upd H t (.tup (f q))) p (.lst (acc ++ [.ref t]))) p (L ++ [q]) := by
  obtain ⟨acc, h, a⟩ := x
  have hp : upd H t (.tup (f q)) p = some (.lst acc) := by
    rw [upd_ne (ne_of_none h ht)]
    exact h
  refine ⟨acc, hp, a.len, acc ++ [.ref t], upd_same, ?_⟩
  refine Al.app (a.imp fun v b r => ?_) (.cons ?_ .nil)
  · exact (r.same (same_new ht)).put hp
  · exact TupIs.put hp ⟨t, rfl, upd_same⟩
/-- a list is put behind a list -/
theorem TupL.ext {α : Type} {f : α → List V} {H : Hp} {p d : Addr} {L M : List α} (x : TupL f H p L) (y : TupL f H d M) :
    ∃ vs us, H p = some (.lst vs) ∧ H d = some (.lst us) ∧ vs.length = L.length ∧ us.length = M.length ∧ TupL f (upd H p (.lst (vs ++ us))) p (L ++ M) := by
  obtain ⟨vs, h, a⟩ := x
  obtain ⟨us, g, b⟩ := y
  exact ⟨vs, us, h, g, a.len, b.len, vs ++ us, upd_same, Al.app (a.imp fun v b r => r.put h) (b.imp fun v b r => r.put h)⟩
/-- two lists together, as a new list -/
theorem TupL.cat {α : Type} {f : α → List V} {H : Hp} {p d : Addr} {L M : List α} (x : TupL f H p L) (y : TupL f H d M) :
    ∃ vs us, H p = some (.lst vs) ∧ H d = some (.lst us) ∧ vs.length = L.length ∧ us.length = M.length ∧ ∀ r, H r = none → TupL f (upd H r (.lst (vs ++ us))) r (L ++ M) := by
  obtain ⟨vs, h, a⟩ := x
  obtain ⟨us, g, b⟩ := y
  exact ⟨vs, us, h, g, a.len, b.len, fun r hr => ⟨vs ++ us, upd_same, Al.app (a.imp fun v b z => z.same (same_new hr)) (b.imp fun v b z => z.same (same_new hr))⟩⟩
theorem TupL.item {α : Type} {f : α → List V} {H : Hp} {p : Addr} {L : List α} (x : TupL f H p L) : ∃ vs, H p = some (.lst vs) ∧ vs.length = L.length ∧ ∀ (i : Nat) (v : V), vs[i]? = some v → ∃ q, L[i]? = some q ∧ TupIs H (f q) v := by
  obtain ⟨vs, h, a⟩ := x
  exact ⟨vs, h, a.len, fun i v e => a.get e⟩
/-- None, or a list -/
def OptL {α : Type} (f : α → List V) (H : Hp) (v : V) (o : Option (List α)) : Prop := match o with
  | none => v = .non
  | some L => ∃ c, v = .ref c ∧ TupL f H c L
theorem OptL.non {α : Type} {f : α → List V} {H : Hp} {v : V} {o : Option (List α)} (x : OptL f H v o) : (!decide (v = V.non)) = o.isSome := by
  cases o with
  | none =>
    have e : v = V.non := x
    rw [e] <;> rfl
  | some L =>
    obtain ⟨c, e, _⟩ := x
    rw [e] <;> rfl
/-! ### x in l -/
def sqD (q : Sq) : PyData := .tuple [.int (q.1 : Nat), .int (q.2 : Nat)]
theorem dp_sq {K : PySem.W.Frag} {H : Hp} {q : Sq} {v : V} (x : TupIs H (sqV q) v) : Dp K H v (sqD q) := by
  obtain ⟨t, e, h⟩ := x
  subst e
  exact .tup (SqT.of h) (.cons (.int _) (.cons (.int _) .nil))
theorem dp_all {K : PySem.W.Frag} {H : Hp} : ∀ {vs : List V} {L : List Sq}, Al (fun v q => TupIs H (sqV q) v) vs L → DpAll K H vs (L.map sqD)
  | _, _, .nil => .nil
  | _, _, .cons r t => .cons (dp_sq r) (dp_all t)
theorem dp_sqs {K : PySem.W.Frag} {H : Hp} {p : Addr} {L : List Sq} (x : TupL sqV H p L) : Dp K H (.ref p) (.list (L.map sqD)) := by
  obtain ⟨vs, h, a⟩ := x
  exact .lst (SqL.of h) (dp_all a)
theorem sqD_lay (q : Sq) : (sqD q).canLay0 = true := by simp [sqD, PyData.canLay0, PyData.canLayAll0]
theorem sqD_depth (q : Sq) : (sqD q).depth = 1 := by simp [sqD, PyData.depth, PyData.depthAll]
theorem sqDs_lay : ∀ L : List Sq, PyData.canLayAll0 (L.map sqD) = true
  | [] => by simp [PyData.canLayAll0]
  | q :: L => by simp [PyData.canLayAll0, sqD_lay q, sqDs_lay L]
theorem sqDs_depth : ∀ L : List Sq, PyData.depthAll (L.map sqD) ≤ 1
  | [] => by simp [PyData.depthAll]
  | q :: L => by
    have h1 := sqDs_depth L
    have h2 := sqD_depth q
    simp only [List.map_cons, PyData.depthAll]
    omega
theorem sqD_shaped (q : Sq) : SeqAt.shaped (sqD q) = true := by
  have h := sqD_depth q
  show ((sqD q).canLay0 && decide ((sqD q).depth ≤ 64)) = true
  rw [Bool.and_eq_true]
  exact ⟨sqD_lay q, decide_eq_true (by omega)⟩
theorem sqDs_shaped (L : List Sq) : SeqAt.shaped (.list (L.map sqD)) = true := by
  have h1 := sqDs_depth L
  have h2 : PyData.depth (.list (L.map sqD)) ≤ 64 := by
    simp only [PyData.depth]
    omega
  show (PyData.canLay0 (.list (L.map sqD)) && decide (PyData.depth (.list (L.map sqD)) ≤ 64)) = true
  rw [Bool.and_eq_true]
  exact ⟨by simp only [PyData.canLay0]; exact sqDs_lay L, decide_eq_true h2⟩
theorem sqD_eqv (z q : Sq) : PyData.eqv (sqD z) (sqD q) = decide (z = q) := by
  obtain ⟨a, b⟩ := z
  obtain ⟨c, d⟩ := q
  have e : PyData.eqv (sqD (a, b)) (sqD (c, d)) = (((a : Int) == (c : Int)) && (((b : Int) == (d : Int)) && true)) := by simp only [sqD, PyData.eqv, PyData.eqvAll]
  rw [e, Bool.eq_iff_iff, decide_eq_true_iff, Bool.and_eq_true, Bool.and_eq_true, beq_iff_eq, beq_iff_eq, Prod.mk.injEq]
  exact ⟨fun ⟨h1, h2, _⟩ => ⟨by omega, by omega⟩, fun ⟨h1, h2⟩ => ⟨by omega, by omega, rfl⟩⟩
theorem sqD_any (q : Sq) : ∀ L : List Sq, ((L.map sqD).any fun z => PyData.eqv z (sqD q)) = decide (q ∈ L)
  | [] => by simp
  | a :: L => by
    rw [List.map_cons, List.any_cons, sqD_any q L, sqD_eqv, Bool.eq_iff_iff, Bool.or_eq_true, decide_eq_true_iff, decide_eq_true_iff, decide_eq_true_iff, List.mem_cons]
    exact ⟨fun h => h.imp Eq.symm id, fun h => h.imp Eq.symm id⟩
theorem in_sqs {K : PySem.W.Frag} {H : Hp} {p : Addr} {L : List Sq} {q : Sq} {v : V} {Q : VK} (y : TupL sqV H p L) (x : TupIs H (sqV q) v) (k : Q (.bl (decide (q ∈ L))) H) : rInD K v (.ref p) H Q :=
  ⟨_, _, dp_sq x, dp_sqs y, sqD_shaped q, sqDs_shaped L, by rw [sqD_any]; exact k⟩
theorem notIn_sqs {K : PySem.W.Frag} {H : Hp} {p : Addr} {L : List Sq} {q : Sq} {v : V} {Q : VK} (y : TupL sqV H p L) (x : TupIs H (sqV q) v) (k : Q (.bl (!decide (q ∈ L))) H) : rNotInD K v (.ref p) H Q :=
  ⟨_, _, dp_sq x, dp_sqs y, sqD_shaped q, sqDs_shaped L, by rw [sqD_any]; exact k⟩
theorem hu65 {A : Around} {k : Nat} (hr : Room k A) : A.units + 65 < cLine := by
  have := hr.un
  omega
/-! ### the layer -/
def lF (w h n : Nat) : List (Str × V) := [("width", .int (w : Nat)), ("height", .int (h : Nat)), ("length", .int (n : Nat))]
def LayerAt (C : Addr) (H : Hp) (a : Addr) (w h n : Nat) : Prop := ∃ dx, H a = some (.ins C dx (lF w h n))
theorem LayerAt.same {C : Addr} {H H' : Hp} {a : Addr} {w h n : Nat} (s : Same H H') (x : LayerAt C H a w h n) : LayerAt C H' a w h n := by
  obtain ⟨dx, e⟩ := x
  exact ⟨dx, s _ _ e⟩
theorem lk_here {k : Str} {v : V} {r : List (Str × V)} : List.lookup k ((k, v) :: r) = some v := by
  have e : (k == k) = true := beq_self_eq_true k
  simp only [List.lookup, e]
theorem lk_past {k g : Str} {v : V} {r : List (Str × V)} (h : (k == g) = false) : List.lookup k ((g, v) :: r) = List.lookup k r := by
  simp only [List.lookup, h]
theorem lF_w (w h n : Nat) : (lF w h n).lookup ("width" : Str) = some (.int (w : Nat)) := lk_here
theorem lF_h (w h n : Nat) : (lF w h n).lookup ("height" : Str) = some (.int (h : Nat)) := (lk_past (by decide +kernel)).trans lk_here
theorem lF_n (w h n : Nat) : (lF w h n).lookup ("length" : Str) = some (.int (n : Nat)) := (lk_past (by decide +kernel)).trans ((lk_past (by decide +kernel)).trans lk_here)
theorem put_past {f g : Str} {v x : V} {r : List (Str × V)} (h : ¬ g = f) : putF f v ((g, x) :: r) = (g, x) :: putF f v r := if_neg h
theorem lF_new (w h n : V) : putF ("length" : Str) n (putF ("height" : Str) h (putF ("width" : Str) w [])) = [(("width" : Str), w), (("height" : Str), h), (("length" : Str), n)] := by
  have e1 : putF ("width" : Str) w [] = [(("width" : Str), w)] := rfl
  have e2 : putF ("height" : Str) h [(("width" : Str), w)] = [(("width" : Str), w), (("height" : Str), h)] := (put_past (by decide +kernel)).trans rfl
  have e3 : putF ("length" : Str) n [(("width" : Str), w), (("height" : Str), h)] = [(("width" : Str), w), (("height" : Str), h), (("length" : Str), n)] := (put_past (by decide +kernel)).trans (congrArg _ ((put_past (by decide +kernel)).trans rfl))
  rw [e1, e2, e3]
/-- what the top tells of Layer -/
structure LayT (K : PySem.W.Frag) (C : Addr) : Prop where
  cl : Cls K C
  nW : NoAttr K C "width"
  nH : NoAttr K C "height"
  nL : NoAttr K C "length"
theorem fld_w {K : PySem.W.Frag} {C a : Addr} {H : Hp} {w h n : Nat} {Q : VK} (T : LayT K C) (x : LayerAt C H a w h n) (q : Q (.int (w : Nat)) H) :
    ∃ b D dx fs v, V.ref a = .ref b ∧ H b = some (.ins D dx fs) ∧ Cls K D ∧ NoAttr K D "width" ∧ fs.lookup ("width" : Str) = some v ∧ Q v H := by
  obtain ⟨dx, e⟩ := x
  exact ⟨a, C, dx, _, _, rfl, e, T.cl, T.nW, lF_w w h n, q⟩
theorem fld_h {K : PySem.W.Frag} {C a : Addr} {H : Hp} {w h n : Nat} {Q : VK} (T : LayT K C) (x : LayerAt C H a w h n) (q : Q (.int (h : Nat)) H) :
    ∃ b D dx fs v, V.ref a = .ref b ∧ H b = some (.ins D dx fs) ∧ Cls K D ∧ NoAttr K D "height" ∧ fs.lookup ("height" : Str) = some v ∧ Q v H := by
  obtain ⟨dx, e⟩ := x
  exact ⟨a, C, dx, _, _, rfl, e, T.cl, T.nH, lF_h w h n, q⟩
theorem fld_n {K : PySem.W.Frag} {C a : Addr} {H : Hp} {w h n : Nat} {Q : VK} (T : LayT K C) (x : LayerAt C H a w h n) (q : Q (.int (n : Nat)) H) :
    ∃ b D dx fs v, V.ref a = .ref b ∧ H b = some (.ins D dx fs) ∧ Cls K D ∧ NoAttr K D "length" ∧ fs.lookup ("length" : Str) = some v ∧ Q v H := by
  obtain ⟨dx, e⟩ := x
  exact ⟨a, C, dx, _, _, rfl, e, T.cl, T.nL, lF_n w h n, q⟩
theorem rd_w {K : PySem.W.Frag} {C a : Addr} {H : Hp} {w h n i : Nat} {σ : L2.St} {Q : VK} (T : LayT K C) (x : LayerAt C H a w h n) (e : σ[i]? = some (some (.ref a))) (q : Q (.int (w : Nat)) H) : tFld K (tVar i) "width" σ H Q := ⟨_, e, fld_w T x q⟩
theorem rd_h {K : PySem.W.Frag} {C a : Addr} {H : Hp} {w h n i : Nat} {σ : L2.St} {Q : VK} (T : LayT K C) (x : LayerAt C H a w h n) (e : σ[i]? = some (some (.ref a))) (q : Q (.int (h : Nat)) H) : tFld K (tVar i) "height" σ H Q := ⟨_, e, fld_h T x q⟩
theorem rd_n {K : PySem.W.Frag} {C a : Addr} {H : Hp} {w h n i : Nat} {σ : L2.St} {Q : VK} (T : LayT K C) (x : LayerAt C H a w h n) (e : σ[i]? = some (some (.ref a))) (q : Q (.int (n : Nat)) H) : tFld K (tVar i) "length" σ H Q := ⟨_, e, fld_n T x q⟩
/-! ### a def of the program, by its name -/
structure Def (P : Program) (w : World) (K : PySem.W.Frag) (mg : Str → Option Value) (base : Heap) (CX : CXT) (k : Nat) (x : Str) (ps : List Str) (sp : Sp) : Prop where
  ex : ∃ f fd, mg x = some (.ref f) ∧ PySem.W.keepIn K (.ref f) = true ∧ Binds K fd ps [] ∧ FnOk P w K mg base CX k f fd ps sp
theorem pe_D {X : Cx} {CX : CXT} {k j : Nat} {x : Str} {ps : List Str} {sp : Sp} {p pos : Pos} {e : Expr} {es : List Expr} {t : TA} {E : XK} (D : Def X.prog X.w X.K X.mg X.base CX k x ps sp) (hx : Passes CX X E) (hr : Room j X.A) (ha : PA X (e :: es) t) (hk : k ≤ j := by decide) (hg : Gl X x := by rfl)
    (hdb : (x == ("__debug__" : Str)) = false := by decide) (he : starEach (e :: es) X.env = (false, eval e X.env) :: starEach es X.env := by rfl) (hpl : (backTo pos (starEach es X.env)).any (·.1) = false := by rfl) : PE X (.Call (.Name x p) (e :: es) [] pos) (tCall sp [] E t) := by
  obtain ⟨f, fd, m, kp, b, F⟩ := D.ex
  exact pe_call F (hr.mono hk) hg m kp b .nil hx ha hdb he hpl
theorem pe_DS {X : Cx} {CX : CXT} {k j : Nat} {x : Str} {ps : List Str} {sp : Sp} {p pos : Pos} {e : Expr} {es : List Expr} {t : TA} {E : L2.St → XK} (D : Def X.prog X.w X.K X.mg X.base CX k x ps sp) (hx : ∀ σ, PassesAt CX X σ (E σ)) (hr : Room j X.A) (ha : PA X (e :: es) t) (hk : k ≤ j := by decide) (hg : Gl X x := by rfl)
    (hdb : (x == ("__debug__" : Str)) = false := by decide) (he : starEach (e :: es) X.env = (false, eval e X.env) :: starEach es X.env := by rfl) (hpl : (backTo pos (starEach es X.env)).any (·.1) = false := by rfl) : PE X (.Call (.Name x p) (e :: es) [] pos) (tCallS sp E t) := by
  obtain ⟨f, fd, m, kp, b, F⟩ := D.ex
  exact pe_callS F (hr.mono hk) hg m kp b hx ha hdb he hpl
/-- a def as the top has written it -/
structure FunD (K : PySem.W.Frag) (mg : Str → Option Value) (x : Str) (st : Stmt) (ps : List Str) : Prop where
  ex : ∃ f fd, mg x = some (.ref f) ∧ Fun K x x st f fd ∧ Binds K fd ps []
theorem FunD.def {P : Program} {w : World} {K : PySem.W.Frag} {mg : Str → Option Value} {base : Heap} {CX : CXT} {k : Nat} {x : Str} {st : Stmt} {ps : List Str} {sp : Sp} (F : FunD K mg x st ps) (h : ∀ f fd, Fun K x x st f fd → FnOk P w K mg base CX k f fd ps sp) : Def P w K mg base CX k x ps sp := by
  obtain ⟨f, fd, m, F, b⟩ := F.ex
  exact ⟨f, fd, m, F.kp, b, h f fd F⟩
theorem fund_mk {K : PySem.W.Frag} {h : Heap} {mg : Str → Option Value} {x : Str} {st : Stmt} {ps : List Str} {f : Addr} {oc : Value} {od an : Option Addr} {osl : Array (Option Value)} {kV doc pm cdv ct : Value} (X : K.In h) (G : h.Ns mainGlobals mg)
    (a : PySem.W.nsIn K mainGlobals x = some (some (.ref f))) (l : K.lookup f = some ⟨oc, od, .func (PySem.W.fnOf x x (defArgs st) (defBody st) (defScope st) .none kV doc pm an cdv ct), osl⟩) (c : PySem.W.codeIn K cdv x = true) (k : PySem.W.keepIn K (.ref f) = true)
    (b : ∀ (kV doc pm : Value) (an : Option Addr) (cdv ct : Value) (us : List Value), us.length = ps.length → bindArgs (PySem.W.fnOf x x (defArgs st) (defBody st) (defScope st) .none kV doc pm an cdv ct) ⟨us, []⟩ = pure (ps.zip us)) : FunD K mg x st ps :=
  have F := fun_mk (st := st) l c k
  ⟨f, _, PySem.W.mg_of X G a, F, F.binds b⟩
/-! ### the own error -/
def Bad (C : Addr) (n : Int) (E : XK) (H : Hp) : Prop := ∀ d H', Same H H' → H' d = some (.xd [(("number" : Str), .int n)]) → E (.ref C) (some d) H'
theorem Bad.same {C : Addr} {n : Int} {E : XK} {H H' : Hp} (s : Same H H') (x : Bad C n E H) : Bad C n E H' := fun d H2 s2 h => x d H2 (s.trans s2) h
structure RefT (K : PySem.W.Frag) (mg : Str → Option Value) (C fI : Addr) : Prop where
  gC : mg "Refused" = some (.ref C)
  ox : OexC K C
  xf : XfC K C
  no : PySem.W.findIn K (.ref C) "number" = some none
  iC : PySem.W.findIn K (.ref C) "__init__" = some (some (.ref fI))
  tI : PySem.W.typeIn K (.ref fI) = some (.type "function")
  te : PySem.W.exmOne K (.ref C) (.ref C) = some true
def spRef (C : Addr) : Sp := fun vs H Q _ => ∃ (a : Addr) (n : Int), vs = [.ref a, .int n] ∧ H a = some (exo a C none) ∧
  ∀ dx, H dx = none → dx ≠ a → Q .non (upd (upd H dx (exd dx [(("number" : Str), .int n)])) a (exo a C (some dx)))
/-- Refused(n) -/
theorem mk_bad {C : Addr} {n : Int} {E : XK} {H : Hp} (b : Bad C n E H) : ∀ a, H a = none → spRef C [.ref a, .int n] (upd H a (exo a C none))
    (fun v H2 => v = .non ∧ ∃ (d : Addr) (fs : List (Str × V)), H2 a = some (exo a C (some d)) ∧ H2 d = some (exd d fs) ∧ H d = none ∧ E (.ref C) (some d) (upd (del H2 a) d (.xd fs))) (fun _ _ _ => False) := by
  intro a ha
  refine ⟨a, n, rfl, upd_same, fun d hd hne => ⟨rfl, d, [(("number" : Str), .int n)], upd_same, ?_, ?_, ?_⟩⟩
  · rw [upd_ne hne]
    exact upd_same
  · rw [upd_ne hne] at hd
    exact hd
  · refine b d _ (fun c o e => ?_) upd_same
    have h1 : c ≠ a := ne_of_none e ha
    have h2 : H d = none := by
      rw [upd_ne hne] at hd
      exact hd
    have h3 : c ≠ d := ne_of_none e h2
    rw [upd_ne h3, del_ne h1, upd_ne h1, upd_ne h3, upd_ne h1]
    exact e
theorem exm_self {K : PySem.W.Frag} {S : Addr} (h1 : PySem.W.subIn K (.ref S) (.type "BaseException") = some true) (h2 : PySem.W.isClsIn K S = true) (h3 : PySem.W.typeIn K (.ref S) = some (.type "type")) (h4 : PySem.W.subIn K (.ref S) (.ref S) = some true) :
    PySem.W.exmOne K (.ref S) (.ref S) = some true := by
  have e1 : (PySem.W.subIn K (.ref S) (.type "BaseException") == some true) = true := by rw [h1] <;> rfl
  have e2 : ((PySem.W.clsIn K S).isSome && PySem.W.typeIn K (.ref S) == some (.type "type")) = true := by
    have h2' : (PySem.W.clsIn K S).isSome = true := h2
    rw [h2', h3] <;> rfl
  show (if (PySem.W.subIn K (.ref S) (.type "BaseException") == some true) = true then (if ((PySem.W.clsIn K S).isSome && PySem.W.typeIn K (.ref S) == some (.type "type")) = true then PySem.W.subIn K (.ref S) (.ref S) else none) else none) = some true
  rw [if_pos e1, if_pos e2]
  exact h4
/-- an if whose test is known -/
theorem ifT {c : Bool} {A B : Prop} (hc : c = true) (h : A) : if c = true then A else B := by
  rw [if_pos hc]
  exact h
theorem ifF {c : Bool} {A B : Prop} (hc : c = false) (h : B) : if c = true then A else B := by
  rw [hc, if_neg Bool.false_ne_true]
  exact h
end LB
namespace LB
open PySem PySem.Spec PyProof.Rows L2
/-- the i-th statement of the program -/
def top (i : Nat) : Stmt := PySem.Challenge.pw_layerbars_s06_covered_colours.main.body.getD i (.Pass ⟨0, 0, 0, 0⟩)
abbrev sLI : Stmt := inClass (top 1) 0
abbrev sCO : Stmt := top 2
abbrev sCS : Stmt := top 3
abbrev sSO : Stmt := top 4
abbrev sII : Stmt := top 5
abbrev sFits : Stmt := top 6
abbrev sCB : Stmt := top 7
abbrev sRI : Stmt := inClass (top 14) 0
abbrev sNeed : Stmt := top 15
abbrev sNS : Stmt := top 16
abbrev sN3 : Stmt := top 17
abbrev sNB : Stmt := top 18
abbrev sLay : Stmt := top 20
abbrev sAns : Stmt := top 21
abbrev sMain : Stmt := top 23
/-! ### Layer.__init__, Refused.__init__, need, need_size, need_sizes, layer_for -/
section
variable {P : Program} {w : World} {K : PySem.W.Frag} {mg : Str → Option Value} {base : Heap} {C CR fI fR : Addr} {fdI fdR : FuncData}
abbrev nLI : List Str := ["self", "width", "height", "length"]
def spLI (C : Addr) : Sp := fun vs H Q _ => ∃ (p dx : Addr) (a b c : V), vs = [.ref p, a, b, c] ∧ H p = some (.ins C dx []) ∧
  ∀ H' : Hp, H' p = some (.ins C dx [(("width" : Str), a), (("height" : Str), b), (("length" : Str), c)]) → (∀ q o, H q = some o → q ≠ p → H' q = some o) → Q .non H'
theorem scLI : FnScope nLI nLI (defScope sLI) := ⟨rfl, rfl, rfl, by decide +kernel, rfl, by decide +kernel, by decide +kernel⟩
theorem ok_LI (F : Fun K "__init__" "Layer.__init__" sLI fI fdI) (T : LayT K C) : FnOk P w K mg base CX0 1 fI fdI nLI (spLI C) := by
  refine F.ok scLI (fun vs H Q E h => ?_) (fun cdv A outer s H vs Q E hr h => ?_)
  · obtain ⟨p, dx, a, b, c, rfl, _⟩ := h
    rfl
  · obtain ⟨p, dx, a, b, c, rfl, hp, k⟩ := h
    refine ⟨_, pss_cons (ps_fld (pv 0) (pv 1) rfl) (pss_cons (ps_fld (pv 0) (pv 2) rfl) (pss_one (ps_fld (pv 0) (pv 3) rfl))), ?_⟩
    refine ⟨_, rfl, _, rfl, p, C, dx, [], rfl, hp, T.cl, T.nW, (by decide), ?_⟩
    refine ⟨_, rfl, _, rfl, p, C, dx, _, rfl, upd_same, T.cl, T.nH, (by show 1 < 1000; decide), ?_⟩
    refine ⟨_, rfl, _, rfl, p, C, dx, _, rfl, upd_same, T.cl, T.nL, (by show 2 < 1000; decide), ?_⟩
    refine k _ (Eq.trans upd_same (congrArg (fun q => some (HO.ins C dx q)) (lF_new a b c))) fun q o e hq => ?_
    rw [upd_ne hq, upd_ne hq, upd_ne hq]
    exact e
abbrev nRI : List Str := ["self", "number"]
theorem scRI : FnScope nRI nRI (defScope sRI) := ⟨rfl, rfl, rfl, by decide +kernel, rfl, by decide +kernel, by decide +kernel⟩
theorem ok_RI (F : Fun K "__init__" "Refused.__init__" sRI fR fdR) (T : RefT K mg CR fR) : FnOk P w K mg base CX0 1 fR fdR nRI (spRef CR) := by
  refine F.ok scRI (fun vs H Q E h => ?_) (fun cdv A outer s H vs Q E hr h => ?_)
  · obtain ⟨a, n, rfl, _⟩ := h
    rfl
  · obtain ⟨a, n, rfl, ha, k⟩ := h
    refine ⟨_, pss_one (ps_ost (pv 0) (pv 1)), ?_⟩
    exact ⟨_, rfl, _, rfl, a, CR, rfl, T.ox, T.no, .inl ⟨ha, k⟩⟩
/-- need(fulfilled, number) -/
abbrev nNeed : List Str := ["fulfilled", "number"]
def spNeed (CR : Addr) : Sp := fun vs H Q E => ∃ (b : Bool) (n : Int), vs = [.bl b, .int n] ∧ (b = true → Q .non H) ∧ (b = false → Bad CR n E H)
theorem scNeed : FnScope nNeed nNeed (defScope sNeed) := ⟨rfl, rfl, rfl, by decide +kernel, rfl, by decide +kernel, by decide +kernel⟩
theorem d_need (FD : FunD K mg "need" sNeed nNeed) (T : RefT K mg CR fR) (FR : Fun K "__init__" "Refused.__init__" sRI fR fdR) (bR : Binds K fdR nRI []) : Def P w K mg base (L2.CX P w) 3 "need" nNeed (spNeed CR) := by
  refine FD.def fun f fd F => F.okX scNeed (fun vs H Q E h => ?_) (fun cdv A outer s H vs Q E hr h => ?_)
  · obtain ⟨b, n, rfl, _⟩ := h
    rfl
  · obtain ⟨b, n, rfl, kT, kF⟩ := h
    refine ⟨_, pss_one (ps_if (pt_not (pt_val (pv 0))) (pss_one (ps_raise rfl (takes_of rfl rfl rfl rfl) (pmk_oex T.ox T.iC T.tI (ok_RI FR T) hr bR .nil pass0 rfl T.gC (pa_cons (pv 1) pa_nil)))) pss_nil), ?_⟩
    refine ⟨_, rfl, b, rfl, ?_⟩
    cases b with
    | true => exact kT rfl
    | false => exact ⟨_, rfl, (by show 1 ≤ 1000; decide), mk_bad (kF rfl)⟩
/-- need_size(size) -/
abbrev nNS : List Str := ["size"]
def spNS (CR : Addr) : Sp := fun vs H Q E => ∃ n : Int, vs = [.int n] ∧ (sizeOk n = true → Q .non H) ∧ (sizeOk n = false → Bad CR (-22) E H)
theorem scNS : FnScope nNS nNS (defScope sNS) := ⟨rfl, rfl, rfl, by decide +kernel, rfl, by decide +kernel, by decide +kernel⟩
theorem d_NS (FD : FunD K mg "need_size" sNS nNS) (gO : ∃ t, mg "OUT_OF_RANGE" = some (.int (-22) t)) (gM : ∃ t, mg "MOST_SIZE" = some (.int 6 t)) (D : Def P w K mg base (L2.CX P w) 3 "need" nNeed (spNeed CR)) : Def P w K mg base (L2.CX P w) 4 "need_size" nNS (spNS CR) := by
  obtain ⟨tO, gO⟩ := gO
  obtain ⟨tM, gM⟩ := gM
  refine FD.def fun f fd F => F.okX scNS (fun vs H Q E h => ?_) (fun cdv A outer s H vs Q E hr h => ?_)
  · obtain ⟨n, rfl, _⟩ := h
    rfl
  · obtain ⟨n, rfl, kT, kF⟩ := h
    refine ⟨_, pss_one (ps_expr (pe_D D (passes_call (takes_of rfl rfl rfl rfl) fun _ _ _ _ z => z) hr
      (pa_cons (pe_chain op_le op_le pe_int (pv 0) (pe_glob (v := .int 6) rfl gM ⟨_, rfl⟩)) (pa_cons (pe_glob (v := .int (-22)) rfl gO ⟨_, rfl⟩) pa_nil)))), ?_⟩
    refine ⟨_, rfl, _, _, rfl, rfl, _, rfl, ?_⟩
    by_cases c : (1 : Int) ≤ n
    · refine ifT (decide_eq_true c) ⟨_, _, rfl, rfl, _, _, rfl, fun e => kT ?_, fun e => kF ?_⟩
      · unfold sizeOk
        rw [decide_eq_true c, e] <;> rfl
      · unfold sizeOk
        rw [e, Bool.and_false]
    · refine ifF (decide_eq_false c) ⟨_, _, rfl, fun e => Bool.noConfusion e, fun _ => kF ?_⟩
      unfold sizeOk
      rw [decide_eq_false c, Bool.false_and]
/-- need_sizes(width, height, length) -/
abbrev nN3 : List Str := ["width", "height", "length"]
def ok3 (a b c : Int) : Bool := sizeOk a && sizeOk b && sizeOk c
def spN3 (CR : Addr) : Sp := fun vs H Q E => ∃ a b c : Int, vs = [.int a, .int b, .int c] ∧ (ok3 a b c = true → Q .non H) ∧ (ok3 a b c = false → Bad CR (-22) E H)
theorem scN3 : FnScope nN3 nN3 (defScope sN3) := ⟨rfl, rfl, rfl, by decide +kernel, rfl, by decide +kernel, by decide +kernel⟩
theorem d_N3 (FD : FunD K mg "need_sizes" sN3 nN3) (D : Def P w K mg base (L2.CX P w) 4 "need_size" nNS (spNS CR)) : Def P w K mg base (L2.CX P w) 5 "need_sizes" nN3 (spN3 CR) := by
  refine FD.def fun f fd F => F.okX scN3 (fun vs H Q E h => ?_) (fun cdv A outer s H vs Q E hr h => ?_)
  · obtain ⟨a, b, c, rfl, _⟩ := h
    rfl
  · obtain ⟨a, b, c, rfl, kT, kF⟩ := h
    refine ⟨_, pss_cons (ps_expr (pe_D D (passes_call (takes_of rfl rfl rfl rfl) fun _ _ _ _ z => z) hr (pa_cons (pv 0) pa_nil)))
      (pss_cons (ps_expr (pe_D D (passes_call (takes_of rfl rfl rfl rfl) fun _ _ _ _ z => z) hr (pa_cons (pv 1) pa_nil)))
      (pss_one (ps_expr (pe_D D (passes_call (takes_of rfl rfl rfl rfl) fun _ _ _ _ z => z) hr (pa_cons (pv 2) pa_nil))))), ?_⟩
    unfold ok3 at kT kF
    refine ⟨_, rfl, a, rfl, fun ea => ?_, fun ea => kF (by rw [ea] <;> rfl)⟩
    rw [ea, Bool.true_and] at kT kF
    refine ⟨_, rfl, b, rfl, fun eb => ?_, fun eb => kF (by rw [eb] <;> rfl)⟩
    rw [eb, Bool.true_and] at kT kF
    exact ⟨_, rfl, c, rfl, fun ec => kT ec, fun ec => kF ec⟩
/-- layer_for(width, height, length) -/
def spLay (C CR : Addr) : Sp := fun vs H Q E => ∃ a b c : Int, vs = [.int a, .int b, .int c] ∧ (ok3 a b c = true → ∀ H' p, Same H H' → LayerAt C H' p a.toNat b.toNat c.toNat → Q (.ref p) H') ∧ (ok3 a b c = false → Bad CR (-22) E H)
theorem scLay : FnScope nN3 nN3 (defScope sLay) := ⟨rfl, rfl, rfl, by decide +kernel, rfl, by decide +kernel, by decide +kernel⟩
theorem nat_of {a : Int} (h : sizeOk a = true) : ((a.toNat : Nat) : Int) = a ∧ 1 ≤ a.toNat ∧ a.toNat ≤ 6 := by
  simp only [sizeOk, Bool.and_eq_true, decide_eq_true_eq] at h
  omega
theorem d_Lay (FD : FunD K mg "layer_for" sLay nN3) (gL : mg "Layer" = some (.ref C)) (M : Mk K C fI) (T : LayT K C) (FI : Fun K "__init__" "Layer.__init__" sLI fI fdI) (bI : Binds K fdI nLI []) (D : Def P w K mg base (L2.CX P w) 5 "need_sizes" nN3 (spN3 CR)) :
    Def P w K mg base (L2.CX P w) 6 "layer_for" nN3 (spLay C CR) := by
  refine FD.def fun f fd F => F.okX scLay (fun vs H Q E h => ?_) (fun cdv A outer s H vs Q E hr h => ?_)
  · obtain ⟨a, b, c, rfl, _⟩ := h
    rfl
  · obtain ⟨a, b, c, rfl, kT, kF⟩ := h
    refine ⟨_, pss_cons (ps_expr (pe_D D (passes_call (takes_of rfl rfl rfl rfl) fun _ _ _ _ z => z) hr (pa_cons (pv 0) (pa_cons (pv 1) (pa_cons (pv 2) pa_nil)))))
      (pss_one (ps_ret (pe_make M (ok_LI FI T) (hr.mono (by decide)) rfl gL bI .nil pass0 (pa_cons (pv 0) (pa_cons (pv 1) (pa_cons (pv 2) pa_nil)))))), ?_⟩
    refine ⟨_, rfl, _, rfl, _, rfl, a, b, c, rfl, fun e => ?_, kF⟩
    refine ⟨_, rfl, _, rfl, _, rfl, ?_⟩
    intro x dx nx nd ne
    refine ⟨x, dx, _, _, _, rfl, upd_same, fun H1 J kp => ⟨rfl, ?_⟩⟩
    have s1 : Same H H1 := Same.made nx nd kp
    obtain ⟨ha, hb, hc⟩ := and3 e
    refine kT e H1 x s1 ⟨dx, ?_⟩
    unfold lF
    rw [(nat_of ha).1, (nat_of hb).1, (nat_of hc).1]
    exact J
end
/-! ### colour_of, colours_of -/
theorem ixN_nat {n j : Nat} (h : j < n) : ixN n (j : Int) = some j := by
  unfold ixN
  rw [if_pos (by omega), if_pos (by omega)]
  rfl
def rGetL (K : PySem.W.Frag) : V → V → Hp → VK → Prop := fun x y H Q => ∃ (p : Addr) (xs : List V) (j : Nat) (v : V), x = .ref p ∧ y = .int (j : Nat) ∧ SqL K H p xs ∧ xs[j]? = some v ∧ Q v H
theorem get_list {X : Cx} : PGet X (rGetL X.K) := by
  intro pins s σ H o i ov iv Q I ro ri h
  obtain ⟨p, xs, j, v, rfl, rfl, hq, he, q⟩ := h
  cases ro
  obtain ⟨t, rfl⟩ := ri
  obtain ⟨its, r, pl, hz⟩ := I.list hq
  obtain ⟨u, eu, ru⟩ := r.get he
  have hl := r.length
  have hn := line63
  obtain ⟨hj, _⟩ := List.getElem?_eq_some_iff.mp he
  exact getItem_listL pl.isList (by omega) (by omega) (by simpa using eu) ⟨v, H, I, ru, q⟩
def ctV (l : List Nat) : List V := l.map fun c => .int (c : Nat)
theorem ctV_len (l : List Nat) : (ctV l).length = l.length := by simp [ctV]
theorem ctV_get {l : List Nat} {j c : Nat} (h : l[j]? = some c) : (ctV l)[j]? = some (.int (c : Nat)) := by simp [ctV, h]
theorem ctV_set (l : List Nat) (j c : Nat) : (ctV l).set j (.int ((c : Int) + 1)) = ctV (l.set j (c + 1)) := by
  unfold ctV
  rw [List.map_set]
  rfl
theorem rep_flat {α : Type} (x : α) : ∀ n : Nat, (List.replicate n [x]).flatten = List.replicate n x
  | 0 => rfl
  | n + 1 => by
    rw [List.replicate_succ, List.replicate_succ, List.flatten_cons, rep_flat x n]
    rfl
theorem ctV_rep (n : Nat) : List.replicate n (V.int 0) = ctV (List.replicate n 0) := by simp [ctV]
theorem take_more {α : Type} {l : List α} {i : Nat} {x : α} (h : l[i]? = some x) : l.take (i + 1) = l.take i ++ [x] := by
  rw [List.take_add_one, h]
  rfl
section
variable {P : Program} {w : World} {K : PySem.W.Frag} {mg : Str → Option Value} {base : Heap} {C : Addr}
abbrev nCO : List Str := ["layer", "square", "x", "y"]
def spCO (C : Addr) : Sp := fun vs H Q _ => ∃ (a : Addr) (wd h n : Nat) (v : V) (q : Sq), vs = [.ref a, v] ∧ LayerAt C H a wd h n ∧ 0 < n ∧ TupIs H (sqV q) v ∧ Q (.int (colM n q : Nat)) H
theorem scCO : FnScope nCO ["layer", "square"] (defScope sCO) := ⟨rfl, rfl, rfl, by decide +kernel, rfl, by decide +kernel, by decide +kernel⟩
theorem d_CO (FD : FunD K mg "colour_of" sCO ["layer", "square"]) (T : LayT K C) : Def P w K mg base CX0 1 "colour_of" ["layer", "square"] (spCO C) := by
  refine FD.def fun f fd F => F.ok scCO (fun vs H Q E h => ?_) (fun cdv A outer s H vs Q E hr h => ?_)
  · obtain ⟨a, wd, h, n, v, q, rfl, _⟩ := h
    rfl
  · obtain ⟨a, wd, h, n, v, q, rfl, hL, hn, ⟨t, rfl, ht⟩, k⟩ := h
    refine ⟨_, pss_cons (ps_asg (pv 1) (pg_tup rfl (pgs_cons (pg_name (i := 2) scCO.nd rfl (Or.inl rfl)) (pgs_cons (pg_name (i := 3) scCO.nd rfl (Or.inl rfl)) pgs_nil))))
      (pss_one (ps_ret (pe_op op_mod (pe_op op_add (pv 2) (pv 3)) (pe_fld (pv 0) rfl)))), ?_⟩
    refine ⟨_, rfl, t, _, rfl, SqT.of ht, rfl, _, _, rfl, _, _, rfl, rfl, ?_⟩
    refine ⟨_, rfl, _, rfl, _, _, rfl, rfl, ?_⟩
    refine rd_n T hL rfl ?_
    exact ⟨_, _, rfl, rfl, (by omega), k⟩
abbrev nCS : List Str := ["layer", "squares", "counts", "square"]
def spCS (C : Addr) : Sp := fun vs H Q _ => ∃ (a b : Addr) (wd h n : Nat) (L : List Sq), vs = [.ref a, .ref b] ∧ LayerAt C H a wd h n ∧ 0 < n ∧ n ≤ 6 ∧ TupL sqV H b L ∧
  ∀ H' p, Same H H' → H' p = some (.lst (ctV (countsM n L))) → Q (.ref p) H'
theorem scCS : FnScope nCS ["layer", "squares"] (defScope sCS) := ⟨rfl, rfl, rfl, by decide +kernel, rfl, by decide +kernel, by decide +kernel⟩
theorem d_CS (FD : FunD K mg "colours_of" sCS ["layer", "squares"]) (T : LayT K C) (D : Def P w K mg base CX0 1 "colour_of" ["layer", "square"] (spCO C)) : Def P w K mg base CX0 2 "colours_of" ["layer", "squares"] (spCS C) := by
  refine FD.def fun f fd F => F.ok scCS (fun vs H Q E h => ?_) (fun cdv A outer s H vs Q E hr h => ?_)
  · obtain ⟨a, b, wd, h, n, L, rfl, _⟩ := h
    rfl
  · obtain ⟨a, b, wd, h, n, L, rfl, hL, hn, hn6, hS, k⟩ := h
    refine ⟨_, pss_cons (ps_set (i := 2) scCS.nd rfl (Or.inl rfl) (pe_op op_rep (pe_lst (pa_cons pe_int pa_nil)) (pe_fld (pv 0) rfl)))
      (pss_cons (ps_for PassesOwn.never rfl (pi_list (pv 1)) (pg_name (i := 3) scCS.nd rfl (Or.inl rfl))
        (pss_one (ps_augS (pv 2) (pe_D D pass0 hr (pa_cons (pv 0) (pa_cons (pv 3) pa_nil))) get_list pe_int ip_add set_list)))
      (pss_one (ps_ret (pv 2)))), ?_⟩
    refine ⟨(by show 1 ≤ sizeLine; decide), fun l hl => ?_⟩
    refine rd_n T (hL.same (same_new hl)) rfl ?_
    refine ⟨l, (n : Nat), _, rfl, rfl, upd_same, by omega, by omega, ?_, fun p hp => ?_⟩
    · have z : (n : Int).toNat = n := rfl
      rw [z, sizeLine_eq]
      show 1 * n ≤ 16777216
      omega
    obtain ⟨vs, hb, hlen, hit⟩ := hS.item
    have s1 : Same H (upd (upd H l (.lst [.int 0])) p (.lst (List.replicate (n : Int).toNat [V.int 0]).flatten)) := (same_new hl).trans (same_new hp)
    have hp0 : H p = none := (same_new hl).free hp
    have cd : ∀ {H1 : Hp}, Same H H1 → SqL K H1 b vs := fun s => SqL.of (s _ _ hb)
    refine ⟨_, rfl, b, rfl, ⟨vs, cd s1⟩, ?_⟩
    refine for_list (K := K) (a := b) (xs := vs) (fun i σ H' => ∃ u : Option V, σ = [some (.ref a), some (.ref b), some (.ref p), u] ∧ Same H H' ∧ H' p = some (.lst (ctV (countsM n (L.take i)))))
      ⟨none, rfl, s1, ?_⟩ (fun i σ H' _ ⟨_, _, s2, _⟩ => cd s2) ?_ ?_
    · have z : (n : Int).toNat = n := rfl
      rw [z, rep_flat, ctV_rep, List.take_zero, counts_nil]
      exact upd_same
    · rintro i x σ H1 hi ⟨u, rfl, s2, hc⟩
      obtain ⟨q, hq, ht⟩ := hit i x hi
      have hcn : colM n q < n := Nat.mod_lt _ hn
      refine ⟨_, rfl, _, rfl, _, rfl, a, wd, h, n, x, q, rfl, hL.same s2, hn, ht.same s2, ?_⟩
      refine ⟨p, _, colM n q, _, rfl, rfl, SqL.of hc, ctV_get (counts_get _ hcn), ?_⟩
      refine ⟨_, _, rfl, rfl, ?_⟩
      refine ⟨p, _, _, colM n q, rfl, rfl, hc, ixN_nat (by rw [ctV_len, counts_len]; exact hcn), ?_⟩
      refine ⟨_, rfl, same_put s2 hp0, ?_⟩
      rw [take_more hq, ← counts_step hn, ← ctV_set]
      exact upd_same
    · rintro σ H1 ⟨u, rfl, s2, hc⟩
      rw [hlen, List.take_length] at hc
      exact ⟨_, rfl, k H1 p s2 hc⟩
end
/-! ### squares_of, is_inside, fits -/
theorem take_more2 {α : Type} {l : List α} {i : Nat} {x : α} (h : l[i]? = some x) : l.take (i + 1) = l.take i ++ [x] := by
  rw [List.take_add_one, h]
  rfl
section
variable {P : Program} {w : World} {K : PySem.W.Frag} {mg : Str → Option Value} {base : Heap} {C : Addr}
abbrev nSO : List Str := ["layer", "bar", "x", "y", "direction", "k"]
def spSO (C : Addr) : Sp := fun vs H Q _ => ∃ (a : Addr) (wd h n : Nat) (v : V) (b : Br), vs = [.ref a, v] ∧ LayerAt C H a wd h n ∧ n ≤ 6 ∧ TupIs H (brV b) v ∧
  ∀ H' p, Same H H' → TupL sqV H' p (sqOf n b) → Q (.ref p) H'
theorem scSO : FnScope nSO ["layer", "bar"] (defScope sSO) := ⟨rfl, rfl, rfl, by decide +kernel, rfl, by decide +kernel, by decide +kernel⟩
theorem zero_add_int (i : Nat) : (0 : Int) + (i : Int) = (i : Int) := Int.zero_add _
theorem range_map_succ (g : Nat → Sq) (j : Nat) : (List.range (j + 1)).map g = (List.range j).map g ++ [g j] := by
  rw [List.range_succ, List.map_append]
  rfl
theorem d_SO (FD : FunD K mg "squares_of" sSO ["layer", "bar"]) (T : LayT K C) (mr : mg "range" = none) : Def P w K mg base CX0 1 "squares_of" ["layer", "bar"] (spSO C) := by
  refine FD.def fun f fd F => F.ok scSO (fun vs H Q E h => ?_) (fun cdv A outer s H vs Q E hr h => ?_)
  · obtain ⟨a, wd, h, n, v, b, rfl, _⟩ := h
    rfl
  · obtain ⟨a, wd, h, n, v, b, rfl, hL, hn6, ⟨t, rfl, ht⟩, k⟩ := h
    refine ⟨_, pss_cons (ps_asg (pv 1) (pg_tup rfl (pgs_cons (pg_name (i := 2) scSO.nd rfl (Or.inr rfl)) (pgs_cons (pg_name (i := 3) scSO.nd rfl (Or.inr rfl)) (pgs_cons (pg_name (i := 4) scSO.nd rfl (Or.inl rfl)) pgs_nil)))))
      (pss_cons (ps_if (pt_cmpR op_eq (pv 4) pe_int (nomark _))
        (pss_one (ps_ret (pe_lc (own := [("k", 5)]) (g := gName 5) (tt := tYes) rfl scSO.nd (pi_range1 rfl mr (pa_cons (pe_fld (pv 0) rfl) pa_nil)) (blkOk_by (N := nSO) (sc := defScope sSO) (by decide +kernel))
          (fun _ _ _ _ _ => pg_name (i := 5) scSO.nd rfl (Or.inl rfl)) (fun _ _ _ _ _ => pts_nil) (fun _ _ _ _ _ => pe_tup (pa_cons (pe_op op_add (pv 2) (pv 5)) (pa_cons (pv 3) pa_nil)))))) pss_nil)
      (pss_one (ps_ret (pe_lc (own := [("k", 5)]) (g := gName 5) (tt := tYes) rfl scSO.nd (pi_range1 rfl mr (pa_cons (pe_fld (pv 0) rfl) pa_nil)) (blkOk_by (N := nSO) (sc := defScope sSO) (by decide +kernel))
          (fun _ _ _ _ _ => pg_name (i := 5) scSO.nd rfl (Or.inl rfl)) (fun _ _ _ _ _ => pts_nil) (fun _ _ _ _ _ => pe_tup (pa_cons (pv 2) (pa_cons (pe_op op_add (pv 3) (pv 5)) pa_nil))))))), ?_⟩
    obtain ⟨x, y, d⟩ := b
    obtain ⟨dx, hd⟩ := hL
    refine ⟨_, rfl, t, _, rfl, SqT.of ht, rfl, _, _, rfl, _, _, rfl, _, _, rfl, rfl, ?_⟩
    refine ⟨_, rfl, rfl, _, rfl, ?_⟩
    have ed : decide (V.int (d : Nat) = V.int 1) = decide (d = 1) := by
      rw [dec_int, Bool.eq_iff_iff, beq_iff_eq, decide_eq_true_iff]
      omega
    rw [ed]
    by_cases c : d = 1
    · refine ifT (decide_eq_true c) ?_
      refine ⟨_, rfl, _, _, _, _, _, rfl, hd, T.cl, T.nL, lF_n _ _ _, (n : Nat), rfl, by omega, by omega, fun D hD => ?_⟩
      refine lc_range (lo := 0) (n := n) (fun j H2 => Same H H2 ∧ TupL sqV H2 D ((List.range j).map fun k => (x + k, y))) ⟨same_new hD, TupL.new⟩ ?_ ?_
      · rintro j H2 hj ⟨s2, t2⟩
        refine ⟨rfl, ?_⟩
        refine ⟨_, rfl, _, rfl, _, _, rfl, rfl, _, rfl, (by show 2 ≤ sizeLine; decide), fun u hu => ?_⟩
        have e : [V.int ((x : Int) + (0 + (j : Int))), V.int (y : Nat)] = sqV (x + j, y) := by
          rw [zero_add_int]
          rfl
        have z := t2.push (q := (x + j, y)) hu
        rw [← e] at z
        obtain ⟨acc, f1, f2, f3⟩ := z
        refine ⟨acc, f1, small1000 (by rw [f2]; simp; omega), same_put (s2.trans (same_new hu)) hD, ?_⟩
        rw [range_map_succ]
        exact f3
      · rintro H2 ⟨s2, t2⟩
        refine k H2 D s2 ?_
        unfold sqOf
        rw [if_pos c]
        exact t2
    · refine ifF (decide_eq_false c) ?_
      refine ⟨_, rfl, _, _, _, _, _, rfl, hd, T.cl, T.nL, lF_n _ _ _, (n : Nat), rfl, by omega, by omega, fun D hD => ?_⟩
      refine lc_range (lo := 0) (n := n) (fun j H2 => Same H H2 ∧ TupL sqV H2 D ((List.range j).map fun k => (x, y + k))) ⟨same_new hD, TupL.new⟩ ?_ ?_
      · rintro j H2 hj ⟨s2, t2⟩
        refine ⟨rfl, ?_⟩
        refine ⟨_, rfl, _, rfl, _, rfl, _, _, rfl, rfl, (by show 2 ≤ sizeLine; decide), fun u hu => ?_⟩
        have e : [V.int (x : Nat), V.int ((y : Int) + (0 + (j : Int)))] = sqV (x, y + j) := by
          rw [zero_add_int]
          rfl
        have z := t2.push (q := (x, y + j)) hu
        rw [← e] at z
        obtain ⟨acc, f1, f2, f3⟩ := z
        refine ⟨acc, f1, small1000 (by rw [f2]; simp; omega), same_put (s2.trans (same_new hu)) hD, ?_⟩
        rw [range_map_succ]
        exact f3
      · rintro H2 ⟨s2, t2⟩
        refine k H2 D s2 ?_
        unfold sqOf
        rw [if_neg c]
        exact t2
abbrev nII : List Str := ["layer", "square", "x", "y"]
def spII (C : Addr) : Sp := fun vs H Q _ => ∃ (a : Addr) (wd h n : Nat) (v : V) (q : Sq), vs = [.ref a, v] ∧ LayerAt C H a wd h n ∧ TupIs H (sqV q) v ∧ Q (.bl (inM wd h q)) H
theorem scII : FnScope nII ["layer", "square"] (defScope sII) := ⟨rfl, rfl, rfl, by decide +kernel, rfl, by decide +kernel, by decide +kernel⟩
theorem d_II (FD : FunD K mg "is_inside" sII ["layer", "square"]) (T : LayT K C) : Def P w K mg base CX0 1 "is_inside" ["layer", "square"] (spII C) := by
  refine FD.def fun f fd F => F.ok scII (fun vs H Q E h => ?_) (fun cdv A outer s H vs Q E hr h => ?_)
  · obtain ⟨a, wd, h, n, v, q, rfl, _⟩ := h
    rfl
  · obtain ⟨a, wd, h, n, v, q, rfl, ⟨dx, hd⟩, ⟨t, rfl, ht⟩, k⟩ := h
    refine ⟨_, pss_cons (ps_asg (pv 1) (pg_tup rfl (pgs_cons (pg_name (i := 2) scII.nd rfl (Or.inl rfl)) (pgs_cons (pg_name (i := 3) scII.nd rfl (Or.inl rfl)) pgs_nil))))
      (pss_one (ps_ret (pe_and (pe_cmpR op_lt (pv 2) (pe_fld (pv 0) rfl) (nomark _)) (pe_one (pe_cmpR op_lt (pv 3) (pe_fld (pv 0) rfl) (nomark _)))))), ?_⟩
    refine ⟨_, rfl, t, _, rfl, SqT.of ht, rfl, _, _, rfl, _, _, rfl, rfl, ?_⟩
    refine ⟨_, rfl, _, rfl, _, _, _, _, _, rfl, hd, T.cl, T.nW, lF_w _ _ _, _, _, rfl, rfl, _, rfl, ?_⟩
    unfold inM at k
    by_cases c : q.1 < wd
    · refine ifT (decide_eq_true (by omega)) ?_
      refine ⟨_, rfl, _, rfl, _, _, _, _, _, rfl, hd, T.cl, T.nH, lF_h _ _ _, _, _, rfl, rfl, ?_⟩
      rw [decide_eq_true c, Bool.true_and] at k
      have e : decide (((q.2 : Nat) : Int) < ((h : Nat) : Int)) = decide (q.2 < h) := by
        rw [Bool.eq_iff_iff, decide_eq_true_iff, decide_eq_true_iff]
        omega
      rw [← e] at k
      exact k
    · refine ifF (decide_eq_false (by omega)) ?_
      rw [decide_eq_false c, Bool.false_and] at k
      exact k
abbrev nFits : List Str := ["layer", "covered", "bar", "square"]
def spFits (C : Addr) : Sp := fun vs H Q _ => ∃ (a c : Addr) (wd h n : Nat) (cov : List Sq) (v : V) (b : Br), vs = [.ref a, .ref c, v] ∧ LayerAt C H a wd h n ∧ n ≤ 6 ∧ TupL sqV H c cov ∧ TupIs H (brV b) v ∧
  ∀ H', Same H H' → Q (.bl (fitsM wd h n cov b)) H'
theorem scFits : FnScope nFits ["layer", "covered", "bar"] (defScope sFits) := ⟨rfl, rfl, rfl, by decide +kernel, rfl, by decide +kernel, by decide +kernel⟩
theorem d_Fits (FD : FunD K mg "fits" sFits ["layer", "covered", "bar"]) (T : LayT K C) (DS : Def P w K mg base CX0 1 "squares_of" ["layer", "bar"] (spSO C)) (DI : Def P w K mg base CX0 1 "is_inside" ["layer", "square"] (spII C)) :
    Def P w K mg base CX0 2 "fits" ["layer", "covered", "bar"] (spFits C) := by
  refine FD.def fun f fd F => F.ok scFits (fun vs H Q E h => ?_) (fun cdv A outer s H vs Q E hr h => ?_)
  · obtain ⟨a, c, wd, h, n, cov, v, b, rfl, _⟩ := h
    rfl
  · obtain ⟨a, c, wd, h, n, cov, v, b, rfl, hL, hn6, hC, hB, k⟩ := h
    refine ⟨_, pss_cons (ps_for PassesOwn.never rfl (pi_list (pe_D DS pass0 hr (pa_cons (pv 0) (pa_cons (pv 2) pa_nil)))) (pg_name (i := 3) scFits.nd rfl (Or.inl rfl))
        (pss_one (ps_if (pw_or (pt_not (pt_val (pe_D DI pass0 hr (pa_cons (pv 0) (pa_cons (pv 3) pa_nil))))) (pw_or1 (pt_cmpR (op_inD (hu65 hr)) (pv 3) (pv 1) rfl))).pt (pss_one (ps_ret pe_bl)) pss_nil)))
      (pss_one (ps_ret pe_bl)), ?_⟩
    refine ⟨_, rfl, _, rfl, a, wd, h, n, v, b, rfl, hL, hn6, hB, fun H1 p s1 hp => ?_⟩
    obtain ⟨vs, hv, hlen, hit⟩ := hp.item
    refine ⟨p, rfl, ⟨vs, SqL.of hv⟩, ?_⟩
    refine for_list (K := K) (a := p) (xs := vs) (fun i σ H' => ∃ u : Option V, σ = [some (.ref a), some (.ref c), some v, u] ∧ Same H1 H' ∧ ((sqOf n b).take i).all (okSq wd h cov) = true)
      ⟨none, rfl, Same.refl _, by simp⟩ (fun i σ H' _ ⟨_, _, s2, _⟩ => SqL.of (s2 _ _ hv)) ?_ ?_
    · rintro i x σ H2 hi ⟨u, rfl, s2, hall⟩
      obtain ⟨q, hq, ht⟩ := hit i x hi
      have no : okSq wd h cov q = false → fitsM wd h n cov b = false := fun e => by
        unfold fitsM
        rw [List.all_eq_false]
        exact ⟨q, List.mem_of_getElem? hq, by rw [e]; exact Bool.false_ne_true⟩
      refine ⟨_, rfl, _, rfl, a, wd, h, n, x, q, rfl, (hL.same s1).same s2, ht.same s2, _, rfl, ?_⟩
      cases e1 : inM wd h q with
      | false =>
        have z := k H2 (s1.trans s2)
        rw [no (by unfold okSq; rw [e1, Bool.false_and])] at z
        exact z
      | true =>
        refine ⟨_, rfl, _, rfl, in_sqs ((hC.same s1).same s2) (ht.same s2) ⟨_, rfl, ?_⟩⟩
        by_cases e2 : q ∈ cov
        · refine ifT (decide_eq_true e2) ?_
          have z := k H2 (s1.trans s2)
          rw [no (by unfold okSq; rw [e1, decide_eq_true e2] <;> rfl)] at z
          exact z
        · refine ifF (decide_eq_false e2) ?_
          refine ⟨_, rfl, s2, ?_⟩
          rw [take_more2 hq, List.all_append, hall]
          unfold okSq
          simp [e1, e2]
    · rintro σ H2 ⟨u, rfl, s2, hall⟩
      rw [hlen, List.take_length] at hall
      have z := k H2 (s1.trans s2)
      unfold fitsM at z
      rw [hall] at z
      exact z
end
/-! ### covered_by, need_bars -/
theorem drop_of {α : Type} {l : List α} {i : Nat} {x : α} (h : l[i]? = some x) : l.drop i = x :: l.drop (i + 1) := by
  obtain ⟨hi, e⟩ := List.getElem?_eq_some_iff.mp h
  rw [List.drop_eq_getElem_cons hi, e]
theorem rg3 {m : Nat} (h : m ≤ 20) : RgC 0 ((3 * m : Nat) : Int) 3 m := by
  have z : ∀ m : Fin 21, Builtin.Range.small 0 ((3 * m.val : Nat) : Int) 3 = true ∧ Builtin.Range.rangeSize 0 ((3 * m.val : Nat) : Int) 3 = ((m.val : Nat) : Int) := by decide +kernel
  obtain ⟨h1, h2⟩ := z ⟨m, by omega⟩
  exact ⟨by decide, by decide, h1, h2⟩
theorem parse_cons (x y d : Nat) (rest : List Nat) : parseM (x :: y :: d :: rest) = if 7 < x ∨ 7 < y ∨ 1 < d then none else (parseM rest).map fun p => (x, y, d) :: p := by rw [parseM]
def nV (ms : List Nat) : List V := (nInts ms).map V.int
theorem nV_len (ms : List Nat) : (nV ms).length = ms.length := by simp [nV, nInts]
theorem nV_get {ms : List Nat} {j x : Nat} (h : ms[j]? = some x) : (nV ms)[j]? = some (.int (x : Nat)) := by simp [nV, nInts, h]
theorem le_dec (x n : Nat) : decide ((x : Int) ≤ (n : Int)) = decide (x ≤ n) := by
  rw [Bool.eq_iff_iff, decide_eq_true_iff, decide_eq_true_iff]
  omega
section
variable {P : Program} {w : World} {K : PySem.W.Frag} {mg : Str → Option Value} {base : Heap} {C CR : Addr}
abbrev nCB : List Str := ["layer", "bars", "covered", "bar"]
def spCB (C : Addr) : Sp := fun vs H Q _ => ∃ (a p : Addr) (wd h n : Nat) (bars : List Br), vs = [.ref a, .ref p] ∧ LayerAt C H a wd h n ∧ n ≤ 6 ∧ TupL brV H p bars ∧ bars.length ≤ 100 ∧
  ∀ H' v, Same H H' → OptL sqV H' v (coverM wd h n [] bars) → Q v H'
theorem scCB : FnScope nCB ["layer", "bars"] (defScope sCB) := ⟨rfl, rfl, rfl, by decide +kernel, rfl, by decide +kernel, by decide +kernel⟩
theorem d_CB (FD : FunD K mg "covered_by" sCB ["layer", "bars"]) (T : LayT K C) (DF : Def P w K mg base CX0 2 "fits" ["layer", "covered", "bar"] (spFits C)) (DS : Def P w K mg base CX0 1 "squares_of" ["layer", "bar"] (spSO C)) :
    Def P w K mg base CX0 3 "covered_by" ["layer", "bars"] (spCB C) := by
  refine FD.def fun f fd F => F.ok scCB (fun vs H Q E h => ?_) (fun cdv A outer s H vs Q E hr h => ?_)
  · obtain ⟨a, p, wd, h, n, bars, rfl, _⟩ := h
    rfl
  · obtain ⟨a, p, wd, h, n, bars, rfl, hL, hn6, hB, hb, k⟩ := h
    refine ⟨_, pss_cons (ps_set (i := 2) scCB.nd rfl (Or.inl rfl) (pe_lst pa_nil))
      (pss_cons (ps_for PassesOwn.never rfl (pi_list (pv 1)) (pg_name (i := 3) scCB.nd rfl (Or.inl rfl))
        (pss_cons (ps_if (pt_not (pt_val (pe_D DF pass0 hr (pa_cons (pv 0) (pa_cons (pv 2) (pa_cons (pv 3) pa_nil)))))) (pss_one (ps_ret pe_non)) pss_nil)
        (pss_one (ps_set (i := 2) scCB.nd rfl (Or.inl rfl) (pe_op op_cat (pv 2) (pe_D DS pass0 hr (pa_cons (pv 0) (pa_cons (pv 3) pa_nil))))))))
      (pss_one (ps_ret (pv 2)))), ?_⟩
    refine ⟨(by decide), fun c0 hc0 => ?_⟩
    obtain ⟨vs, hv, hlen, hit⟩ := hB.item
    have s0 : Same H (upd H c0 (.lst [])) := same_new hc0
    refine ⟨_, rfl, p, rfl, ⟨vs, SqL.of (s0 _ _ hv)⟩, ?_⟩
    refine for_list (K := K) (a := p) (xs := vs) (fun i σ H' => ∃ (u : Option V) (c : Addr) (cov : List Sq), σ = [some (.ref a), some (.ref p), some (.ref c), u] ∧ Same H H' ∧ TupL sqV H' c cov ∧ cov.length ≤ i * 6 ∧ i ≤ 100 ∧ coverM wd h n [] bars = coverM wd h n cov (bars.drop i))
      ⟨none, c0, [], rfl, s0, TupL.new, Nat.zero_le _, Nat.zero_le _, rfl⟩ (fun i σ H' _ ⟨_, _, _, _, s2, _⟩ => SqL.of (s2 _ _ hv)) ?_ ?_
    · rintro i x σ H2 hi ⟨u, c, cov, rfl, s2, hc, hcl, hi1, hcm⟩
      obtain ⟨b, hq, ht⟩ := hit i x hi
      obtain ⟨hi2, _⟩ := List.getElem?_eq_some_iff.mp hq
      rw [drop_of hq] at hcm
      refine ⟨_, rfl, _, rfl, _, rfl, a, c, wd, h, n, cov, x, b, rfl, hL.same s2, hn6, hc, ht.same s2, fun H3 s3 => ⟨_, rfl, ?_⟩⟩
      cases e : fitsM wd h n cov b with
      | false =>
        refine k H3 _ (s2.trans s3) ?_
        rw [hcm]
        unfold coverM
        rw [if_neg (by rw [e]; exact Bool.false_ne_true)]
        rfl
      | true =>
        refine ⟨_, rfl, _, rfl, _, rfl, a, wd, h, n, x, b, rfl, (hL.same s2).same s3, hn6, (ht.same s2).same s3, fun H4 r s4 hr4 => ?_⟩
        obtain ⟨ys, zs, f1, f2, f3, f4, f5⟩ := ((hc.same s3).same s4).cat hr4
        rw [sqOf_len] at f4
        refine ⟨c, r, ys, zs, rfl, rfl, f1, f2, Nat.le_of_lt (small1000 (by rw [f3, f4]; omega)), fun z hz => ?_⟩
        refine ⟨_, z, cov ++ sqOf n b, rfl, ((s2.trans s3).trans s4).trans (same_new hz), f5 z hz, ?_, by omega, ?_⟩
        · rw [List.length_append, sqOf_len]
          omega
        · rw [hcm]
          show (if fitsM wd h n cov b = true then coverM wd h n (cov ++ sqOf n b) (bars.drop (i + 1)) else none) = _
          rw [if_pos e]
    · rintro σ H2 ⟨u, c, cov, rfl, s2, hc, hcl, hi1, hcm⟩
      refine ⟨_, rfl, k H2 _ s2 ?_⟩
      rw [hcm, hlen, List.drop_length]
      exact ⟨c, rfl, hc⟩
abbrev nNB : List Str := ["numbers", "bars", "k", "x", "y", "direction"]
def spNB (K : PySem.W.Frag) (CR : Addr) : Sp := fun vs H Q E => ∃ (a : Addr) (ms : List Nat), vs = [.ref a] ∧ SqL K H a (nV ms) ∧ ms.length ≤ 60 ∧
  (∀ p, parseM ms = some p → ∀ H' q, Same H H' → TupL brV H' q p → Q (.ref q) H') ∧ (parseM ms = none → Bad CR (-22) E H)
theorem scNB : FnScope nNB ["numbers"] (defScope sNB) := ⟨rfl, rfl, rfl, by decide +kernel, rfl, by decide +kernel, by decide +kernel⟩
theorem d_NB (FD : FunD K mg "need_bars" sNB ["numbers"]) (gO : ∃ t, mg "OUT_OF_RANGE" = some (.int (-22) t)) (gM : ∃ t, mg "MOST_PLACE" = some (.int 7 t)) (gB : ∃ t, mg "BAR_NUMBERS" = some (.int 3 t)) (mr : mg "range" = none) (ml : mg "len" = none)
    (D : Def P w K mg base (L2.CX P w) 3 "need" nNeed (spNeed CR)) : Def P w K mg base (L2.CX P w) 4 "need_bars" ["numbers"] (spNB K CR) := by
  obtain ⟨tO, gO⟩ := gO
  obtain ⟨tM, gM⟩ := gM
  obtain ⟨tB, gB⟩ := gB
  refine FD.def fun f fd F => F.okX scNB (fun vs H Q E h => ?_) (fun cdv A outer s H vs Q E hr h => ?_)
  · obtain ⟨a, ms, rfl, _⟩ := h
    rfl
  · obtain ⟨a, ms, rfl, hS, hlen, kS, kN⟩ := h
    refine ⟨_, pss_cons (ps_expr (pe_D D (passes_call (takes_of rfl rfl rfl rfl) fun _ _ _ _ z => z) hr
        (pa_cons (pe_cmpR op_eq (pe_op op_mod (pe_callB call_len_seq rfl ml (by decide +kernel) (pa_cons (pv 0) pa_nil)) (pe_glob (v := .int 3) rfl gB ⟨_, rfl⟩)) pe_int (nomark _)) (pa_cons (pe_glob (v := .int (-22)) rfl gO ⟨_, rfl⟩) pa_nil))))
      (pss_cons (ps_set (i := 1) scNB.nd rfl (Or.inl rfl) (pe_lst pa_nil))
      (pss_cons (ps_for (passes_of rfl) rfl (pi_range3 rfl mr (pa_cons pe_int (pa_cons (pe_callB call_len_seq rfl ml (by decide +kernel) (pa_cons (pv 0) pa_nil)) (pa_cons (pe_glob (v := .int 3) rfl gB ⟨_, rfl⟩) pa_nil)))) (pg_name (i := 2) scNB.nd rfl (Or.inl rfl))
        (pss_cons (ps_par3 (i := 3) (j := 4) (l := 5) rfl scNB.nd rfl rfl rfl (by decide) (by decide) (by decide) rfl rfl rfl
            (pa_cons (pe_ix ix_list (pv 0) (pv 2) (fun _ _ => rfl)) (pa_cons (pe_ix ix_list (pv 0) (pe_op op_add (pv 2) pe_int) (fun _ _ => rfl)) (pa_cons (pe_ix ix_list (pv 0) (pe_op op_add (pv 2) pe_int) (fun _ _ => rfl)) pa_nil))) rfl)
        (pss_cons (ps_expr (pe_D D (passes_call (takes_of rfl rfl rfl rfl) fun _ _ _ _ z => z) hr
            (pa_cons (pe_and (pe_cmpR op_le (pv 3) (pe_glob (v := .int 7) rfl gM ⟨_, rfl⟩) (nomark _)) (pe_and (pe_cmpR op_le (pv 4) (pe_glob (v := .int 7) rfl gM ⟨_, rfl⟩) (nomark _)) (pe_one (pe_cmpR op_le (pv 5) pe_int (nomark _))))) (pa_cons (pe_glob (v := .int (-22)) rfl gO ⟨_, rfl⟩) pa_nil))))
        (pss_one (ps_expr (pe_bm PySem.F.plainAttrs_list PySem.F.slot_list_append PySem.F.type_list_append mt_append (pv 1) (pa_cons (pe_tup (pa_cons (pv 3) (pa_cons (pv 4) (pa_cons (pv 5) pa_nil)))) pa_nil)))))))
      (pss_one (ps_ret (pv 1))))), ?_⟩
    refine ⟨_, rfl, a, nV ms, rfl, .inl hS, _, _, rfl, rfl, (by show (0 : Int) < 3; decide), rfl, ?_⟩
    have ed : decide (V.int (((nV ms).length : Int) % 3) = V.int 0) = decide (ms.length % 3 = 0) := by
      rw [dec_int, nV_len, Bool.eq_iff_iff, beq_iff_eq, decide_eq_true_iff]
      omega
    rw [ed]
    refine ⟨_, _, rfl, fun c => ?_, fun c => kN (parse_odd ms (of_decide_eq_false c))⟩
    have c := of_decide_eq_true c
    obtain ⟨m, hm⟩ : ∃ m, ms.length = 3 * m := ⟨ms.length / 3, by omega⟩
    refine ⟨(by decide), fun q hq => ?_⟩
    have sq : Same H (upd H q (.lst [])) := same_new hq
    have cs : ∀ {H1 : Hp}, Same H H1 → SqL K H1 a (nV ms) := fun s => s.seq hS
    refine ⟨_, rfl, a, nV ms, rfl, .inl (cs sq), 0, _, 3, m, rfl, (by rw [nV_len, hm]; exact rg3 (by omega)), ?_⟩
    refine for_rangeC (lo := 0) (c := 3) (n := m) (fun i σ H' => ∃ (u1 u2 u3 u4 : Option V) (acc : List Br), σ = [some (.ref a), some (.ref q), u1, u2, u3, u4] ∧ Same H H' ∧ TupL brV H' q acc ∧ acc.length = i ∧ parseM ms = (parseM (ms.drop (3 * i))).map fun p => acc ++ p)
      ⟨none, none, none, none, [], rfl, sq, TupL.new, rfl, ?_⟩ ?_ ?_
    · show parseM ms = (parseM ms).map fun p => [] ++ p
      cases parseM ms <;> rfl
    · rintro i σ H2 hi ⟨u1, u2, u3, u4, acc, rfl, s2, hA, hAl, hP⟩
      obtain ⟨x, y, d, g1, g2, g3, g4⟩ := drop3 (i := i) c (by omega)
      rw [g4] at hP
      have i1 : (0 : Int) + (i : Int) * 3 = ((3 * i : Nat) : Int) := by omega
      have i2 : (0 : Int) + (i : Int) * 3 + 1 = ((3 * i + 1 : Nat) : Int) := by omega
      have i3 : (0 : Int) + (i : Int) * 3 + 2 = ((3 * i + 2 : Nat) : Int) := by omega
      refine ⟨_, rfl, _, rfl, a, _, _, _, rfl, rfl, cs s2, at_of i1 (nV_get g1), ?_⟩
      refine ⟨_, rfl, _, rfl, _, _, rfl, rfl, a, _, _, _, rfl, rfl, cs s2, at_of i2 (nV_get g2), ?_⟩
      refine ⟨_, rfl, _, rfl, _, _, rfl, rfl, a, _, _, _, rfl, rfl, cs s2, at_of i3 (nV_get g3), ?_⟩
      refine ⟨_, _, _, rfl, ?_⟩
      have bad : (7 < x ∨ 7 < y ∨ 1 < d) → Bad CR (-22) E H2 := fun z => Bad.same s2 (kN (by
        rw [hP, parse_cons, if_pos z]
        rfl))
      -- the three tests
      refine ⟨_, rfl, _, _, rfl, rfl, _, rfl, ?_⟩
      by_cases cx : x ≤ 7
      · refine ifT (decide_eq_true (by omega)) ?_
        refine ⟨_, rfl, _, _, rfl, rfl, _, rfl, ?_⟩
        by_cases cy : y ≤ 7
        · refine ifT (decide_eq_true (by omega)) ?_
          refine ⟨_, rfl, _, _, rfl, rfl, ?_⟩
          refine ⟨_, _, rfl, fun cd => ?_, fun cd => bad ?_⟩
          · have cd := of_decide_eq_true cd
            refine ⟨_, rfl, .inl ⟨rfl, _, SqL.of hA.item.choose_spec.1⟩, _, rfl, _, rfl, _, rfl, (by show 3 ≤ sizeLine; decide), fun t ht => ?_⟩
            obtain ⟨acc', f1, f2, f3⟩ := hA.push (q := (x, y, d)) ht
            refine ⟨q, acc', _, rfl, rfl, f1, small1000 (by omega), ?_⟩
            refine ⟨_, _, _, _, acc ++ [(x, y, d)], rfl, same_put (s2.trans (same_new ht)) hq, f3, by simp [hAl], ?_⟩
            rw [hP, parse_cons, if_neg (by omega), Option.map_map]
            congr 1
            funext p
            simp
          · have cd := of_decide_eq_false cd
            omega
        · refine ifF (decide_eq_false (by omega)) ?_
          exact ⟨_, _, rfl, fun e => Bool.noConfusion e, fun _ => bad (by omega)⟩
      · refine ifF (decide_eq_false (by omega)) ?_
        exact ⟨_, _, rfl, fun e => Bool.noConfusion e, fun _ => bad (by omega)⟩
    · rintro σ H2 ⟨u1, u2, u3, u4, acc, rfl, s2, hA, hAl, hP⟩
      refine ⟨_, rfl, kS acc ?_ H2 q s2 hA⟩
      rw [hP, ← hm, List.drop_length]
      simp [parseM]
end
/-! ### the def of the interface: three whole numbers and a list -/
def dueE (o : Except Int (List Int)) : List Int := match o with
  | .ok l => l
  | .error e => [e]
theorem nats_of {x y z : Int} {l : List Int} (q : (PySem.W.Codec.inInt 0 4294967295 x && (PySem.W.Codec.inInt 0 4294967295 y && (PySem.W.Codec.inInt 0 4294967295 z && ((PySem.W.Codec.inLen 0 60 l && l.all (PySem.W.Codec.inInt 0 4294967295)) && true)))) = true) :
    ∃ ms : List Nat, l = nInts ms ∧ ms.length ≤ 60 := by
  rw [Bool.and_eq_true, Bool.and_eq_true, Bool.and_eq_true, Bool.and_eq_true, Bool.and_eq_true] at q
  have hl := (PySem.W.Codec.inNat_iff.mp q.2.2.2.1.1).2
  have ha := List.all_eq_true.mp q.2.2.2.1.2
  refine ⟨l.map Int.toNat, ?_, by rw [List.length_map]; exact hl⟩
  unfold nInts
  rw [List.map_map]
  refine (List.map_id l).symm.trans (List.map_congr_left fun a m => ?_)
  have := (PySem.W.Codec.inInt_iff.mp (ha a m)).1
  show a = ((a.toNat : Nat) : Int)
  omega
def spA4 (K : PySem.W.Frag) (CR : Addr) (A : Nat → Nat → Nat → List Nat → Except Int (List Int)) : Sp := fun vs H Q E => ∃ (a b c : Int) (l : Addr) (ms : List Nat), vs = [.int a, .int b, .int c, .ref l] ∧ SqL K H l (nV ms) ∧ ms.length ≤ 60 ∧
  (ok3 a b c = true → (∀ m, A a.toNat b.toNat c.toNat ms = .ok m → ∀ H' p, Same H H' → H' p = some (.lst (m.map V.int)) → Q (.ref p) H') ∧ (∀ e, A a.toNat b.toNat c.toNat ms = .error e → Bad CR e E H)) ∧
  (ok3 a b c = false → Bad CR (-22) E H)
def spM4 (K : PySem.W.Frag) (A : Nat → Nat → Nat → List Nat → Except Int (List Int)) : Sp := fun vs H Q _ => ∃ (a b c : Int) (l : Addr) (ms : List Nat), vs = [.int a, .int b, .int c, .ref l] ∧ SqL K H l (nV ms) ∧ ms.length ≤ 60 ∧
  ∀ H' p, H' p = some (.lst ((if ok3 a b c = true then dueE (A a.toNat b.toNat c.toNat ms) else [-22]).map V.int)) → Q (.ref p) H'
section
variable {P : Program} {w : World} {K : PySem.W.Frag} {mg : Str → Option Value} {base : Heap} {CR fR : Addr} {A4 : Nat → Nat → Nat → List Nat → Except Int (List Int)}
abbrev nM4P : List Str := ["width", "height", "length", "bars"]
abbrev nA4P : List Str := ["width", "height", "length", "numbers"]
abbrev nM4 : List Str := ["width", "height", "length", "bars", "refusal"]
theorem scM4 : FnScope nM4 nM4P (defScope sMain) := ⟨rfl, rfl, rfl, by decide +kernel, rfl, by decide +kernel, by decide +kernel⟩
theorem lk_number {n : Int} : List.lookup ("number" : Str) [(("number" : Str), V.int n)] = some (V.int n) := lk_here
theorem d_M4 {x y : Str} {f : Addr} {fd : FuncData} (F : Fun K x x sMain f fd) (T : RefT K mg CR fR) (D : Def P w K mg base (L2.CX P w) 7 y nA4P (spA4 K CR A4)) (hy : y = "covered_answer") (hx : x = "covered_colours") : FnOk P w K mg base CX0 8 f fd nM4P (spM4 K A4) := by
  subst hy hx
  refine F.ok scM4 (fun vs H Q E h => ?_) (fun cdv A outer s H vs Q E hr h => ?_)
  · obtain ⟨a, b, c, l, ms, rfl, _⟩ := h
    rfl
  · obtain ⟨a, b, c, l, ms, rfl, hS, hlen, k⟩ := h
    refine ⟨_, pss_one (ps_try_as (i := 4) (tb := fun W => tRet (tCallS (spA4 K CR A4) (WE W) (tCons (tVar 0) (tCons (tVar 1) (tCons (tVar 2) (tCons (tVar 3) tNil))))))
      (ts := fun a cls d => tRet (tLst (tCons (tXf a cls d CR "number" (tVar 4)) tNil))) (Wout := fun _ _ _ _ => False) rfl rfl scM4.nd rfl rfl ⟨rfl, by decide, Or.inl T.gC⟩ takes0
      (fun W pn xe tk _ => pss_one (ps_ret (by exact (pe_DS D (fun σ => passAt tk σ) hr (by exact (pa_cons (pv 0) (pa_cons (pv 1) (pa_cons (pv 2) (pa_cons (pv 3) pa_nil)))))))))
      (fun a oe cls d pn hz hf => pss_one (ps_ret (pe_lst (pa_cons (pe_xf T.xf T.no hz hf (pv 4)) pa_nil))))), ?_⟩
    have bad : ∀ n : Int, (if ok3 a b c = true then dueE (A4 a.toNat b.toNat c.toNat ms) else [-22]) = [n] →
        Bad CR n (WE (wAs K (.ref CR) 4 (fun a cls d => tRet (tLst (tCons (tXf a cls d CR "number" (tVar 4)) tNil))) (fun _ _ _ _ => False) { nx := fun _ H' => Q .non H', rt := Q }) (start nM4 [.int a, .int b, .int c, .ref l])) H := by
      intro n e d H' _ hd
      refine ⟨true, T.te, fun _ a0 _ => ?_, fun q => Bool.noConfusion q⟩
      refine ⟨_, rfl, rfl, rfl, d, _, _, rfl, hd, lk_number, (by show 1 ≤ sizeLine; decide), fun p _ => ?_⟩
      refine k _ p ?_
      rw [e]
      exact upd_same
    refine ⟨_, rfl, _, rfl, _, rfl, _, rfl, a, b, c, l, ms, rfl, hS, hlen, fun e => ⟨fun m el H' p s1 hp => ?_, fun n el => bad n ?_⟩, fun e => bad (-22) ?_⟩
    · refine k H' p ?_
      rw [if_pos e, el]
      exact hp
    · rw [if_pos e, el]
      rfl
    · rw [e, if_neg Bool.false_ne_true]
end
theorem told3 {K : PySem.W.Frag} {H : Hp} {p : Addr} {l m : List Int} (e : m = l) (h : H p = some (.lst (l.map V.int))) : Dw K H (.ref p) (.list (m.map PySem.W.WData.int)) := by
  subst e
  exact .lst (L2.SqL.of h) (L2.dw_ints _)
/-! ### covered_answer -/
def due06 (w h n : Nat) (ms : List Nat) : Except Int (List Int) := match parseM ms with
  | none => .error (-22)
  | some bars => match coverM w h n [] bars with
    | none => .error (-33)
    | some cov => .ok ((cov.length : Int) :: nInts (countsM n cov))
theorem is06 (w h n : Int) (ms : List Nat) : PyKbe4.covered_colours w h n (nInts ms) = if ok3 w h n = true then dueE (due06 w.toNat h.toNat n.toNat ms) else [-22] := by
  rw [due_covered]
  unfold due06 coveredA
  cases parseM ms with
  | none => rfl
  | some bars =>
    dsimp only
    cases coverM w.toNat h.toNat n.toNat [] bars <;> rfl
theorem ctV_ints (l : List Nat) : ctV l = (nInts l).map V.int := by
  unfold ctV nInts
  rw [List.map_map]
  rfl
theorem cover_len2 {w h n : Nat} {bars : List Br} {cov : List Sq} (e : coverM w h n [] bars = some cov) : cov.length = bars.length * n := by
  rw [cover_spec] at e
  split at e
  · rw [← Option.some.inj e, flat_len]
  · cases e
section
variable {P : Program} {w : World} {K : PySem.W.Frag} {mg : Str → Option Value} {base : Heap} {C CR : Addr}
abbrev nAns : List Str := ["width", "height", "length", "numbers", "layer", "covered"]
theorem scAns : FnScope nAns nA4P (defScope sAns) := ⟨rfl, rfl, rfl, by decide +kernel, rfl, by decide +kernel, by decide +kernel⟩
theorem d_Ans (FD : FunD K mg "covered_answer" sAns nA4P) (gN : ∃ t, mg "NOT_SO" = some (.int (-33) t)) (zl : mg "len" = none) (DL : Def P w K mg base (L2.CX P w) 6 "layer_for" nN3 (spLay C CR)) (DC : Def P w K mg base CX0 3 "covered_by" ["layer", "bars"] (spCB C)) (DN : Def P w K mg base (L2.CX P w) 4 "need_bars" ["numbers"] (spNB K CR))
    (D : Def P w K mg base (L2.CX P w) 3 "need" nNeed (spNeed CR)) (DS : Def P w K mg base CX0 2 "colours_of" ["layer", "squares"] (spCS C)) : Def P w K mg base (L2.CX P w) 7 "covered_answer" nA4P (spA4 K CR due06) := by
  obtain ⟨tN, gN⟩ := gN
  refine FD.def fun f fd F => F.okX scAns (fun vs H Q E h => ?_) (fun cdv A outer s H vs Q E hr h => ?_)
  · obtain ⟨a, b, c, l, ms, rfl, _⟩ := h
    rfl
  · obtain ⟨a, b, c, l, ms, rfl, hS, hlen, kT, kF⟩ := h
    refine ⟨_, pss_cons (ps_set (i := 4) scAns.nd rfl (Or.inl rfl) (pe_D DL (passes_call (takes_of rfl rfl rfl rfl) fun _ _ _ _ z => z) hr (pa_cons (pv 0) (pa_cons (pv 1) (pa_cons (pv 2) pa_nil)))))
      (pss_cons (ps_set (i := 5) scAns.nd rfl (Or.inl rfl) (pe_D DC pass0 hr (pa_cons (pv 4) (pa_cons (pe_D DN (passes_call (takes_of rfl rfl rfl rfl) fun _ _ _ _ z => z) hr (pa_cons (pv 3) pa_nil)) pa_nil))))
      (pss_cons (ps_expr (pe_D D (passes_call (takes_of rfl rfl rfl rfl) fun _ _ _ _ z => z) hr (pa_cons (pe_cmp (pc_notN (pv 5))) (pa_cons (pe_glob (v := .int (-33)) rfl gN ⟨_, rfl⟩) pa_nil))))
      (pss_one (ps_ret (pe_op op_cat (pe_lst (pa_cons (pe_callB call_len_seq rfl zl (by decide +kernel) (pa_cons (pv 5) pa_nil)) pa_nil)) (pe_D DS pass0 hr (pa_cons (pv 4) (pa_cons (pv 5) pa_nil)))))))), ?_⟩
    refine ⟨_, rfl, _, rfl, _, rfl, a, b, c, rfl, fun e => ?_, kF⟩
    obtain ⟨ha, hb, hc⟩ := and3 e
    have kT := kT e
    intro H1 y s1 hL
    refine ⟨_, rfl, _, rfl, l, ms, rfl, s1.seq hS, hlen, fun bars eb H2 q s2 hq => ?_, fun eb => Bad.same s1 (kT.2 (-22) (by unfold due06; rw [eb]))⟩
    have bl := parse_len ms bars eb
    refine ⟨y, q, _, _, _, bars, rfl, hL.same s2, (nat_of hc).2.2, hq, by omega, fun H3 v s3 hv => ?_⟩
    cases ec : coverM a.toNat b.toNat c.toNat [] bars with
    | none =>
      rw [ec] at hv
      have ev : v = V.non := hv
      subst ev
      refine ⟨_, rfl, _, _, rfl, fun z => Bool.noConfusion z, fun _ => ?_⟩
      refine Bad.same ((s1.trans s2).trans s3) (kT.2 (-33) ?_)
      unfold due06
      rw [eb]
      dsimp only
      rw [ec]
    | some cov =>
      rw [ec] at hv
      obtain ⟨p, ev, hp⟩ := hv
      subst ev
      refine ⟨_, rfl, _, _, rfl, fun _ => ?_, fun z => Bool.noConfusion z⟩
      obtain ⟨vs, hvs, hvl, _⟩ := hp.item
      refine ⟨_, rfl, p, vs, rfl, .inl (SqL.of hvs), (by show 1 ≤ sizeLine; decide), fun z hz => ?_⟩
      refine ⟨_, rfl, _, rfl, y, p, _, _, _, cov, rfl, ((hL.same s2).same s3).same (same_new hz), pos_of hc, (nat_of hc).2.2, hp.same (same_new hz), fun H4 r s4 hr4 => ?_⟩
      refine ⟨z, r, _, _, rfl, rfl, s4 _ _ upd_same, hr4, ?_, fun t ht => ?_⟩
      · rw [ctV_len, counts_len, sizeLine_eq]
        have := (nat_of hc).2.2
        show 1 + c.toNat ≤ 16777216
        omega
      · refine kT.1 ((cov.length : Int) :: nInts (countsM c.toNat cov)) ?_ _ t ((((s1.trans s2).trans s3).trans (same_new hz)).trans (s4.trans (same_new ht))) ?_
        · unfold due06
          rw [eb]
          dsimp only
          rw [ec]
        · rw [upd_same, hvl, ctV_ints]
          rfl
end
/-! ### the end: what the top has written -/
theorem all_mk {P : Program} {w : World} {K : PySem.W.Frag} {h : Heap} {mg : Str → Option Value} {fa C CR f_LI f_RI f_colour_of f_colours_of f_squares_of f_is_inside f_fits f_covered_by f_need f_need_size f_need_sizes f_need_bars f_layer_for f_ans f_main : Addr} (X : K.In h) (G : h.Ns mainGlobals mg) (hfa : mg "covered_colours" = some (.ref fa))
    {nm q : Str} {N : Addr} {bs : List Value} {sn : List Str} {sub : List Value} {ab : Bool} {col : Option Bool} {dd : Option Addr} {m0 m1 m2 m3 m5 : Option Value} {t_OUT_OF_RANGE t_NOT_SO t_MOST_SIZE t_MOST_PLACE t_BAR_NUMBERS : Tok}
    {od_LI an_LI od_RI an_RI od_colour_of an_colour_of od_colours_of an_colours_of od_squares_of an_squares_of od_is_inside an_is_inside od_fits an_fits od_covered_by an_covered_by od_need an_need od_need_size an_need_size od_need_sizes an_need_sizes od_need_bars an_need_bars od_layer_for an_layer_for od_ans an_ans od_main an_main : Option Addr} {sl_LI sl_RI sl_colour_of sl_colours_of sl_squares_of sl_is_inside sl_fits sl_covered_by sl_need sl_need_size sl_need_sizes sl_need_bars sl_layer_for sl_ans sl_main : Array (Option Value)} {oc_LI kV_LI dc_LI pm_LI cd_LI ct_LI oc_RI kV_RI dc_RI pm_RI cd_RI ct_RI oc_colour_of kV_colour_of dc_colour_of pm_colour_of cd_colour_of ct_colour_of oc_colours_of kV_colours_of dc_colours_of pm_colours_of cd_colours_of ct_colours_of oc_squares_of kV_squares_of dc_squares_of pm_squares_of cd_squares_of ct_squares_of oc_is_inside kV_is_inside dc_is_inside pm_is_inside cd_is_inside ct_is_inside oc_fits kV_fits dc_fits pm_fits cd_fits ct_fits oc_covered_by kV_covered_by dc_covered_by pm_covered_by cd_covered_by ct_covered_by oc_need kV_need dc_need pm_need cd_need ct_need oc_need_size kV_need_size dc_need_size pm_need_size cd_need_size ct_need_size oc_need_sizes kV_need_sizes dc_need_sizes pm_need_sizes cd_need_sizes ct_need_sizes oc_need_bars kV_need_bars dc_need_bars pm_need_bars cd_need_bars ct_need_bars oc_layer_for kV_layer_for dc_layer_for pm_layer_for cd_layer_for ct_layer_for oc_ans kV_ans dc_ans pm_ans cd_ans ct_ans oc_main kV_main dc_main pm_main cd_main ct_main : Value}
    (aL : PySem.W.nsIn K mainGlobals "Layer" = some (some (.ref C)))
    (aR : PySem.W.nsIn K mainGlobals "Refused" = some (some (.ref CR)))
    (i_OUT_OF_RANGE : PySem.W.nsIn K mainGlobals "OUT_OF_RANGE" = some (some (.int (-22) t_OUT_OF_RANGE)))
    (i_NOT_SO : PySem.W.nsIn K mainGlobals "NOT_SO" = some (some (.int (-33) t_NOT_SO)))
    (i_MOST_SIZE : PySem.W.nsIn K mainGlobals "MOST_SIZE" = some (some (.int (6) t_MOST_SIZE)))
    (i_MOST_PLACE : PySem.W.nsIn K mainGlobals "MOST_PLACE" = some (some (.int (7) t_MOST_PLACE)))
    (i_BAR_NUMBERS : PySem.W.nsIn K mainGlobals "BAR_NUMBERS" = some (some (.int (3) t_BAR_NUMBERS)))
    (b_range : PySem.W.nsIn K mainGlobals "range" = some none)
    (b_len : PySem.W.nsIn K mainGlobals "len" = some none)
    (a_LI : PySem.W.findIn K (.ref C) "__init__" = some (some (.ref f_LI)))
    (n_LI : PySem.W.isFn K (.ref f_LI) = true)
    (l_LI : K.lookup f_LI = some ⟨oc_LI, od_LI, .func (PySem.W.fnOf "__init__" "Layer.__init__" (defArgs sLI) (defBody sLI) (defScope sLI) .none kV_LI dc_LI pm_LI an_LI cd_LI ct_LI), sl_LI⟩)
    (c_LI : PySem.W.codeIn K cd_LI "Layer.__init__" = true)
    (k_LI : PySem.W.keepIn K (.ref f_LI) = true)
    (a_RI : PySem.W.findIn K (.ref CR) "__init__" = some (some (.ref f_RI)))
    (n_RI : PySem.W.typeIn K (.ref f_RI) = some (.type "function"))
    (l_RI : K.lookup f_RI = some ⟨oc_RI, od_RI, .func (PySem.W.fnOf "__init__" "Refused.__init__" (defArgs sRI) (defBody sRI) (defScope sRI) .none kV_RI dc_RI pm_RI an_RI cd_RI ct_RI), sl_RI⟩)
    (c_RI : PySem.W.codeIn K cd_RI "Refused.__init__" = true)
    (k_RI : PySem.W.keepIn K (.ref f_RI) = true)
    (a_colour_of : PySem.W.nsIn K mainGlobals "colour_of" = some (some (.ref f_colour_of)))
    (l_colour_of : K.lookup f_colour_of = some ⟨oc_colour_of, od_colour_of, .func (PySem.W.fnOf "colour_of" "colour_of" (defArgs sCO) (defBody sCO) (defScope sCO) .none kV_colour_of dc_colour_of pm_colour_of an_colour_of cd_colour_of ct_colour_of), sl_colour_of⟩)
    (c_colour_of : PySem.W.codeIn K cd_colour_of "colour_of" = true)
    (k_colour_of : PySem.W.keepIn K (.ref f_colour_of) = true)
    (a_colours_of : PySem.W.nsIn K mainGlobals "colours_of" = some (some (.ref f_colours_of)))
    (l_colours_of : K.lookup f_colours_of = some ⟨oc_colours_of, od_colours_of, .func (PySem.W.fnOf "colours_of" "colours_of" (defArgs sCS) (defBody sCS) (defScope sCS) .none kV_colours_of dc_colours_of pm_colours_of an_colours_of cd_colours_of ct_colours_of), sl_colours_of⟩)
    (c_colours_of : PySem.W.codeIn K cd_colours_of "colours_of" = true)
    (k_colours_of : PySem.W.keepIn K (.ref f_colours_of) = true)
    (a_squares_of : PySem.W.nsIn K mainGlobals "squares_of" = some (some (.ref f_squares_of)))
    (l_squares_of : K.lookup f_squares_of = some ⟨oc_squares_of, od_squares_of, .func (PySem.W.fnOf "squares_of" "squares_of" (defArgs sSO) (defBody sSO) (defScope sSO) .none kV_squares_of dc_squares_of pm_squares_of an_squares_of cd_squares_of ct_squares_of), sl_squares_of⟩)
    (c_squares_of : PySem.W.codeIn K cd_squares_of "squares_of" = true)
    (k_squares_of : PySem.W.keepIn K (.ref f_squares_of) = true)
    (a_is_inside : PySem.W.nsIn K mainGlobals "is_inside" = some (some (.ref f_is_inside)))
    (l_is_inside : K.lookup f_is_inside = some ⟨oc_is_inside, od_is_inside, .func (PySem.W.fnOf "is_inside" "is_inside" (defArgs sII) (defBody sII) (defScope sII) .none kV_is_inside dc_is_inside pm_is_inside an_is_inside cd_is_inside ct_is_inside), sl_is_inside⟩)
    (c_is_inside : PySem.W.codeIn K cd_is_inside "is_inside" = true)
    (k_is_inside : PySem.W.keepIn K (.ref f_is_inside) = true)
    (a_fits : PySem.W.nsIn K mainGlobals "fits" = some (some (.ref f_fits)))
    (l_fits : K.lookup f_fits = some ⟨oc_fits, od_fits, .func (PySem.W.fnOf "fits" "fits" (defArgs sFits) (defBody sFits) (defScope sFits) .none kV_fits dc_fits pm_fits an_fits cd_fits ct_fits), sl_fits⟩)
    (c_fits : PySem.W.codeIn K cd_fits "fits" = true)
    (k_fits : PySem.W.keepIn K (.ref f_fits) = true)
    (a_covered_by : PySem.W.nsIn K mainGlobals "covered_by" = some (some (.ref f_covered_by)))
    (l_covered_by : K.lookup f_covered_by = some ⟨oc_covered_by, od_covered_by, .func (PySem.W.fnOf "covered_by" "covered_by" (defArgs sCB) (defBody sCB) (defScope sCB) .none kV_covered_by dc_covered_by pm_covered_by an_covered_by cd_covered_by ct_covered_by), sl_covered_by⟩)
    (c_covered_by : PySem.W.codeIn K cd_covered_by "covered_by" = true)
    (k_covered_by : PySem.W.keepIn K (.ref f_covered_by) = true)
    (a_need : PySem.W.nsIn K mainGlobals "need" = some (some (.ref f_need)))
    (l_need : K.lookup f_need = some ⟨oc_need, od_need, .func (PySem.W.fnOf "need" "need" (defArgs sNeed) (defBody sNeed) (defScope sNeed) .none kV_need dc_need pm_need an_need cd_need ct_need), sl_need⟩)
    (c_need : PySem.W.codeIn K cd_need "need" = true)
    (k_need : PySem.W.keepIn K (.ref f_need) = true)
    (a_need_size : PySem.W.nsIn K mainGlobals "need_size" = some (some (.ref f_need_size)))
    (l_need_size : K.lookup f_need_size = some ⟨oc_need_size, od_need_size, .func (PySem.W.fnOf "need_size" "need_size" (defArgs sNS) (defBody sNS) (defScope sNS) .none kV_need_size dc_need_size pm_need_size an_need_size cd_need_size ct_need_size), sl_need_size⟩)
    (c_need_size : PySem.W.codeIn K cd_need_size "need_size" = true)
    (k_need_size : PySem.W.keepIn K (.ref f_need_size) = true)
    (a_need_sizes : PySem.W.nsIn K mainGlobals "need_sizes" = some (some (.ref f_need_sizes)))
    (l_need_sizes : K.lookup f_need_sizes = some ⟨oc_need_sizes, od_need_sizes, .func (PySem.W.fnOf "need_sizes" "need_sizes" (defArgs sN3) (defBody sN3) (defScope sN3) .none kV_need_sizes dc_need_sizes pm_need_sizes an_need_sizes cd_need_sizes ct_need_sizes), sl_need_sizes⟩)
    (c_need_sizes : PySem.W.codeIn K cd_need_sizes "need_sizes" = true)
    (k_need_sizes : PySem.W.keepIn K (.ref f_need_sizes) = true)
    (a_need_bars : PySem.W.nsIn K mainGlobals "need_bars" = some (some (.ref f_need_bars)))
    (l_need_bars : K.lookup f_need_bars = some ⟨oc_need_bars, od_need_bars, .func (PySem.W.fnOf "need_bars" "need_bars" (defArgs sNB) (defBody sNB) (defScope sNB) .none kV_need_bars dc_need_bars pm_need_bars an_need_bars cd_need_bars ct_need_bars), sl_need_bars⟩)
    (c_need_bars : PySem.W.codeIn K cd_need_bars "need_bars" = true)
    (k_need_bars : PySem.W.keepIn K (.ref f_need_bars) = true)
    (a_layer_for : PySem.W.nsIn K mainGlobals "layer_for" = some (some (.ref f_layer_for)))
    (l_layer_for : K.lookup f_layer_for = some ⟨oc_layer_for, od_layer_for, .func (PySem.W.fnOf "layer_for" "layer_for" (defArgs sLay) (defBody sLay) (defScope sLay) .none kV_layer_for dc_layer_for pm_layer_for an_layer_for cd_layer_for ct_layer_for), sl_layer_for⟩)
    (c_layer_for : PySem.W.codeIn K cd_layer_for "layer_for" = true)
    (k_layer_for : PySem.W.keepIn K (.ref f_layer_for) = true)
    (a_ans : PySem.W.nsIn K mainGlobals "covered_answer" = some (some (.ref f_ans)))
    (l_ans : K.lookup f_ans = some ⟨oc_ans, od_ans, .func (PySem.W.fnOf "covered_answer" "covered_answer" (defArgs sAns) (defBody sAns) (defScope sAns) .none kV_ans dc_ans pm_ans an_ans cd_ans ct_ans), sl_ans⟩)
    (c_ans : PySem.W.codeIn K cd_ans "covered_answer" = true)
    (k_ans : PySem.W.keepIn K (.ref f_ans) = true)
    (a_main : PySem.W.nsIn K mainGlobals "covered_colours" = some (some (.ref f_main)))
    (l_main : K.lookup f_main = some ⟨oc_main, od_main, .func (PySem.W.fnOf "covered_colours" "covered_colours" (defArgs sMain) (defBody sMain) (defScope sMain) .none kV_main dc_main pm_main an_main cd_main ct_main), sl_main⟩)
    (c_main : PySem.W.codeIn K cd_main "covered_colours" = true)
    (k_main : PySem.W.keepIn K (.ref f_main) = true)
    (pg : PySem.W.plainGet K C Str.empty = true)
    (hd : PySem.W.hasDictIn K C = true)
    (po : PySem.W.plainOver K C = true)
    (sa : PySem.W.findIn K (.ref C) "__setattr__" = some (some (.builtin "object.__setattr__")))
    (mk : PySem.W.makesIn K C = true)
    (kc : PySem.W.keepIn K (.ref C) = true)
    (n_width : PySem.W.findIn K (.ref C) "width" = some none)
    (n_height : PySem.W.findIn K (.ref C) "height" = some none)
    (n_length : PySem.W.findIn K (.ref C) "length" = some none)
    (xR : K.lookup CR = some (excClassObj nm q CR N bs [.type "ValueError", .type "Exception", .type "BaseException", .type "object"] true sn sub ab col dd m0 m1 m2 m3 m5 "ValueError.__new__"))
    (saR : PySem.W.findIn K (.ref CR) "__setattr__" = some (some (.builtin "object.__setattr__")))
    (gaR : PySem.W.findIn K (.ref CR) "__getattribute__" = some (some (.builtin "BaseException.__getattribute__")))
    (ggR : PySem.W.findIn K (.ref CR) "__getattr__" = some none)
    (noR : PySem.W.findIn K (.ref CR) "number" = some none)
    (kR : PySem.W.keepIn K (.ref CR) = true)
    (eR : PySem.W.subIn K (.ref CR) (.type "BaseException") = some true)
    (tR : PySem.W.typeIn K (.ref CR) = some (.type "type"))
    (hR : PySem.W.hasDictIn K CR = true)
    (cR : PySem.W.isClsIn K CR = true)
    (sR : PySem.W.subIn K (.ref CR) (.ref CR) = some true) :
    ∃ fd : FuncData, (∀ (s : Shared) (us : List Value), us.length = (nM4P : List Str).length → BindsTo s fd ⟨us, []⟩ ((nM4P : List Str).zip us)) ∧ ∀ base : Heap, K.In base → base.Ns mainGlobals mg → FnOk P w K mg base CX0 8 fa fd nM4P (spM4 K (due06)) := by
  have e := hfa.symm.trans (PySem.W.mg_of X G a_main)
  cases e
  have gL := PySem.W.mg_of X G aL
  have gOUT_OF_RANGE : ∃ t, mg "OUT_OF_RANGE" = some (.int (-22) t) := ⟨_, PySem.W.mg_of X G i_OUT_OF_RANGE⟩
  have gNOT_SO : ∃ t, mg "NOT_SO" = some (.int (-33) t) := ⟨_, PySem.W.mg_of X G i_NOT_SO⟩
  have gMOST_SIZE : ∃ t, mg "MOST_SIZE" = some (.int (6) t) := ⟨_, PySem.W.mg_of X G i_MOST_SIZE⟩
  have gMOST_PLACE : ∃ t, mg "MOST_PLACE" = some (.int (7) t) := ⟨_, PySem.W.mg_of X G i_MOST_PLACE⟩
  have gBAR_NUMBERS : ∃ t, mg "BAR_NUMBERS" = some (.int (3) t) := ⟨_, PySem.W.mg_of X G i_BAR_NUMBERS⟩
  have zrange := PySem.W.mg_none_of X G b_range
  have zlen := PySem.W.mg_none_of X G b_len
  have T : LayT K C := ⟨⟨pg, hd, po, sa⟩, n_width, n_height, n_length⟩
  have M : Mk K C f_LI := ⟨mk, a_LI, n_LI, kc⟩
  have R : RefT K mg CR f_RI := ⟨PySem.W.mg_of X G aR, ⟨⟨nm, q, N, bs, _, sn, sub, ab, col, dd, m0, m1, m2, m3, m5, xR, by decide +kernel⟩, saR, eR, tR, kR⟩, ⟨gaR, ggR, eR, hR⟩, noR, a_RI, n_RI, exm_self eR cR tR sR⟩
  have FLI := fun_mk (st := sLI) l_LI c_LI k_LI
  have FRI := fun_mk (st := sRI) l_RI c_RI k_RI
  have bI := FLI.binds (ps := nLI) fun _ _ _ _ _ _ us hl => match us, hl with | [_, _, _, _], _ => rfl
  have bR := FRI.binds (ps := nRI) fun _ _ _ _ _ _ us hl => match us, hl with | [_, _], _ => rfl
  have Fcolour_of := fund_mk (st := sCO) (ps := ["layer", "square"]) X G a_colour_of l_colour_of c_colour_of k_colour_of fun _ _ _ _ _ _ us hl => match us, hl with | [_, _], _ => rfl
  have Fcolours_of := fund_mk (st := sCS) (ps := ["layer", "squares"]) X G a_colours_of l_colours_of c_colours_of k_colours_of fun _ _ _ _ _ _ us hl => match us, hl with | [_, _], _ => rfl
  have Fsquares_of := fund_mk (st := sSO) (ps := ["layer", "bar"]) X G a_squares_of l_squares_of c_squares_of k_squares_of fun _ _ _ _ _ _ us hl => match us, hl with | [_, _], _ => rfl
  have Fis_inside := fund_mk (st := sII) (ps := ["layer", "square"]) X G a_is_inside l_is_inside c_is_inside k_is_inside fun _ _ _ _ _ _ us hl => match us, hl with | [_, _], _ => rfl
  have Ffits := fund_mk (st := sFits) (ps := ["layer", "covered", "bar"]) X G a_fits l_fits c_fits k_fits fun _ _ _ _ _ _ us hl => match us, hl with | [_, _, _], _ => rfl
  have Fcovered_by := fund_mk (st := sCB) (ps := ["layer", "bars"]) X G a_covered_by l_covered_by c_covered_by k_covered_by fun _ _ _ _ _ _ us hl => match us, hl with | [_, _], _ => rfl
  have Fneed := fund_mk (st := sNeed) (ps := nNeed) X G a_need l_need c_need k_need fun _ _ _ _ _ _ us hl => match us, hl with | [_, _], _ => rfl
  have Fneed_size := fund_mk (st := sNS) (ps := nNS) X G a_need_size l_need_size c_need_size k_need_size fun _ _ _ _ _ _ us hl => match us, hl with | [_], _ => rfl
  have Fneed_sizes := fund_mk (st := sN3) (ps := nN3) X G a_need_sizes l_need_sizes c_need_sizes k_need_sizes fun _ _ _ _ _ _ us hl => match us, hl with | [_, _, _], _ => rfl
  have Fneed_bars := fund_mk (st := sNB) (ps := ["numbers"]) X G a_need_bars l_need_bars c_need_bars k_need_bars fun _ _ _ _ _ _ us hl => match us, hl with | [_], _ => rfl
  have Flayer_for := fund_mk (st := sLay) (ps := nN3) X G a_layer_for l_layer_for c_layer_for k_layer_for fun _ _ _ _ _ _ us hl => match us, hl with | [_, _, _], _ => rfl
  have Fans := fund_mk (st := sAns) (ps := nA4P) X G a_ans l_ans c_ans k_ans fun _ _ _ _ _ _ us hl => match us, hl with | [_, _, _, _], _ => rfl
  have FM := fun_mk (st := sMain) l_main c_main k_main
  refine ⟨PySem.W.fnOf "covered_colours" "covered_colours" (defArgs sMain) (defBody sMain) (defScope sMain) .none kV_main dc_main pm_main an_main cd_main ct_main, fun s us hu => match us, hu with | [_, _, _, _], _ => .of_eq rfl, fun base _ _ => ?_⟩
  have Dcolour_of : Def P w K mg base CX0 1 "colour_of" ["layer", "square"] (spCO C) := d_CO Fcolour_of T
  have Dcolours_of : Def P w K mg base CX0 2 "colours_of" ["layer", "squares"] (spCS C) := d_CS Fcolours_of T Dcolour_of
  have Dsquares_of : Def P w K mg base CX0 1 "squares_of" ["layer", "bar"] (spSO C) := d_SO Fsquares_of T zrange
  have Dis_inside : Def P w K mg base CX0 1 "is_inside" ["layer", "square"] (spII C) := d_II Fis_inside T
  have Dfits : Def P w K mg base CX0 2 "fits" ["layer", "covered", "bar"] (spFits C) := d_Fits Ffits T Dsquares_of Dis_inside
  have Dcovered_by : Def P w K mg base CX0 3 "covered_by" ["layer", "bars"] (spCB C) := d_CB Fcovered_by T Dfits Dsquares_of
  have Dneed : Def P w K mg base (L2.CX P w) 3 "need" nNeed (spNeed CR) := d_need Fneed R FRI bR
  have Dneed_size : Def P w K mg base (L2.CX P w) 4 "need_size" nNS (spNS CR) := d_NS Fneed_size gOUT_OF_RANGE gMOST_SIZE Dneed
  have Dneed_sizes : Def P w K mg base (L2.CX P w) 5 "need_sizes" nN3 (spN3 CR) := d_N3 Fneed_sizes Dneed_size
  have Dneed_bars : Def P w K mg base (L2.CX P w) 4 "need_bars" ["numbers"] (spNB K CR) := d_NB Fneed_bars gOUT_OF_RANGE gMOST_PLACE gBAR_NUMBERS zrange zlen Dneed
  have Dlayer_for : Def P w K mg base (L2.CX P w) 6 "layer_for" nN3 (spLay C CR) := d_Lay Flayer_for gL M T FLI bI Dneed_sizes
  exact d_M4 FM R (d_Ans Fans gNOT_SO zlen Dlayer_for Dcovered_by Dneed_bars Dneed Dcolours_of) rfl rfl
end LB
open PySem PySem.W PyProof.Rows
set_option maxRecDepth 100000 in
set_option maxHeartbeats 8000000 in
theorem PySem.Challenge.cw_layerbars_s06_covered_colours_holds : PySem.Challenge.rw_layerbars_s06_covered_colours.Holds := by
  w_on; k_headS; (case hw => exact ⟨[.int 1, .int 1, .int 1, .list []], by decide +kernel, by decide +kernel⟩)
  k_fillS
  refine L2.walk_specK (r := PySem.Challenge.rw_layerbars_s06_covered_colours) (k := 8) (CX := L2.CX0) (ps := LB.nM4P) (sp := fun K => LB.spM4 K (LB.due06)) (by decide +kernel) rfl rfl ⟨rfl, by decide, by decide⟩ (fun w h Y => PySem.W.kIn_of Y) ?F ?S (fun _ _ _ _ z => z)
  case F =>
    intro w mg fa h Y KX G hmg
    refine' LB.all_mk KX G hmg ?aL ?aR ?i_OUT_OF_RANGE ?i_NOT_SO ?i_MOST_SIZE ?i_MOST_PLACE ?i_BAR_NUMBERS ?b_range ?b_len ?a_LI ?n_LI ?l_LI ?c_LI ?k_LI ?a_RI ?n_RI ?l_RI ?c_RI ?k_RI ?a_colour_of ?l_colour_of ?c_colour_of ?k_colour_of ?a_colours_of ?l_colours_of ?c_colours_of ?k_colours_of ?a_squares_of ?l_squares_of ?c_squares_of ?k_squares_of ?a_is_inside ?l_is_inside ?c_is_inside ?k_is_inside ?a_fits ?l_fits ?c_fits ?k_fits ?a_covered_by ?l_covered_by ?c_covered_by ?k_covered_by ?a_need ?l_need ?c_need ?k_need ?a_need_size ?l_need_size ?c_need_size ?k_need_size ?a_need_sizes ?l_need_sizes ?c_need_sizes ?k_need_sizes ?a_need_bars ?l_need_bars ?c_need_bars ?k_need_bars ?a_layer_for ?l_layer_for ?c_layer_for ?k_layer_for ?a_ans ?l_ans ?c_ans ?k_ans ?a_main ?l_main ?c_main ?k_main ?pg ?hd ?po ?sa ?mk ?kc ?n_width ?n_height ?n_length ?xR ?saR ?gaR ?ggR ?noR ?kR ?eR ?tR ?hR ?cR ?sR
    (case aL => k_is)
    (case aR => k_is)
    (case i_OUT_OF_RANGE => k_is)
    (case i_NOT_SO => k_is)
    (case i_MOST_SIZE => k_is)
    (case i_MOST_PLACE => k_is)
    (case i_BAR_NUMBERS => k_is)
    (case b_range => k_is)
    (case b_len => k_is)
    (case a_LI => k_is)
    (case n_LI => k_is)
    (case l_LI => k_is)
    (case c_LI => k_is)
    (case k_LI => k_is)
    (case a_RI => k_is)
    (case n_RI => k_is)
    (case l_RI => k_is)
    (case c_RI => k_is)
    (case k_RI => k_is)
    (case a_colour_of => k_is)
    (case l_colour_of => k_is)
    (case c_colour_of => k_is)
    (case k_colour_of => k_is)
    (case a_colours_of => k_is)
    (case l_colours_of => k_is)
    (case c_colours_of => k_is)
    (case k_colours_of => k_is)
    (case a_squares_of => k_is)
    (case l_squares_of => k_is)
    (case c_squares_of => k_is)
    (case k_squares_of => k_is)
    (case a_is_inside => k_is)
    (case l_is_inside => k_is)
    (case c_is_inside => k_is)
    (case k_is_inside => k_is)
    (case a_fits => k_is)
    (case l_fits => k_is)
    (case c_fits => k_is)
    (case k_fits => k_is)
    (case a_covered_by => k_is)
    (case l_covered_by => k_is)
    (case c_covered_by => k_is)
    (case k_covered_by => k_is)
    (case a_need => k_is)
    (case l_need => k_is)
    (case c_need => k_is)
    (case k_need => k_is)
    (case a_need_size => k_is)
    (case l_need_size => k_is)
    (case c_need_size => k_is)
    (case k_need_size => k_is)
    (case a_need_sizes => k_is)
    (case l_need_sizes => k_is)
    (case c_need_sizes => k_is)
    (case k_need_sizes => k_is)
    (case a_need_bars => k_is)
    (case l_need_bars => k_is)
    (case c_need_bars => k_is)
    (case k_need_bars => k_is)
    (case a_layer_for => k_is)
    (case l_layer_for => k_is)
    (case c_layer_for => k_is)
    (case k_layer_for => k_is)
    (case a_ans => k_is)
    (case l_ans => k_is)
    (case c_ans => k_is)
    (case k_ans => k_is)
    (case a_main => k_is)
    (case l_main => k_is)
    (case c_main => k_is)
    (case k_main => k_is)
    (case pg => k_is)
    (case hd => k_is)
    (case po => k_is)
    (case sa => k_is)
    (case mk => k_is)
    (case kc => k_is)
    (case n_width => k_is)
    (case n_height => k_is)
    (case n_length => k_is)
    (case xR => k_is)
    (case saR => k_is)
    (case gaR => k_is)
    (case ggR => k_is)
    (case noR => k_is)
    (case kR => k_is)
    (case eR => k_is)
    (case tR => k_is)
    (case hR => k_is)
    (case cR => k_is)
    (case sR => first | rfl | k_is)
  case S =>
    intro K H xs a hO hwi hask hx
    obtain ⟨x, y, z, l, u⟩ := a
    cases hx with
    | cons h1 h2 =>
      cases h2 with
      | cons h2 h3 =>
        cases h3 with
        | cons h3 h4 =>
          cases h4 with
          | cons h4 h5 =>
            cases h5
            cases h1
            cases h2
            cases h3
            cases h4 with
            | lst hs ha =>
              have e := L2.ints_dw l _ ha
              subst e
              obtain ⟨ms, em, hl⟩ := LB.nats_of hwi
              subst em
              refine ⟨x, y, z, _, ms, rfl, hs, hl, fun H' p hp => ?_⟩
              exact LB.told3 (LB.is06 x y z ms) hp
#print axioms PySem.Challenge.cw_layerbars_s06_covered_colours_holds
