import PyProof.Rows.All
import Wide.All
import OpenK.AllK
import Wide.FinOn
import PyProof.EqAt
import PyProof.EqKinds
import PyProof.TupleCall
import Open.SpecLaws
import KE.OsGo
import HandS.ForSpec
import HandS.Comp
import HandS.Iter
import HandS.Style
import HandS.Deep
import HandS.ExcInit
import HandS.ExcField
import PySem.Challenge.RW_layerbars_s02_can_fill
set_option Elab.async false
set_option linter.all false
set_option maxRecDepth 100000
set_option maxHeartbeats 4000000
namespace LB
abbrev Sq := Nat × Nat
abbrev Br := Nat × Nat × Nat
/-- the squares of a bar -/
def sqOf (n : Nat) (b : Br) : List Sq := if b.2.2 = 1 then (List.range n).map (fun k => (b.1 + k, b.2.1)) else (List.range n).map fun k => (b.1, b.2.1 + k)
def inM (w h : Nat) (q : Sq) : Bool := decide (q.1 < w) && decide (q.2 < h)
def okSq (w h : Nat) (cov : List Sq) (q : Sq) : Bool := inM w h q && !decide (q ∈ cov)
def fitsM (w h n : Nat) (cov : List Sq) (b : Br) : Bool := (sqOf n b).all (okSq w h cov)
def coverM (w h n : Nat) : List Sq → List Br → Option (List Sq)
  | cov, [] => some cov
  | cov, b :: r => if fitsM w h n cov b = true then coverM w h n (cov ++ sqOf n b) r else none
def allSq (w h : Nat) : List Sq := Kbe4.allSquares w h
def firstM (w h : Nat) (cov : List Sq) : Option Sq := (allSq w h).find? fun q => !decide (q ∈ cov)
def remM (w h : Nat) (cov : List Sq) : List Sq := (allSq w h).filter fun q => !decide (q ∈ cov)
/-- the canonical filling; the first number only sees to an end -/
def comp (w h n : Nat) : Nat → List Sq → List Br → Option (List Br)
  | 0, _, _ => none
  | m + 1, cov, bars => match firstM w h cov with
    | none => some bars
    | some q =>
      match (if fitsM w h n cov (q.1, q.2, 1) = true then comp w h n m (cov ++ sqOf n (q.1, q.2, 1)) (bars ++ [(q.1, q.2, 1)]) else none) with
      | some r => some r
      | none => if fitsM w h n cov (q.1, q.2, 0) = true then comp w h n m (cov ++ sqOf n (q.1, q.2, 0)) (bars ++ [(q.1, q.2, 0)]) else none
def toBar (b : Br) : Kbe4.Bar := ⟨b.1, b.2.1, b.2.2 == 1⟩
def colM (n : Nat) (q : Sq) : Nat := (q.1 + q.2) % n
def cntM (n : Nat) (L : List Sq) (c : Nat) : Nat := (L.filter fun q => colM n q == c).length
def countsM (n : Nat) (L : List Sq) : List Nat := (List.range n).map (cntM n L)
def parseM : List Nat → Option (List Br)
  | [] => some []
  | x :: y :: d :: rest => if 7 < x ∨ 7 < y ∨ 1 < d then none else (parseM rest).map fun p => (x, y, d) :: p
  | _ => none
def sizeOk (x : Int) : Bool := decide (1 ≤ x) && decide (x ≤ 6)

/-! ### squares and bars -/
theorem sqOf_len (n : Nat) (b : Br) : (sqOf n b).length = n := by
  unfold sqOf
  split <;> simp
theorem covered_toBar (n : Nat) (b : Br) : Kbe4.coveredBy n (toBar b) = sqOf n b := by
  unfold Kbe4.coveredBy sqOf toBar
  by_cases c : b.2.2 = 1
  · rw [if_pos c]
    simp [c]
  · rw [if_neg c]
    simp [c]
theorem nodup_map {α β : Type} {f : α → β} (hf : ∀ a b, f a = f b → a = b) : ∀ {l : List α}, l.Nodup → (l.map f).Nodup
  | [], _ => by simp
  | a :: r, h => by
    rw [List.nodup_cons] at h
    rw [List.map_cons, List.nodup_cons]
    refine ⟨fun m => ?_, nodup_map hf h.2⟩
    obtain ⟨b, hb, e⟩ := List.mem_map.mp m
    exact h.1 (hf _ _ e ▸ hb)
theorem sqOf_nodup (n : Nat) (b : Br) : (sqOf n b).Nodup := by
  unfold sqOf
  split
  · exact nodup_map (fun a c e => by simpa using e) List.nodup_range
  · exact nodup_map (fun a c e => by simpa using e) List.nodup_range
theorem mem_sqOf_first {n : Nat} (hn : 0 < n) (x y d : Nat) : (x, y) ∈ sqOf n (x, y, d) := by
  unfold sqOf
  split
  · exact List.mem_map.mpr ⟨0, List.mem_range.mpr hn, rfl⟩
  · exact List.mem_map.mpr ⟨0, List.mem_range.mpr hn, rfl⟩
theorem mem_allSq {w h : Nat} {q : Sq} : q ∈ allSq w h ↔ q.1 < w ∧ q.2 < h := by
  obtain ⟨x, y⟩ := q
  unfold allSq Kbe4.allSquares
  constructor
  · intro m
    obtain ⟨y', hy, m⟩ := List.mem_flatMap.mp m
    obtain ⟨x', hx, e⟩ := List.mem_map.mp m
    cases e
    exact ⟨List.mem_range.mp hx, List.mem_range.mp hy⟩
  · intro ⟨hx, hy⟩
    exact List.mem_flatMap.mpr ⟨y, List.mem_range.mpr hy, List.mem_map.mpr ⟨x, List.mem_range.mpr hx, rfl⟩⟩
theorem inM_iff {w h : Nat} {q : Sq} : inM w h q = true ↔ q ∈ allSq w h := by
  rw [mem_allSq]
  simp [inM]
theorem okSq_iff {w h : Nat} {cov : List Sq} {q : Sq} : okSq w h cov q = true ↔ q ∈ remM w h cov := by
  unfold okSq remM
  rw [Bool.and_eq_true, inM_iff, List.mem_filter]
theorem fitsM_iff {w h n : Nat} {cov : List Sq} {b : Br} : fitsM w h n cov b = true ↔ ∀ q ∈ sqOf n b, q ∈ remM w h cov := by
  unfold fitsM
  rw [List.all_eq_true]
  exact ⟨fun f q m => okSq_iff.mp (f q m), fun f q m => okSq_iff.mpr (f q m)⟩
end LB
namespace LB
theorem find_congr {α : Type} {p q : α → Bool} : ∀ {l : List α}, (∀ a ∈ l, p a = q a) → l.find? p = l.find? q
  | [], _ => rfl
  | a :: r, h => by
    rw [List.find?_cons, List.find?_cons, h a List.mem_cons_self, find_congr fun b hb => h b (List.mem_cons_of_mem _ hb)]
theorem allSq_nil (w h : Nat) : remM w h [] = allSq w h := by
  unfold remM
  simp
theorem contains_iff {q : Sq} {L : List Sq} : L.contains q = decide (q ∈ L) := by
  simp
theorem remM_contains {w h : Nat} {cov : List Sq} {q : Sq} (m : q ∈ allSq w h) : (remM w h cov).contains q = !decide (q ∈ cov) := by
  have e : (q ∈ remM w h cov) ↔ ¬ q ∈ cov := by
    unfold remM
    rw [List.mem_filter]
    simp [m]
  rw [contains_iff]
  by_cases c : q ∈ cov
  · have : ¬ q ∈ remM w h cov := fun z => (e.mp z) c
    simp [c, this]
  · have : q ∈ remM w h cov := e.mpr c
    simp [c, this]
theorem firstM_spec (w h : Nat) (cov : List Sq) : ((Kbe4.allSquares w h).find? fun q => (remM w h cov).contains q) = firstM w h cov :=
  find_congr fun _ m => remM_contains m
theorem remM_step (w h : Nat) (cov sq : List Sq) : ((remM w h cov).filter fun q => !sq.contains q) = remM w h (cov ++ sq) := by
  unfold remM
  rw [List.filter_filter]
  refine List.filter_congr fun q _ => ?_
  simp
  by_cases a : q ∈ cov <;> by_cases b : q ∈ sq <;> simp [a, b]
theorem fits_spec (w h n : Nat) (cov : List Sq) (b : Br) : ((Kbe4.coveredBy n (toBar b)).all fun q => (remM w h cov).contains q) = fitsM w h n cov b := by
  rw [covered_toBar, Bool.eq_iff_iff, fitsM_iff, List.all_eq_true]
  simp
def fromBar (b : Kbe4.Bar) : Br := (b.x, b.y, if b.alongX then 1 else 0)
theorem comp_spec (w h n : Nat) : ∀ (m : Nat) (cov : List Sq) (bars : List Br), comp w h n m cov bars = (Kbe4.coverFree w h n m (remM w h cov)).map fun rest => bars ++ rest.map fromBar
  | 0, _, _ => rfl
  | m + 1, cov, bars => by
    unfold comp Kbe4.coverFree
    rw [firstM_spec]
    cases firstM w h cov with
    | none => simp
    | some q =>
      obtain ⟨x, y⟩ := q
      have e1 : (⟨x, y, true⟩ : Kbe4.Bar) = toBar (x, y, 1) := rfl
      have e0 : (⟨x, y, false⟩ : Kbe4.Bar) = toBar (x, y, 0) := rfl
      dsimp only
      rw [e1, e0, fits_spec, fits_spec, covered_toBar, covered_toBar, remM_step, remM_step, comp_spec w h n m (cov ++ sqOf n (x, y, 1)), comp_spec w h n m (cov ++ sqOf n (x, y, 0))]
      have f1 : fromBar (toBar (x, y, 1)) = (x, y, 1) := rfl
      have f0 : fromBar (toBar (x, y, 0)) = (x, y, 0) := rfl
      by_cases c1 : fitsM w h n cov (x, y, 1) = true
      · rw [if_pos c1, if_pos c1]
        cases Kbe4.coverFree w h n m (remM w h (cov ++ sqOf n (x, y, 1))) with
        | some r => simp [f1]
        | none =>
          by_cases c0 : fitsM w h n cov (x, y, 0) = true
          · rw [if_pos c0, if_pos c0]
            cases Kbe4.coverFree w h n m (remM w h (cov ++ sqOf n (x, y, 0))) with
            | some r => simp [f0]
            | none => simp
          · rw [if_neg c0, if_neg c0]
            simp
      · rw [if_neg c1, if_neg c1]
        by_cases c0 : fitsM w h n cov (x, y, 0) = true
        · rw [if_pos c0, if_pos c0]
          cases Kbe4.coverFree w h n m (remM w h (cov ++ sqOf n (x, y, 0))) with
          | some r => simp [f0]
          | none => simp
        · rw [if_neg c0, if_neg c0]
          simp
/-! ### counting -/
theorem filter_out {S : List Sq} : ∀ {L : List Sq}, L.Nodup → S.Nodup → (∀ q ∈ S, q ∈ L) → (L.filter fun q => !S.contains q).length + S.length = L.length := by
  induction S with
  | nil => intro L _ _ _; simp
  | cons s S ih =>
    intro L hL hS hm
    rw [List.nodup_cons] at hS
    have hs : s ∈ L := hm s List.mem_cons_self
    have hE : (L.erase s).Nodup := hL.erase s
    have h1 := ih (L := L.erase s) hE hS.2 fun q hq => (List.Nodup.mem_erase_iff hL).mpr ⟨fun e => hS.1 (e ▸ hq), hm q (List.mem_cons_of_mem _ hq)⟩
    have h2 : (L.filter fun q => !(s :: S).contains q) = (L.erase s).filter fun q => !S.contains q := by
      rw [List.Nodup.erase_eq_filter hL, List.filter_filter]
      refine List.filter_congr fun q _ => ?_
      by_cases a : q = s <;> simp [a]
    have h3 := List.length_erase_of_mem hs
    have h4 : 0 < L.length := List.length_pos_of_mem hs
    rw [h2, List.length_cons]
    omega
theorem allSq_nodup (w h : Nat) : (allSq w h).Nodup := by
  unfold allSq Kbe4.allSquares
  have e : (List.range h).Nodup := List.nodup_range
  revert e
  generalize List.range h = ys
  induction ys with
  | nil => intro _; simp
  | cons y r ih =>
    intro e
    rw [List.nodup_cons] at e
    rw [List.flatMap_cons, List.nodup_append]
    refine ⟨nodup_map (fun a b q => by simpa using q) List.nodup_range, ih e.2, fun a ha b hb q => ?_⟩
    subst q
    obtain ⟨x, _, rfl⟩ := List.mem_map.mp ha
    obtain ⟨y', hy', hb⟩ := List.mem_flatMap.mp hb
    obtain ⟨x', _, q⟩ := List.mem_map.mp hb
    have q2 : y' = y := congrArg Prod.snd q
    exact e.1 (q2 ▸ hy')
theorem allSq_len (w h : Nat) : (allSq w h).length = w * h := by
  unfold allSq Kbe4.allSquares
  have e : (List.range h).length = h := List.length_range
  rw [← e]
  rw [show (List.range (List.range h).length) = List.range h by rw [e]]
  generalize List.range h = ys
  induction ys with
  | nil => simp
  | cons y r ih =>
    rw [List.flatMap_cons, List.length_append, ih]
    simp [Nat.mul_add, Nat.add_comm]
theorem cover_len (w h n : Nat) : ∀ (m : Nat) (free : List Sq) (r : List Kbe4.Bar), free.Nodup → (∀ q ∈ free, q ∈ allSq w h) → Kbe4.coverFree w h n m free = some r → free.length = n * r.length
  | 0, _, _, _, _, e => by cases e
  | m + 1, free, r, hN, hI, e => by
    unfold Kbe4.coverFree at e
    cases q : (Kbe4.allSquares w h).find? (fun square => free.contains square) with
    | none =>
      rw [q] at e
      have e' : r = [] := by simpa using e.symm
      subst e'
      have z := List.find?_eq_none.mp q
      cases free with
      | nil => simp
      | cons a t => exact absurd (by simp) (z a (hI a List.mem_cons_self))
    | some sq =>
      rw [q] at e
      have att : ∀ (b : Kbe4.Bar) (r : List Kbe4.Bar), (if ((Kbe4.coveredBy n b).all fun covered => free.contains covered) = true
          then (Kbe4.coverFree w h n m (free.filter fun other => !(Kbe4.coveredBy n b).contains other)).map (fun rest => b :: rest) else none) = some r → free.length = n * r.length := by
        intro b r e
        split at e
        · rename_i c
          obtain ⟨rest, e1, e2⟩ := Option.map_eq_some_iff.mp e
          have sub : ∀ q ∈ Kbe4.coveredBy n b, q ∈ free := fun q hq => by
            have := List.all_eq_true.mp c q hq
            simpa using this
          have cl : (Kbe4.coveredBy n b).length = n := by
            unfold Kbe4.coveredBy
            simp
          have cn : (Kbe4.coveredBy n b).Nodup := by
            unfold Kbe4.coveredBy
            cases b.alongX
            · exact nodup_map (fun a c e => by simpa using e) List.nodup_range
            · exact nodup_map (fun a c e => by simpa using e) List.nodup_range
          have h1 := filter_out hN cn sub
          have h2 := cover_len w h n m _ rest (hN.filter _) (fun q hq => hI q (List.mem_filter.mp hq).1) e1
          subst e2
          rw [cl] at h1
          rw [List.length_cons, Nat.mul_add, Nat.mul_one, ← h2, h1]
        · cases e
      dsimp only at e
      split at e
      · rename_i bars e1
        cases e
        exact att _ _ e1
      · exact att _ _ e
/-- the specification's filling is the program's -/
theorem fill_spec {w h n : Nat} (hn : 0 < n) : (Kbe4.fill w h n).map (fun r => r.map fromBar) = comp w h n (w * h + 1) [] [] := by
  rw [comp_spec, allSq_nil]
  unfold Kbe4.fill
  by_cases c : n = 0 ∨ w * h % n ≠ 0
  · rw [if_pos c]
    cases e : Kbe4.coverFree w h n (w * h + 1) (allSq w h) with
    | none => rfl
    | some r =>
      have z := cover_len w h n _ _ r (allSq_nodup w h) (fun _ q => q) e
      rw [allSq_len] at z
      rcases c with c | c
      · omega
      · rw [z] at c
        exact absurd (Nat.mul_mod_right n r.length) c
  · rw [if_neg c]
    simp only [List.nil_append]
    rfl
/-- each bar takes a free square away -/
theorem rem_less {w h n : Nat} (hn : 0 < n) {cov : List Sq} {q : Sq} (hq : firstM w h cov = some q) (d : Nat) : (remM w h (cov ++ sqOf n (q.1, q.2, d))).length < (remM w h cov).length := by
  rw [← remM_step]
  have h1 := List.find?_some hq
  have h2 := List.mem_of_find?_eq_some hq
  have hm : q ∈ remM w h cov := List.mem_filter.mpr ⟨h2, h1⟩
  have hs : q ∈ sqOf n (q.1, q.2, d) := mem_sqOf_first hn q.1 q.2 d
  generalize remM w h cov = L at hm
  generalize sqOf n (q.1, q.2, d) = S at hs
  clear h1 h2 hq
  induction L with
  | nil => cases hm
  | cons a r ih =>
    rcases List.mem_cons.mp hm with e | m
    · subst e
      rw [List.filter_cons_of_neg (by simpa using hs), List.length_cons]
      exact Nat.lt_succ_of_le (List.length_filter_le _ _)
    · by_cases c : a ∈ S
      · rw [List.filter_cons_of_neg (by simpa using c), List.length_cons]
        exact Nat.lt_succ_of_lt (ih m)
      · rw [List.filter_cons_of_pos (by simpa using c), List.length_cons, List.length_cons]
        exact Nat.succ_lt_succ (ih m)
end LB
namespace LB
/-! ### arrangements -/
theorem zip_nodup (L : List Sq) : (L.zipIdx.all fun e => !(L.take e.2).contains e.1) = decide L.Nodup := by
  rw [Bool.eq_iff_iff, List.all_eq_true, decide_eq_true_iff]
  constructor
  · intro f
    refine List.pairwise_iff_getElem.mpr fun i j hi hj hij e => ?_
    have m : (L[j], j) ∈ L.zipIdx := List.mem_zipIdx_iff_getElem?.mpr (by simp)
    have z := f _ m
    have z2 : ¬ L[j] ∈ L.take j := by simpa using z
    exact z2 (List.mem_iff_getElem.mpr ⟨i, by rw [List.length_take]; omega, by rw [List.getElem_take]; exact e⟩)
  · intro f p m
    have e := List.mem_zipIdx_iff_getElem?.mp m
    obtain ⟨hj, e⟩ := List.getElem?_eq_some_iff.mp e
    have g := List.pairwise_iff_getElem.mp f
    have z : ¬ p.1 ∈ L.take p.2 := fun q => by
      obtain ⟨i, hi, e2⟩ := List.mem_iff_getElem.mp q
      rw [List.length_take] at hi
      rw [List.getElem_take] at e2
      exact g i p.2 (by omega) hj (by omega) (e2.trans e.symm)
    simpa using z
def Valid (w h : Nat) (L : List Sq) : Prop := (∀ q ∈ L, inM w h q = true) ∧ L.Nodup
def flat (n : Nat) (bars : List Br) : List Sq := bars.flatMap (sqOf n)
theorem flat_spec (n : Nat) (bars : List Br) : (bars.map toBar).flatMap (Kbe4.coveredBy n) = flat n bars := by
  unfold flat
  rw [List.flatMap_map]
  congr 1
  funext b
  exact covered_toBar n b
theorem flat_len (n : Nat) : ∀ bars : List Br, (flat n bars).length = bars.length * n
  | [] => by simp [flat]
  | b :: r => by
    have ih := flat_len n r
    unfold flat at ih ⊢
    rw [List.flatMap_cons, List.length_append, sqOf_len, ih, List.length_cons, Nat.add_mul, Nat.one_mul, Nat.add_comm]
theorem cover_or (w h n : Nat) : ∀ (bars : List Br) (cov : List Sq), Valid w h cov → (coverM w h n cov bars = some (cov ++ flat n bars) ∧ Valid w h (cov ++ flat n bars)) ∨ (coverM w h n cov bars = none ∧ ¬ Valid w h (cov ++ flat n bars))
  | [], cov, v => by
    left
    simp only [flat, List.flatMap_nil, List.append_nil]
    exact ⟨rfl, v⟩
  | b :: r, cov, v => by
    unfold coverM
    have ef : cov ++ flat n (b :: r) = (cov ++ sqOf n b) ++ flat n r := by
      unfold flat
      rw [List.flatMap_cons, List.append_assoc]
    rw [ef]
    by_cases c : fitsM w h n cov b = true
    · rw [if_pos c]
      have g := fitsM_iff.mp c
      have v2 : Valid w h (cov ++ sqOf n b) := by
        refine ⟨fun q m => ?_, List.nodup_append.mpr ⟨v.2, sqOf_nodup n b, fun a ha d hd e => ?_⟩⟩
        · rcases List.mem_append.mp m with m | m
          · exact v.1 q m
          · exact inM_iff.mpr (List.mem_filter.mp (g q m)).1
        · subst e
          have z := (List.mem_filter.mp (g a hd)).2
          simp [ha] at z
      exact cover_or w h n r (cov ++ sqOf n b) v2
    · rw [if_neg c]
      refine .inr ⟨rfl, fun v3 => c ?_⟩
      refine fitsM_iff.mpr fun q m => List.mem_filter.mpr ⟨inM_iff.mp (v3.1 q (by simp [m])), ?_⟩
      have d := List.nodup_append.mp v3.2
      have d2 := (List.nodup_append.mp d.1).2.2
      have z : ¬ q ∈ cov := fun hq => d2 q hq q m rfl
      simp [z]
theorem valid_spec (w h n : Nat) (bars : List Br) : (Kbe4.isValid w h n (bars.map toBar) = true) ↔ Valid w h (flat n bars) := by
  unfold Kbe4.isValid
  dsimp only
  rw [flat_spec, zip_nodup, Bool.and_eq_true, List.all_eq_true, decide_eq_true_iff]
  exact Iff.rfl
theorem cover_spec (w h n : Nat) (bars : List Br) : coverM w h n [] bars = if Kbe4.isValid w h n (bars.map toBar) = true then some (flat n bars) else none := by
  have v : Valid w h [] := ⟨fun _ m => absurd m (by simp), List.nodup_nil⟩
  rcases cover_or w h n bars [] v with ⟨e, g⟩ | ⟨e, g⟩
  · rw [List.nil_append] at e g
    rw [e, if_pos ((valid_spec w h n bars).mpr g)]
  · rw [List.nil_append] at g
    rw [e, if_neg fun z => g ((valid_spec w h n bars).mp z)]
/-! ### the list of bars -/
theorem parse_spec : ∀ ms : List Nat, Kbe4.parseBars ms = (parseM ms).map fun p => p.map toBar
  | [] => rfl
  | [_] => rfl
  | [_, _] => rfl
  | x :: y :: d :: rest => by
    unfold Kbe4.parseBars parseM
    by_cases c : 7 < x ∨ 7 < y ∨ 1 < d
    · rw [if_pos c, if_pos c]
      rfl
    · rw [if_neg c, if_neg c, parse_spec rest]
      cases parseM rest with
      | none => rfl
      | some p => rfl
theorem parse_len : ∀ (ms : List Nat) (p : List Br), parseM ms = some p → ms.length = 3 * p.length
  | [], p, e => by
    cases e
    rfl
  | [_], _, e => by cases e
  | [_, _], _, e => by cases e
  | x :: y :: d :: rest, p, e => by
    unfold parseM at e
    split at e
    · cases e
    · obtain ⟨r, e1, e2⟩ := Option.map_eq_some_iff.mp e
      have ih := parse_len rest r e1
      subst e2
      simp only [List.length_cons]
      omega
theorem parse_odd (ms : List Nat) (c : ms.length % 3 ≠ 0) : parseM ms = none := by
  cases e : parseM ms with
  | none => rfl
  | some p =>
    have z := parse_len ms p e
    omega
theorem drop3 {ms : List Nat} {i : Nat} (c : ms.length % 3 = 0) (hi : 3 * i < ms.length) : ∃ x y d, ms[3 * i]? = some x ∧ ms[3 * i + 1]? = some y ∧ ms[3 * i + 2]? = some d ∧ ms.drop (3 * i) = x :: y :: d :: ms.drop (3 * (i + 1)) := by
  have h1 : 3 * i + 1 < ms.length := by omega
  have h2 : 3 * i + 2 < ms.length := by omega
  refine ⟨ms[3 * i], ms[3 * i + 1], ms[3 * i + 2], by simp [hi], by simp [h1], by simp [h2], ?_⟩
  rw [List.drop_eq_getElem_cons hi, List.drop_eq_getElem_cons h1, List.drop_eq_getElem_cons h2]
  rfl
/-! ### colours -/
theorem counts_len (n : Nat) (L : List Sq) : (countsM n L).length = n := by
  unfold countsM
  simp
theorem counts_get {n : Nat} (L : List Sq) {c : Nat} (hc : c < n) : (countsM n L)[c]? = some (cntM n L c) := by
  unfold countsM
  simp [hc]
theorem counts_step {n : Nat} (hn : 0 < n) (L : List Sq) (q : Sq) : (countsM n L).set (colM n q) (cntM n L (colM n q) + 1) = countsM n (L ++ [q]) := by
  have hc : colM n q < n := Nat.mod_lt _ hn
  refine List.ext_getElem? fun i => ?_
  by_cases hi : i < n
  · rw [counts_get _ hi, List.getElem?_set]
    by_cases e : colM n q = i
    · rw [if_pos e, if_pos (by rw [counts_len]; exact hc)]
      unfold cntM
      rw [List.filter_append, List.length_append, ← e]
      simp
    · rw [if_neg e, counts_get _ hi]
      unfold cntM
      rw [List.filter_append, List.length_append]
      simp [e]
  · have a : (countsM n (L ++ [q]))[i]? = none := List.getElem?_eq_none (by rw [counts_len]; omega)
    rw [a]
    exact List.getElem?_eq_none (by rw [List.length_set, counts_len]; omega)
theorem counts_nil (n : Nat) : countsM n [] = List.replicate n 0 := by
  unfold countsM
  have e : cntM n [] = fun _ => 0 := by
    funext c
    rfl
  rw [e]
  refine List.ext_getElem? fun i => ?_
  by_cases hi : i < n <;> simp [hi]
theorem counts_spec (w h n : Nat) : Kbe4.colourCounts w h n = countsM n (allSq w h) := rfl
theorem cnt_le (n : Nat) (L : List Sq) (c : Nat) : cntM n L c ≤ L.length := List.length_filter_le _ _
theorem foldl_min : ∀ (l : List Nat) (a : Nat), (l.foldl min a ≤ a ∧ ∀ y ∈ l, l.foldl min a ≤ y) ∧ (l.foldl min a = a ∨ l.foldl min a ∈ l)
  | [], a => ⟨⟨Nat.le_refl _, fun _ m => nomatch m⟩, .inl rfl⟩
  | b :: r, a => by
    obtain ⟨⟨h1, h2⟩, h3⟩ := foldl_min r (min a b)
    rw [List.foldl_cons]
    refine ⟨⟨Nat.le_trans h1 (Nat.min_le_left _ _), fun y m => ?_⟩, ?_⟩
    · rcases List.mem_cons.mp m with e | m
      · rw [e]
        exact Nat.le_trans h1 (Nat.min_le_right _ _)
      · exact h2 y m
    · rcases h3 with h3 | h3
      · rw [h3]
        by_cases c : a ≤ b
        · exact .inl (Nat.min_eq_left c)
        · exact .inr (by rw [Nat.min_eq_right (by omega)]; exact List.mem_cons_self)
      · exact .inr (List.mem_cons_of_mem _ h3)
/-- the least of the counts -/
theorem bound_spec {w h n : Nat} (m : Nat) (hm : m ∈ countsM n (allSq w h)) (hle : ∀ y ∈ countsM n (allSq w h), m ≤ y) : Kbe4.colourBound w h n = m := by
  unfold Kbe4.colourBound
  rw [counts_spec]
  obtain ⟨⟨h1, h2⟩, h3⟩ := foldl_min (countsM n (allSq w h)) (w * h)
  have z := h2 m hm
  have mx : m ≤ w * h := by
    obtain ⟨c, _, e⟩ := List.mem_map.mp hm
    rw [← e, ← allSq_len w h]
    exact cnt_le n _ c
  rcases h3 with e | e
  · omega
  · have := hle _ e
    omega
def rowsM (a b n : Nat) : Nat := a / n * b + b / n * (a % n)
theorem rows_spec {w h n : Nat} (hn : 0 < n) : Kbe4.rowPacking w h n = if rowsM w h n < rowsM h w n then rowsM h w n else rowsM w h n := by
  unfold Kbe4.rowPacking rowsM
  rw [if_neg (by omega), Nat.max_def]
  split <;> split <;> omega
/-! ### the answers -/
theorem layer_ok {w h n : Int} (c : (sizeOk w && sizeOk h && sizeOk n) = true) : Kbe4.validLayer w.toNat h.toNat n.toNat = true := by
  simp only [sizeOk, Bool.and_eq_true, decide_eq_true_eq] at c
  simp only [Kbe4.validLayer, Bool.and_eq_true, decide_eq_true_eq]
  omega
theorem layer_bad {w h n : Int} (c : (sizeOk w && sizeOk h && sizeOk n) = false) : Kbe4.validLayer w.toNat h.toNat n.toNat = false := by
  cases e : Kbe4.validLayer w.toNat h.toNat n.toNat with
  | false => rfl
  | true =>
    simp only [Kbe4.validLayer, Bool.and_eq_true, decide_eq_true_eq] at e
    have : (sizeOk w && sizeOk h && sizeOk n) = true := by
      simp only [sizeOk, Bool.and_eq_true, decide_eq_true_eq]
      omega
    rw [c] at this
    cases this
def nInts (l : List Nat) : List Int := l.map fun (x : Nat) => (x : Int)
def barInts (b : Br) : List Int := [(b.1 : Int), (b.2.1 : Int), (b.2.2 : Int)]
def sqInts (q : Sq) : List Int := [(q.1 : Int), (q.2 : Int)]
def fillA (w h n : Nat) : List Int := match comp w h n (w * h + 1) [] [] with
  | some r => (r.length : Int) :: r.flatMap barInts
  | none => [-33]
def canA (w h n : Nat) : List Int := [if (comp w h n (w * h + 1) [] []).isSome = true then 1 else 0]
def countsA (w h n : Nat) : List Int := (n : Int) :: nInts (countsM n (allSq w h))
def boundsA (w h n : Nat) : List Int := [(Kbe4.colourBound w h n : Nat), (Kbe4.rowPacking w h n : Nat)]
def validA (w h n : Nat) (ms : List Nat) : List Int := match parseM ms with
  | none => [-22]
  | some bars => [if (coverM w h n [] bars).isSome = true then 1 else 0]
def coveredA (w h n : Nat) (ms : List Nat) : List Int := match parseM ms with
  | none => [-22]
  | some bars => match coverM w h n [] bars with
    | none => [-33]
    | some cov => (cov.length : Int) :: nInts (countsM n cov)
def freeA (w h n : Nat) (ms : List Nat) : List Int := match parseM ms with
  | none => [-22]
  | some bars => match coverM w h n [] bars with
    | none => [-33]
    | some cov => ((2 * (remM w h cov).length : Nat) : Int) :: (remM w h cov).flatMap sqInts
theorem from_ints : ∀ r : List Kbe4.Bar, (r.flatMap fun bar => [(bar.x : Int), (bar.y : Int), if bar.alongX then 1 else 0]) = (r.map fromBar).flatMap barInts
  | [] => rfl
  | b :: r => by
    rw [List.flatMap_cons, List.map_cons, List.flatMap_cons, from_ints r]
    congr 1
    unfold fromBar barInts
    cases b.alongX <;> rfl
theorem pos_of {n : Int} (c : sizeOk n = true) : 0 < n.toNat := by
  simp only [sizeOk, Bool.and_eq_true, decide_eq_true_eq] at c
  omega
theorem and3 {a b c : Bool} (e : (a && b && c) = true) : a = true ∧ b = true ∧ c = true := by
  rw [Bool.and_eq_true, Bool.and_eq_true] at e
  exact ⟨e.1.1, e.1.2, e.2⟩
theorem due_fill (w h n : Int) : PyKbe4.fill w h n = if (sizeOk w && sizeOk h && sizeOk n) = true then fillA w.toNat h.toNat n.toNat else [-22] := by
  show (Kbe4.respond (.fill w.toNat h.toNat n.toNat)).head :: (Kbe4.respond (.fill w.toNat h.toNat n.toNat)).tail = _
  cases c : (sizeOk w && sizeOk h && sizeOk n) with
  | false =>
    rw [if_neg (by simp)]
    simp [Kbe4.respond, layer_bad c, Kbe4.single, Kbe4.invalidArgument]
  | true =>
    rw [if_pos rfl]
    unfold fillA
    rw [← fill_spec (pos_of (and3 c).2.2)]
    unfold Kbe4.respond
    dsimp only
    rw [layer_ok c, if_neg (by simp)]
    cases Kbe4.fill w.toNat h.toNat n.toNat with
    | none => rfl
    | some r =>
      simp only [Option.map_some, List.length_map]
      rw [from_ints]
theorem due_can (w h n : Int) : PyKbe4.can_fill w h n = if (sizeOk w && sizeOk h && sizeOk n) = true then canA w.toNat h.toNat n.toNat else [-22] := by
  show (Kbe4.respond (.canFill w.toNat h.toNat n.toNat)).head :: (Kbe4.respond (.canFill w.toNat h.toNat n.toNat)).tail = _
  cases c : (sizeOk w && sizeOk h && sizeOk n) with
  | false =>
    rw [if_neg (by simp)]
    simp [Kbe4.respond, layer_bad c, Kbe4.single, Kbe4.invalidArgument]
  | true =>
    rw [if_pos rfl]
    unfold canA
    rw [← fill_spec (pos_of (and3 c).2.2)]
    unfold Kbe4.respond
    dsimp only
    rw [layer_ok c, if_neg (by simp)]
    cases Kbe4.fill w.toNat h.toNat n.toNat with
    | none => rfl
    | some r => rfl
theorem due_counts (w h n : Int) : PyKbe4.colour_counts w h n = if (sizeOk w && sizeOk h && sizeOk n) = true then countsA w.toNat h.toNat n.toNat else [-22] := by
  show (Kbe4.respond (.colourCounts w.toNat h.toNat n.toNat)).head :: (Kbe4.respond (.colourCounts w.toNat h.toNat n.toNat)).tail = _
  cases c : (sizeOk w && sizeOk h && sizeOk n) with
  | false =>
    rw [if_neg (by simp)]
    simp [Kbe4.respond, layer_bad c, Kbe4.single, Kbe4.invalidArgument]
  | true =>
    rw [if_pos rfl]
    unfold countsA Kbe4.respond
    dsimp only
    rw [layer_ok c, if_neg (by simp), counts_spec]
    show ((Kbe4.toInts (countsM n.toNat (allSq w.toNat h.toNat))).length : Int) :: Kbe4.toInts (countsM n.toNat (allSq w.toNat h.toNat)) = _
    unfold Kbe4.toInts
    rw [List.length_map, counts_len]
    rfl
theorem due_bounds (w h n : Int) : PyKbe4.bounds w h n = if (sizeOk w && sizeOk h && sizeOk n) = true then boundsA w.toNat h.toNat n.toNat else [-22] := by
  show (Kbe4.respond (.bounds w.toNat h.toNat n.toNat)).head :: (Kbe4.respond (.bounds w.toNat h.toNat n.toNat)).tail = _
  cases c : (sizeOk w && sizeOk h && sizeOk n) with
  | false =>
    rw [if_neg (by simp)]
    simp [Kbe4.respond, layer_bad c, Kbe4.single, Kbe4.invalidArgument]
  | true =>
    rw [if_pos rfl]
    unfold boundsA Kbe4.respond
    dsimp only
    rw [layer_ok c, if_neg (by simp)]
theorem due_valid (w h n : Int) (ms : List Nat) : PyKbe4.is_valid w h n (nInts ms) = if (sizeOk w && sizeOk h && sizeOk n) = true then validA w.toNat h.toNat n.toNat ms else [-22] := by
  have e : Kbe4Neutral.toNats (nInts ms) = ms := by
    unfold Kbe4Neutral.toNats nInts
    rw [List.map_map]
    exact (List.map_congr_left fun a _ => rfl).trans (List.map_id ms)
  show (Kbe4.respond (.isValid w.toNat h.toNat n.toNat (Kbe4Neutral.toNats (nInts ms)))).head :: (Kbe4.respond (.isValid w.toNat h.toNat n.toNat (Kbe4Neutral.toNats (nInts ms)))).tail = _
  rw [e]
  unfold Kbe4.respond Kbe4.withBars
  dsimp only
  cases c : (sizeOk w && sizeOk h && sizeOk n) with
  | false =>
    rw [layer_bad c, if_pos rfl]
    rfl
  | true =>
    rw [if_pos rfl, layer_ok c, if_neg (by simp), parse_spec]
    unfold validA
    cases parseM ms with
    | none => rfl
    | some bars =>
      dsimp only [Option.map_some]
      rw [cover_spec]
      cases Kbe4.isValid w.toNat h.toNat n.toNat (bars.map toBar) <;> rfl
theorem due_covered (w h n : Int) (ms : List Nat) : PyKbe4.covered_colours w h n (nInts ms) = if (sizeOk w && sizeOk h && sizeOk n) = true then coveredA w.toNat h.toNat n.toNat ms else [-22] := by
  have e : Kbe4Neutral.toNats (nInts ms) = ms := by
    unfold Kbe4Neutral.toNats nInts
    rw [List.map_map]
    exact (List.map_congr_left fun a _ => rfl).trans (List.map_id ms)
  show (Kbe4.respond (.coveredColours w.toNat h.toNat n.toNat (Kbe4Neutral.toNats (nInts ms)))).head :: (Kbe4.respond (.coveredColours w.toNat h.toNat n.toNat (Kbe4Neutral.toNats (nInts ms)))).tail = _
  rw [e]
  unfold Kbe4.respond Kbe4.withBars
  dsimp only
  cases c : (sizeOk w && sizeOk h && sizeOk n) with
  | false =>
    rw [layer_bad c, if_pos rfl]
    rfl
  | true =>
    rw [if_pos rfl, layer_ok c, if_neg (by simp), parse_spec]
    unfold coveredA
    cases parseM ms with
    | none => rfl
    | some bars =>
      dsimp only [Option.map_some]
      rw [cover_spec, flat_spec]
      cases Kbe4.isValid w.toNat h.toNat n.toNat (bars.map toBar) with
      | false => rfl
      | true =>
        simp only [if_true]
        rw [flat_len, List.length_map]
        unfold nInts countsM
        rw [List.map_map]
        rfl
theorem due_free (w h n : Int) (ms : List Nat) : PyKbe4.free_squares w h n (nInts ms) = if (sizeOk w && sizeOk h && sizeOk n) = true then freeA w.toNat h.toNat n.toNat ms else [-22] := by
  have e : Kbe4Neutral.toNats (nInts ms) = ms := by
    unfold Kbe4Neutral.toNats nInts
    rw [List.map_map]
    exact (List.map_congr_left fun a _ => rfl).trans (List.map_id ms)
  show (Kbe4.respond (.freeSquares w.toNat h.toNat n.toNat (Kbe4Neutral.toNats (nInts ms)))).head :: (Kbe4.respond (.freeSquares w.toNat h.toNat n.toNat (Kbe4Neutral.toNats (nInts ms)))).tail = _
  rw [e]
  unfold Kbe4.respond Kbe4.withBars
  dsimp only
  cases c : (sizeOk w && sizeOk h && sizeOk n) with
  | false =>
    rw [layer_bad c, if_pos rfl]
    rfl
  | true =>
    rw [if_pos rfl, layer_ok c, if_neg (by simp), parse_spec]
    unfold freeA
    cases parseM ms with
    | none => rfl
    | some bars =>
      dsimp only [Option.map_some]
      rw [cover_spec, flat_spec]
      cases Kbe4.isValid w.toNat h.toNat n.toNat (bars.map toBar) with
      | false => rfl
      | true =>
        simp only [if_true]
        have z : ((Kbe4.allSquares w.toNat h.toNat).filter fun square => !(flat n.toNat bars).contains square) = remM w.toNat h.toNat (flat n.toNat bars) := by
          unfold remM allSq
          refine List.filter_congr fun q _ => ?_
          simp
        rw [z, Nat.mul_comm]
        rfl
end LB
namespace LB
open PySem PySem.Spec PyProof.Rows L2
/-! ### data on the heap -/
inductive Al {α : Type} (R : V → α → Prop) : List V → List α → Prop
  | nil : Al R [] []
  | cons {v : V} {vs : List V} {a : α} {l : List α} : R v a → Al R vs l → Al R (v :: vs) (a :: l)
theorem Al.len {α : Type} {R : V → α → Prop} : ∀ {vs : List V} {l : List α}, Al R vs l → vs.length = l.length
  | _, _, .nil => rfl
  | _, _, .cons _ t => congrArg (· + 1) (Al.len t)
theorem Al.imp {α : Type} {R S : V → α → Prop} (f : ∀ v a, R v a → S v a) : ∀ {vs : List V} {l : List α}, Al R vs l → Al S vs l
  | _, _, .nil => .nil
  | _, _, .cons r t => .cons (f _ _ r) (Al.imp f t)
theorem Al.app {α : Type} {R : V → α → Prop} : ∀ {vs us : List V} {l m : List α}, Al R vs l → Al R us m → Al R (vs ++ us) (l ++ m)
  | _, _, _, _, .nil, s => s
  | _, _, _, _, .cons r t, s => .cons r (Al.app t s)
theorem Al.get {α : Type} {R : V → α → Prop} : ∀ {vs : List V} {l : List α} {i : Nat} {v : V}, Al R vs l → vs[i]? = some v → ∃ a, l[i]? = some a ∧ R v a
  | _, _, _, _, .nil, e => by simp at e
  | _, _, 0, _, .cons r _, e => by
    have e' := Option.some.inj (by simpa using e)
    subst e'
    exact ⟨_, rfl, r⟩
  | _, _, i + 1, v, .cons _ t, e => by
    obtain ⟨a, h1, h2⟩ := Al.get (i := i) (v := v) t (by simpa using e)
    exact ⟨a, by simpa using h1, h2⟩
/-- v is a tuple of xs -/
def TupIs (H : Hp) (xs : List V) (v : V) : Prop := ∃ t, v = .ref t ∧ H t = some (.tup xs)
/-- at p: a list of tuples -/
def TupL {α : Type} (f : α → List V) (H : Hp) (p : Addr) (L : List α) : Prop := ∃ vs, H p = some (.lst vs) ∧ Al (fun v a => TupIs H (f a) v) vs L
def sqV (q : Sq) : List V := [.int (q.1 : Nat), .int (q.2 : Nat)]
def brV (b : Br) : List V := [.int (b.1 : Nat), .int (b.2.1 : Nat), .int (b.2.2 : Nat)]
theorem TupIs.same {H H' : Hp} {xs : List V} {v : V} (s : Same H H') (x : TupIs H xs v) : TupIs H' xs v := by
  obtain ⟨t, e, h⟩ := x
  exact ⟨t, e, s _ _ h⟩
theorem TupIs.put {H : Hp} {p : Addr} {ys : List V} {o : HO} {xs : List V} {v : V} (hp : H p = some (.lst ys)) (x : TupIs H xs v) : TupIs (upd H p o) xs v := by
  obtain ⟨t, e, h⟩ := x
  exact ⟨t, e, by rw [upd_ne (ne_of h hp (by intro z; cases z))]; exact h⟩
theorem TupL.same {α : Type} {f : α → List V} {H H' : Hp} {p : Addr} {L : List α} (s : Same H H') (x : TupL f H p L) : TupL f H' p L := by
  obtain ⟨vs, h, a⟩ := x
  exact ⟨vs, s _ _ h, a.imp fun _ _ r => r.same s⟩
theorem same_new {H : Hp} {p : Addr} {o : HO} (hp : H p = none) : Same H (upd H p o) := fun b u e => by
  rw [upd_ne (ne_of_none e hp)]
  exact e
theorem same_put {H H1 : Hp} {p : Addr} {o : HO} (s : Same H H1) (hp : H p = none) : Same H (upd H1 p o) := fun b u e => by
  rw [upd_ne (ne_of_none e hp)]
  exact s b u e
theorem TupL.new {α : Type} {f : α → List V} {H : Hp} {p : Addr} : TupL f (upd H p (.lst [])) p [] := ⟨[], upd_same, .nil⟩
/-- a new tuple is appended -/
theorem TupL.push {α : Type} {f : α → List V} {H : Hp} {p t : Addr} {L : List α} {q : α} (x : TupL f H p L) (ht : H t = none) :
    ∃ acc, upd H t (.tup (f q)) p = some (.lst acc) ∧ acc.length = L.length ∧ TupL f (upd (upd H t (.tup (f q))) p (.lst (acc ++ [.ref t]))) p (L ++ [q]) := by
  obtain ⟨acc, h, a⟩ := x
  have hp : upd H t (.tup (f q)) p = some (.lst acc) := by
    rw [upd_ne (ne_of_none h ht)]
    exact h
  refine ⟨acc, hp, a.len, acc ++ [.ref t], upd_same, ?_⟩
  refine Al.app (a.imp fun v b r => ?_) (.cons ?_ .nil)
  · exact (r.same (same_new ht)).put hp
  · exact TupIs.put hp ⟨t, rfl, upd_same⟩
/-- a list is put behind a list -/
theorem TupL.ext {α : Type} {f : α → List V} {H : Hp} {p d : Addr} {L M : List α} (x : TupL f H p L) (y : TupL f H d M) :
    ∃ vs us, H p = some (.lst vs) ∧ H d = some (.lst us) ∧ vs.length = L.length ∧ us.length = M.length ∧ TupL f (upd H p (.lst (vs ++ us))) p (L ++ M) := by
  obtain ⟨vs, h, a⟩ := x
  obtain ⟨us, g, b⟩ := y
  exact ⟨vs, us, h, g, a.len, b.len, vs ++ us, upd_same, Al.app (a.imp fun v b r => r.put h) (b.imp fun v b r => r.put h)⟩
/-- two lists together, as a new list -/
theorem TupL.cat {α : Type} {f : α → List V} {H : Hp} {p d : Addr} {L M : List α} (x : TupL f H p L) (y : TupL f H d M) :
    ∃ vs us, H p = some (.lst vs) ∧ H d = some (.lst us) ∧ vs.length = L.length ∧ us.length = M.length ∧ ∀ r, H r = none → TupL f (upd H r (.lst (vs ++ us))) r (L ++ M) := by
  obtain ⟨vs, h, a⟩ := x
  obtain ⟨us, g, b⟩ := y
  exact ⟨vs, us, h, g, a.len, b.len, fun r hr => ⟨vs ++ us, upd_same, Al.app (a.imp fun v b z => z.same (same_new hr)) (b.imp fun v b z => z.same (same_new hr))⟩⟩
theorem TupL.item {α : Type} {f : α → List V} {H : Hp} {p : Addr} {L : List α} (x : TupL f H p L) : ∃ vs, H p = some (.lst vs) ∧ vs.length = L.length ∧ ∀ (i : Nat) (v : V), vs[i]? = some v → ∃ q, L[i]? = some q ∧ TupIs H (f q) v := by
  obtain ⟨vs, h, a⟩ := x
  exact ⟨vs, h, a.len, fun i v e => a.get e⟩
/-- None, or a list -/
def OptL {α : Type} (f : α → List V) (H : Hp) (v : V) (o : Option (List α)) : Prop := match o with
  | none => v = .non
  | some L => ∃ c, v = .ref c ∧ TupL f H c L
theorem OptL.non {α : Type} {f : α → List V} {H : Hp} {v : V} {o : Option (List α)} (x : OptL f H v o) : (!decide (v = V.non)) = o.isSome := by
  cases o with
  | none =>
    have e : v = V.non := x
    rw [e] <;> rfl
  | some L =>
    obtain ⟨c, e, _⟩ := x
    rw [e] <;> rfl
/-! ### x in l -/
def sqD (q : Sq) : PyData := .tuple [.int (q.1 : Nat), .int (q.2 : Nat)]
theorem dp_sq {K : PySem.W.Frag} {H : Hp} {q : Sq} {v : V} (x : TupIs H (sqV q) v) : Dp K H v (sqD q) := by
  obtain ⟨t, e, h⟩ := x
  subst e
  exact .tup (SqT.of h) (.cons (.int _) (.cons (.int _) .nil))
theorem dp_all {K : PySem.W.Frag} {H : Hp} : ∀ {vs : List V} {L : List Sq}, Al (fun v q => TupIs H (sqV q) v) vs L → DpAll K H vs (L.map sqD)
  | _, _, .nil => .nil
  | _, _, .cons r t => .cons (dp_sq r) (dp_all t)
theorem dp_sqs {K : PySem.W.Frag} {H : Hp} {p : Addr} {L : List Sq} (x : TupL sqV H p L) : Dp K H (.ref p) (.list (L.map sqD)) := by
  obtain ⟨vs, h, a⟩ := x
  exact .lst (SqL.of h) (dp_all a)
theorem sqD_lay (q : Sq) : (sqD q).canLay0 = true := by simp [sqD, PyData.canLay0, PyData.canLayAll0]
theorem sqD_depth (q : Sq) : (sqD q).depth = 1 := by simp [sqD, PyData.depth, PyData.depthAll]
theorem sqDs_lay : ∀ L : List Sq, PyData.canLayAll0 (L.map sqD) = true
  | [] => by simp [PyData.canLayAll0]
  | q :: L => by simp [PyData.canLayAll0, sqD_lay q, sqDs_lay L]
theorem sqDs_depth : ∀ L : List Sq, PyData.depthAll (L.map sqD) ≤ 1
  | [] => by simp [PyData.depthAll]
  | q :: L => by
    have h1 := sqDs_depth L
    have h2 := sqD_depth q
    simp only [List.map_cons, PyData.depthAll]
    omega
theorem sqD_shaped (q : Sq) : SeqAt.shaped (sqD q) = true := by
  have h := sqD_depth q
  show ((sqD q).canLay0 && decide ((sqD q).depth ≤ 64)) = true
  rw [Bool.and_eq_true]
  exact ⟨sqD_lay q, decide_eq_true (by omega)⟩
theorem sqDs_shaped (L : List Sq) : SeqAt.shaped (.list (L.map sqD)) = true := by
  have h1 := sqDs_depth L
  have h2 : PyData.depth (.list (L.map sqD)) ≤ 64 := by
    simp only [PyData.depth]
    omega
  show (PyData.canLay0 (.list (L.map sqD)) && decide (PyData.depth (.list (L.map sqD)) ≤ 64)) = true
  rw [Bool.and_eq_true]
  exact ⟨by simp only [PyData.canLay0]; exact sqDs_lay L, decide_eq_true h2⟩
theorem sqD_eqv (z q : Sq) : PyData.eqv (sqD z) (sqD q) = decide (z = q) := by
  obtain ⟨a, b⟩ := z
  obtain ⟨c, d⟩ := q
  have e : PyData.eqv (sqD (a, b)) (sqD (c, d)) = (((a : Int) == (c : Int)) && (((b : Int) == (d : Int)) && true)) := by simp only [sqD, PyData.eqv, PyData.eqvAll]
  rw [e, Bool.eq_iff_iff, decide_eq_true_iff, Bool.and_eq_true, Bool.and_eq_true, beq_iff_eq, beq_iff_eq, Prod.mk.injEq]
  exact ⟨fun ⟨h1, h2, _⟩ => ⟨by omega, by omega⟩, fun ⟨h1, h2⟩ => ⟨by omega, by omega, rfl⟩⟩
theorem sqD_any (q : Sq) : ∀ L : List Sq, ((L.map sqD).any fun z => PyData.eqv z (sqD q)) = decide (q ∈ L)
  | [] => by simp
  | a :: L => by
    rw [List.map_cons, List.any_cons, sqD_any q L, sqD_eqv, Bool.eq_iff_iff, Bool.or_eq_true, decide_eq_true_iff, decide_eq_true_iff, decide_eq_true_iff, List.mem_cons]
    exact ⟨fun h => h.imp Eq.symm id, fun h => h.imp Eq.symm id⟩
theorem in_sqs {K : PySem.W.Frag} {H : Hp} {p : Addr} {L : List Sq} {q : Sq} {v : V} {Q : VK} (y : TupL sqV H p L) (x : TupIs H (sqV q) v) (k : Q (.bl (decide (q ∈ L))) H) : rInD K v (.ref p) H Q :=
  ⟨_, _, dp_sq x, dp_sqs y, sqD_shaped q, sqDs_shaped L, by rw [sqD_any]; exact k⟩
theorem notIn_sqs {K : PySem.W.Frag} {H : Hp} {p : Addr} {L : List Sq} {q : Sq} {v : V} {Q : VK} (y : TupL sqV H p L) (x : TupIs H (sqV q) v) (k : Q (.bl (!decide (q ∈ L))) H) : rNotInD K v (.ref p) H Q :=
  ⟨_, _, dp_sq x, dp_sqs y, sqD_shaped q, sqDs_shaped L, by rw [sqD_any]; exact k⟩
theorem hu65 {A : Around} {k : Nat} (hr : Room k A) : A.units + 65 < cLine := by
  have := hr.un
  omega
/-! ### the layer -/
def lF (w h n : Nat) : List (Str × V) := [("width", .int (w : Nat)), ("height", .int (h : Nat)), ("length", .int (n : Nat))]
def LayerAt (C : Addr) (H : Hp) (a : Addr) (w h n : Nat) : Prop := ∃ dx, H a = some (.ins C dx (lF w h n))
theorem LayerAt.same {C : Addr} {H H' : Hp} {a : Addr} {w h n : Nat} (s : Same H H') (x : LayerAt C H a w h n) : LayerAt C H' a w h n := by
  obtain ⟨dx, e⟩ := x
  exact ⟨dx, s _ _ e⟩
theorem lk_here {k : Str} {v : V} {r : List (Str × V)} : List.lookup k ((k, v) :: r) = some v := by
  have e : (k == k) = true := beq_self_eq_true k
  simp only [List.lookup, e]
theorem lk_past {k g : Str} {v : V} {r : List (Str × V)} (h : (k == g) = false) : List.lookup k ((g, v) :: r) = List.lookup k r := by
  simp only [List.lookup, h]
theorem lF_w (w h n : Nat) : (lF w h n).lookup ("width" : Str) = some (.int (w : Nat)) := lk_here
theorem lF_h (w h n : Nat) : (lF w h n).lookup ("height" : Str) = some (.int (h : Nat)) := (lk_past (by decide +kernel)).trans lk_here
theorem lF_n (w h n : Nat) : (lF w h n).lookup ("length" : Str) = some (.int (n : Nat)) := (lk_past (by decide +kernel)).trans ((lk_past (by decide +kernel)).trans lk_here)
theorem put_past {f g : Str} {v x : V} {r : List (Str × V)} (h : ¬ g = f) : putF f v ((g, x) :: r) = (g, x) :: putF f v r := if_neg h
theorem lF_new (w h n : V) : putF ("length" : Str) n (putF ("height" : Str) h (putF ("width" : Str) w [])) = [(("width" : Str), w), (("height" : Str), h), (("length" : Str), n)] := by
  have e1 : putF ("width" : Str) w [] = [(("width" : Str), w)] := rfl
  have e2 : putF ("height" : Str) h [(("width" : Str), w)] = [(("width" : Str), w), (("height" : Str), h)] := (put_past (by decide +kernel)).trans rfl
  have e3 : putF ("length" : Str) n [(("width" : Str), w), (("height" : Str), h)] = [(("width" : Str), w), (("height" : Str), h), (("length" : Str), n)] := (put_past (by decide +kernel)).trans (congrArg _ ((put_past (by decide +kernel)).trans rfl))
  rw [e1, e2, e3]
/-- what the top tells of Layer -/
structure LayT (K : PySem.W.Frag) (C : Addr) : Prop where
  cl : Cls K C
  nW : NoAttr K C "width"
  nH : NoAttr K C "height"
  nL : NoAttr K C "length"
theorem fld_w {K : PySem.W.Frag} {C a : Addr} {H : Hp} {w h n : Nat} {Q : VK} (T : LayT K C) (x : LayerAt C H a w h n) (q : Q (.int (w : Nat)) H) :
    ∃ b D dx fs v, V.ref a = .ref b ∧ H b = some (.ins D dx fs) ∧ Cls K D ∧ NoAttr K D "width" ∧ fs.lookup ("width" : Str) = some v ∧ Q v H := by
  obtain ⟨dx, e⟩ := x
  exact ⟨a, C, dx, _, _, rfl, e, T.cl, T.nW, lF_w w h n, q⟩
theorem fld_h {K : PySem.W.Frag} {C a : Addr} {H : Hp} {w h n : Nat} {Q : VK} (T : LayT K C) (x : LayerAt C H a w h n) (q : Q (.int (h : Nat)) H) :
    ∃ b D dx fs v, V.ref a = .ref b ∧ H b = some (.ins D dx fs) ∧ Cls K D ∧ NoAttr K D "height" ∧ fs.lookup ("height" : Str) = some v ∧ Q v H := by
  obtain ⟨dx, e⟩ := x
  exact ⟨a, C, dx, _, _, rfl, e, T.cl, T.nH, lF_h w h n, q⟩
theorem fld_n {K : PySem.W.Frag} {C a : Addr} {H : Hp} {w h n : Nat} {Q : VK} (T : LayT K C) (x : LayerAt C H a w h n) (q : Q (.int (n : Nat)) H) :
    ∃ b D dx fs v, V.ref a = .ref b ∧ H b = some (.ins D dx fs) ∧ Cls K D ∧ NoAttr K D "length" ∧ fs.lookup ("length" : Str) = some v ∧ Q v H := by
  obtain ⟨dx, e⟩ := x
  exact ⟨a, C, dx, _, _, rfl, e, T.cl, T.nL, lF_n w h n, q⟩
theorem rd_w {K : PySem.W.Frag} {C a : Addr} {H : Hp} {w h n i : Nat} {σ : L2.St} {Q : VK} (T : LayT K C) (x : LayerAt C H a w h n) (e : σ[i]? = some (some (.ref a))) (q : Q (.int (w : Nat)) H) : tFld K (tVar i) "width" σ H Q := ⟨_, e, fld_w T x q⟩
theorem rd_h {K : PySem.W.Frag} {C a : Addr} {H : Hp} {w h n i : Nat} {σ : L2.St} {Q : VK} (T : LayT K C) (x : LayerAt C H a w h n) (e : σ[i]? = some (some (.ref a))) (q : Q (.int (h : Nat)) H) : tFld K (tVar i) "height" σ H Q := ⟨_, e, fld_h T x q⟩
theorem rd_n {K : PySem.W.Frag} {C a : Addr} {H : Hp} {w h n i : Nat} {σ : L2.St} {Q : VK} (T : LayT K C) (x : LayerAt C H a w h n) (e : σ[i]? = some (some (.ref a))) (q : Q (.int (n : Nat)) H) : tFld K (tVar i) "length" σ H Q := ⟨_, e, fld_n T x q⟩
/-! ### a def of the program, by its name -/
structure Def (P : Program) (w : World) (K : PySem.W.Frag) (mg : Str → Option Value) (base : Heap) (CX : CXT) (k : Nat) (x : Str) (ps : List Str) (sp : Sp) : Prop where
  ex : ∃ f fd, mg x = some (.ref f) ∧ PySem.W.keepIn K (.ref f) = true ∧ Binds K fd ps [] ∧ FnOk P w K mg base CX k f fd ps sp
theorem pe_D {X : Cx} {CX : CXT} {k j : Nat} {x : Str} {ps : List Str} {sp : Sp} {p pos : Pos} {e : Expr} {es : List Expr} {t : TA} {E : XK} (D : Def X.prog X.w X.K X.mg X.base CX k x ps sp) (hx : Passes CX X E) (hr : Room j X.A) (ha : PA X (e :: es) t) (hk : k ≤ j := by decide) (hg : Gl X x := by rfl)
    (hdb : (x == ("__debug__" : Str)) = false := by decide) (he : starEach (e :: es) X.env = (false, eval e X.env) :: starEach es X.env := by rfl) (hpl : (backTo pos (starEach es X.env)).any (·.1) = false := by rfl) : PE X (.Call (.Name x p) (e :: es) [] pos) (tCall sp [] E t) := by
  obtain ⟨f, fd, m, kp, b, F⟩ := D.ex
  exact pe_call F (hr.mono hk) hg m kp b .nil hx ha hdb he hpl
theorem pe_DS {X : Cx} {CX : CXT} {k j : Nat} {x : Str} {ps : List Str} {sp : Sp} {p pos : Pos} {e : Expr} {es : List Expr} {t : TA} {E : L2.St → XK} (D : Def X.prog X.w X.K X.mg X.base CX k x ps sp) (hx : ∀ σ, PassesAt CX X σ (E σ)) (hr : Room j X.A) (ha : PA X (e :: es) t) (hk : k ≤ j := by decide) (hg : Gl X x := by rfl)
    (hdb : (x == ("__debug__" : Str)) = false := by decide) (he : starEach (e :: es) X.env = (false, eval e X.env) :: starEach es X.env := by rfl) (hpl : (backTo pos (starEach es X.env)).any (·.1) = false := by rfl) : PE X (.Call (.Name x p) (e :: es) [] pos) (tCallS sp E t) := by
  obtain ⟨f, fd, m, kp, b, F⟩ := D.ex
  exact pe_callS F (hr.mono hk) hg m kp b hx ha hdb he hpl
/-- a def as the top has written it -/
structure FunD (K : PySem.W.Frag) (mg : Str → Option Value) (x : Str) (st : Stmt) (ps : List Str) : Prop where
  ex : ∃ f fd, mg x = some (.ref f) ∧ Fun K x x st f fd ∧ Binds K fd ps []
theorem FunD.def {P : Program} {w : World} {K : PySem.W.Frag} {mg : Str → Option Value} {base : Heap} {CX : CXT} {k : Nat} {x : Str} {st : Stmt} {ps : List Str} {sp : Sp} (F : FunD K mg x st ps) (h : ∀ f fd, Fun K x x st f fd → FnOk P w K mg base CX k f fd ps sp) : Def P w K mg base CX k x ps sp := by
  obtain ⟨f, fd, m, F, b⟩ := F.ex
  exact ⟨f, fd, m, F.kp, b, h f fd F⟩
theorem fund_mk {K : PySem.W.Frag} {h : Heap} {mg : Str → Option Value} {x : Str} {st : Stmt} {ps : List Str} {f : Addr} {oc : Value} {od an : Option Addr} {osl : Array (Option Value)} {kV doc pm cdv ct : Value} (X : K.In h) (G : h.Ns mainGlobals mg)
    (a : PySem.W.nsIn K mainGlobals x = some (some (.ref f))) (l : K.lookup f = some ⟨oc, od, .func (PySem.W.fnOf x x (defArgs st) (defBody st) (defScope st) .none kV doc pm an cdv ct), osl⟩) (c : PySem.W.codeIn K cdv x = true) (k : PySem.W.keepIn K (.ref f) = true)
    (b : ∀ (kV doc pm : Value) (an : Option Addr) (cdv ct : Value) (us : List Value), us.length = ps.length → bindArgs (PySem.W.fnOf x x (defArgs st) (defBody st) (defScope st) .none kV doc pm an cdv ct) ⟨us, []⟩ = pure (ps.zip us)) : FunD K mg x st ps :=
  have F := fun_mk (st := st) l c k
  ⟨f, _, PySem.W.mg_of X G a, F, F.binds b⟩
/-! ### the own error -/
def Bad (C : Addr) (n : Int) (E : XK) (H : Hp) : Prop := ∀ d H', Same H H' → H' d = some (.xd [(("number" : Str), .int n)]) → E (.ref C) (some d) H'
theorem Bad.same {C : Addr} {n : Int} {E : XK} {H H' : Hp} (s : Same H H') (x : Bad C n E H) : Bad C n E H' := fun d H2 s2 h => x d H2 (s.trans s2) h
structure RefT (K : PySem.W.Frag) (mg : Str → Option Value) (C fI : Addr) : Prop where
  gC : mg "Refused" = some (.ref C)
  ox : OexC K C
  xf : XfC K C
  no : PySem.W.findIn K (.ref C) "number" = some none
  iC : PySem.W.findIn K (.ref C) "__init__" = some (some (.ref fI))
  tI : PySem.W.typeIn K (.ref fI) = some (.type "function")
  te : PySem.W.exmOne K (.ref C) (.ref C) = some true
def spRef (C : Addr) : Sp := fun vs H Q _ => ∃ (a : Addr) (n : Int), vs = [.ref a, .int n] ∧ H a = some (exo a C none) ∧
  ∀ dx, H dx = none → dx ≠ a → Q .non (upd (upd H dx (exd dx [(("number" : Str), .int n)])) a (exo a C (some dx)))
/-- Refused(n) -/
theorem mk_bad {C : Addr} {n : Int} {E : XK} {H : Hp} (b : Bad C n E H) : ∀ a, H a = none → spRef C [.ref a, .int n] (upd H a (exo a C none))
    (fun v H2 => v = .non ∧ ∃ (d : Addr) (fs : List (Str × V)), H2 a = some (exo a C (some d)) ∧ H2 d = some (exd d fs) ∧ H d = none ∧ E (.ref C) (some d) (upd (del H2 a) d (.xd fs))) (fun _ _ _ => False) := by
  intro a ha
  refine ⟨a, n, rfl, upd_same, fun d hd hne => ⟨rfl, d, [(("number" : Str), .int n)], upd_same, ?_, ?_, ?_⟩⟩
  · rw [upd_ne hne]
    exact upd_same
  · rw [upd_ne hne] at hd
    exact hd
  · refine b d _ (fun c o e => ?_) upd_same
    have h1 : c ≠ a := ne_of_none e ha
    have h2 : H d = none := by
      rw [upd_ne hne] at hd
      exact hd
    have h3 : c ≠ d := ne_of_none e h2
    rw [upd_ne h3, del_ne h1, upd_ne h1, upd_ne h3, upd_ne h1]
    exact e
theorem exm_self {K : PySem.W.Frag} {S : Addr} (h1 : PySem.W.subIn K (.ref S) (.type "BaseException") = some true) (h2 : PySem.W.isClsIn K S = true) (h3 : PySem.W.typeIn K (.ref S) = some (.type "type")) (h4 : PySem.W.subIn K (.ref S) (.ref S) = some true) :
    PySem.W.exmOne K (.ref S) (.ref S) = some true := by
  have e1 : (PySem.W.subIn K (.ref S) (.type "BaseException") == some true) = true := by rw [h1] <;> rfl
  have e2 : ((PySem.W.clsIn K S).isSome && PySem.W.typeIn K (.ref S) == some (.type "type")) = true := by
    have h2' : (PySem.W.clsIn K S).isSome = true := h2
    rw [h2', h3] <;> rfl
  show (if (PySem.W.subIn K (.ref S) (.type "BaseException") == some true) = true then (if ((PySem.W.clsIn K S).isSome && PySem.W.typeIn K (.ref S) == some (.type "type")) = true then PySem.W.subIn K (.ref S) (.ref S) else none) else none) = some true
  rw [if_pos e1, if_pos e2]
  exact h4
/-- an if whose test is known -/
theorem ifT {c : Bool} {A B : Prop} (hc : c = true) (h : A) : if c = true then A else B := by
  rw [if_pos hc]
  exact h
theorem ifF {c : Bool} {A B : Prop} (hc : c = false) (h : B) : if c = true then A else B := by
  rw [hc, if_neg Bool.false_ne_true]
  exact h
end LB
namespace LB
open PySem PySem.Spec PyProof.Rows L2
/-- the i-th statement of the program -/
def top (i : Nat) : Stmt := PySem.Challenge.pw_layerbars_s02_can_fill.main.body.getD i (.Pass ⟨0, 0, 0, 0⟩)
abbrev sLI : Stmt := inClass (top 1) 0
abbrev sAS : Stmt := top 2
abbrev sSO : Stmt := top 3
abbrev sII : Stmt := top 4
abbrev sFits : Stmt := top 5
abbrev sRI : Stmt := inClass (top 9) 0
abbrev sNeed : Stmt := top 10
abbrev sNS : Stmt := top 11
abbrev sN3 : Stmt := top 12
abbrev sFF : Stmt := top 16
abbrev sComp : Stmt := top 17
abbrev sCF : Stmt := top 18
abbrev sLay : Stmt := top 20
abbrev sAns : Stmt := top 21
abbrev sMain : Stmt := top 23
/-! ### Layer.__init__, Refused.__init__, need, need_size, need_sizes, layer_for -/
section
variable {P : Program} {w : World} {K : PySem.W.Frag} {mg : Str → Option Value} {base : Heap} {C CR fI fR : Addr} {fdI fdR : FuncData}
abbrev nLI : List Str := ["self", "width", "height", "length"]
def spLI (C : Addr) : Sp := fun vs H Q _ => ∃ (p dx : Addr) (a b c : V), vs = [.ref p, a, b, c] ∧ H p = some (.ins C dx []) ∧
  ∀ H' : Hp, H' p = some (.ins C dx [(("width" : Str), a), (("height" : Str), b), (("length" : Str), c)]) → (∀ q o, H q = some o → q ≠ p → H' q = some o) → Q .non H'
theorem scLI : FnScope nLI nLI (defScope sLI) := ⟨rfl, rfl, rfl, by decide +kernel, rfl, by decide +kernel, by decide +kernel⟩
theorem ok_LI (F : Fun K "__init__" "Layer.__init__" sLI fI fdI) (T : LayT K C) : FnOk P w K mg base CX0 1 fI fdI nLI (spLI C) := by
  refine F.ok scLI (fun vs H Q E h => ?_) (fun cdv A outer s H vs Q E hr h => ?_)
  · obtain ⟨p, dx, a, b, c, rfl, _⟩ := h
    rfl
  · obtain ⟨p, dx, a, b, c, rfl, hp, k⟩ := h
    refine ⟨_, pss_cons (ps_fld (pv 0) (pv 1) rfl) (pss_cons (ps_fld (pv 0) (pv 2) rfl) (pss_one (ps_fld (pv 0) (pv 3) rfl))), ?_⟩
    refine ⟨_, rfl, _, rfl, p, C, dx, [], rfl, hp, T.cl, T.nW, (by decide), ?_⟩
    refine ⟨_, rfl, _, rfl, p, C, dx, _, rfl, upd_same, T.cl, T.nH, (by show 1 < 1000; decide), ?_⟩
    refine ⟨_, rfl, _, rfl, p, C, dx, _, rfl, upd_same, T.cl, T.nL, (by show 2 < 1000; decide), ?_⟩
    refine k _ (Eq.trans upd_same (congrArg (fun q => some (HO.ins C dx q)) (lF_new a b c))) fun q o e hq => ?_
    rw [upd_ne hq, upd_ne hq, upd_ne hq]
    exact e
abbrev nRI : List Str := ["self", "number"]
theorem scRI : FnScope nRI nRI (defScope sRI) := ⟨rfl, rfl, rfl, by decide +kernel, rfl, by decide +kernel, by decide +kernel⟩
theorem ok_RI (F : Fun K "__init__" "Refused.__init__" sRI fR fdR) (T : RefT K mg CR fR) : FnOk P w K mg base CX0 1 fR fdR nRI (spRef CR) := by
  refine F.ok scRI (fun vs H Q E h => ?_) (fun cdv A outer s H vs Q E hr h => ?_)
  · obtain ⟨a, n, rfl, _⟩ := h
    rfl
  · obtain ⟨a, n, rfl, ha, k⟩ := h
    refine ⟨_, pss_one (ps_ost (pv 0) (pv 1)), ?_⟩
    exact ⟨_, rfl, _, rfl, a, CR, rfl, T.ox, T.no, .inl ⟨ha, k⟩⟩
/-- need(fulfilled, number) -/
abbrev nNeed : List Str := ["fulfilled", "number"]
def spNeed (CR : Addr) : Sp := fun vs H Q E => ∃ (b : Bool) (n : Int), vs = [.bl b, .int n] ∧ (b = true → Q .non H) ∧ (b = false → Bad CR n E H)
theorem scNeed : FnScope nNeed nNeed (defScope sNeed) := ⟨rfl, rfl, rfl, by decide +kernel, rfl, by decide +kernel, by decide +kernel⟩
theorem d_need (FD : FunD K mg "need" sNeed nNeed) (T : RefT K mg CR fR) (FR : Fun K "__init__" "Refused.__init__" sRI fR fdR) (bR : Binds K fdR nRI []) : Def P w K mg base (L2.CX P w) 3 "need" nNeed (spNeed CR) := by
  refine FD.def fun f fd F => F.okX scNeed (fun vs H Q E h => ?_) (fun cdv A outer s H vs Q E hr h => ?_)
  · obtain ⟨b, n, rfl, _⟩ := h
    rfl
  · obtain ⟨b, n, rfl, kT, kF⟩ := h
    refine ⟨_, pss_one (ps_if (pt_not (pt_val (pv 0))) (pss_one (ps_raise rfl (takes_of rfl rfl rfl rfl) (pmk_oex T.ox T.iC T.tI (ok_RI FR T) hr bR .nil pass0 rfl T.gC (pa_cons (pv 1) pa_nil)))) pss_nil), ?_⟩
    refine ⟨_, rfl, b, rfl, ?_⟩
    cases b with
    | true => exact kT rfl
    | false => exact ⟨_, rfl, (by show 1 ≤ 1000; decide), mk_bad (kF rfl)⟩
/-- need_size(size) -/
abbrev nNS : List Str := ["size"]
def spNS (CR : Addr) : Sp := fun vs H Q E => ∃ n : Int, vs = [.int n] ∧ (sizeOk n = true → Q .non H) ∧ (sizeOk n = false → Bad CR (-22) E H)
theorem scNS : FnScope nNS nNS (defScope sNS) := ⟨rfl, rfl, rfl, by decide +kernel, rfl, by decide +kernel, by decide +kernel⟩
theorem d_NS (FD : FunD K mg "need_size" sNS nNS) (gO : ∃ t, mg "OUT_OF_RANGE" = some (.int (-22) t)) (gM : ∃ t, mg "MOST_SIZE" = some (.int 6 t)) (D : Def P w K mg base (L2.CX P w) 3 "need" nNeed (spNeed CR)) : Def P w K mg base (L2.CX P w) 4 "need_size" nNS (spNS CR) := by
  obtain ⟨tO, gO⟩ := gO
  obtain ⟨tM, gM⟩ := gM
  refine FD.def fun f fd F => F.okX scNS (fun vs H Q E h => ?_) (fun cdv A outer s H vs Q E hr h => ?_)
  · obtain ⟨n, rfl, _⟩ := h
    rfl
  · obtain ⟨n, rfl, kT, kF⟩ := h
    refine ⟨_, pss_one (ps_expr (pe_D D (passes_call (takes_of rfl rfl rfl rfl) fun _ _ _ _ z => z) hr
      (pa_cons (pe_chain op_le op_le pe_int (pv 0) (pe_glob (v := .int 6) rfl gM ⟨_, rfl⟩)) (pa_cons (pe_glob (v := .int (-22)) rfl gO ⟨_, rfl⟩) pa_nil)))), ?_⟩
    refine ⟨_, rfl, _, _, rfl, rfl, _, rfl, ?_⟩
    by_cases c : (1 : Int) ≤ n
    · refine ifT (decide_eq_true c) ⟨_, _, rfl, rfl, _, _, rfl, fun e => kT ?_, fun e => kF ?_⟩
      · unfold sizeOk
        rw [decide_eq_true c, e] <;> rfl
      · unfold sizeOk
        rw [e, Bool.and_false]
    · refine ifF (decide_eq_false c) ⟨_, _, rfl, fun e => Bool.noConfusion e, fun _ => kF ?_⟩
      unfold sizeOk
      rw [decide_eq_false c, Bool.false_and]
/-- need_sizes(width, height, length) -/
abbrev nN3 : List Str := ["width", "height", "length"]
def ok3 (a b c : Int) : Bool := sizeOk a && sizeOk b && sizeOk c
def spN3 (CR : Addr) : Sp := fun vs H Q E => ∃ a b c : Int, vs = [.int a, .int b, .int c] ∧ (ok3 a b c = true → Q .non H) ∧ (ok3 a b c = false → Bad CR (-22) E H)
theorem scN3 : FnScope nN3 nN3 (defScope sN3) := ⟨rfl, rfl, rfl, by decide +kernel, rfl, by decide +kernel, by decide +kernel⟩
theorem d_N3 (FD : FunD K mg "need_sizes" sN3 nN3) (D : Def P w K mg base (L2.CX P w) 4 "need_size" nNS (spNS CR)) : Def P w K mg base (L2.CX P w) 5 "need_sizes" nN3 (spN3 CR) := by
  refine FD.def fun f fd F => F.okX scN3 (fun vs H Q E h => ?_) (fun cdv A outer s H vs Q E hr h => ?_)
  · obtain ⟨a, b, c, rfl, _⟩ := h
    rfl
  · obtain ⟨a, b, c, rfl, kT, kF⟩ := h
    refine ⟨_, pss_cons (ps_expr (pe_D D (passes_call (takes_of rfl rfl rfl rfl) fun _ _ _ _ z => z) hr (pa_cons (pv 0) pa_nil)))
      (pss_cons (ps_expr (pe_D D (passes_call (takes_of rfl rfl rfl rfl) fun _ _ _ _ z => z) hr (pa_cons (pv 1) pa_nil)))
      (pss_one (ps_expr (pe_D D (passes_call (takes_of rfl rfl rfl rfl) fun _ _ _ _ z => z) hr (pa_cons (pv 2) pa_nil))))), ?_⟩
    unfold ok3 at kT kF
    refine ⟨_, rfl, a, rfl, fun ea => ?_, fun ea => kF (by rw [ea] <;> rfl)⟩
    rw [ea, Bool.true_and] at kT kF
    refine ⟨_, rfl, b, rfl, fun eb => ?_, fun eb => kF (by rw [eb] <;> rfl)⟩
    rw [eb, Bool.true_and] at kT kF
    exact ⟨_, rfl, c, rfl, fun ec => kT ec, fun ec => kF ec⟩
/-- layer_for(width, height, length) -/
def spLay (C CR : Addr) : Sp := fun vs H Q E => ∃ a b c : Int, vs = [.int a, .int b, .int c] ∧ (ok3 a b c = true → ∀ H' p, Same H H' → LayerAt C H' p a.toNat b.toNat c.toNat → Q (.ref p) H') ∧ (ok3 a b c = false → Bad CR (-22) E H)
theorem scLay : FnScope nN3 nN3 (defScope sLay) := ⟨rfl, rfl, rfl, by decide +kernel, rfl, by decide +kernel, by decide +kernel⟩
theorem nat_of {a : Int} (h : sizeOk a = true) : ((a.toNat : Nat) : Int) = a ∧ 1 ≤ a.toNat ∧ a.toNat ≤ 6 := by
  simp only [sizeOk, Bool.and_eq_true, decide_eq_true_eq] at h
  omega
theorem d_Lay (FD : FunD K mg "layer_for" sLay nN3) (gL : mg "Layer" = some (.ref C)) (M : Mk K C fI) (T : LayT K C) (FI : Fun K "__init__" "Layer.__init__" sLI fI fdI) (bI : Binds K fdI nLI []) (D : Def P w K mg base (L2.CX P w) 5 "need_sizes" nN3 (spN3 CR)) :
    Def P w K mg base (L2.CX P w) 6 "layer_for" nN3 (spLay C CR) := by
  refine FD.def fun f fd F => F.okX scLay (fun vs H Q E h => ?_) (fun cdv A outer s H vs Q E hr h => ?_)
  · obtain ⟨a, b, c, rfl, _⟩ := h
    rfl
  · obtain ⟨a, b, c, rfl, kT, kF⟩ := h
    refine ⟨_, pss_cons (ps_expr (pe_D D (passes_call (takes_of rfl rfl rfl rfl) fun _ _ _ _ z => z) hr (pa_cons (pv 0) (pa_cons (pv 1) (pa_cons (pv 2) pa_nil)))))
      (pss_one (ps_ret (pe_make M (ok_LI FI T) (hr.mono (by decide)) rfl gL bI .nil pass0 (pa_cons (pv 0) (pa_cons (pv 1) (pa_cons (pv 2) pa_nil)))))), ?_⟩
    refine ⟨_, rfl, _, rfl, _, rfl, a, b, c, rfl, fun e => ?_, kF⟩
    refine ⟨_, rfl, _, rfl, _, rfl, ?_⟩
    intro x dx nx nd ne
    refine ⟨x, dx, _, _, _, rfl, upd_same, fun H1 J kp => ⟨rfl, ?_⟩⟩
    have s1 : Same H H1 := Same.made nx nd kp
    obtain ⟨ha, hb, hc⟩ := and3 e
    refine kT e H1 x s1 ⟨dx, ?_⟩
    unfold lF
    rw [(nat_of ha).1, (nat_of hb).1, (nat_of hc).1]
    exact J
end
/-! ### all_squares -/
section
variable {P : Program} {w : World} {K : PySem.W.Frag} {mg : Str → Option Value} {base : Heap} {C : Addr}
abbrev nAS : List Str := ["layer", "found", "y", "x"]
def spAS (C : Addr) : Sp := fun vs H Q _ => ∃ (a : Addr) (wd h n : Nat), vs = [.ref a] ∧ LayerAt C H a wd h n ∧ wd ≤ 6 ∧ h ≤ 6 ∧
  ∀ H' p, Same H H' → TupL sqV H' p (allSq wd h) → Q (.ref p) H'
theorem scAS : FnScope nAS ["layer"] (defScope sAS) := ⟨rfl, rfl, rfl, by decide +kernel, rfl, by decide +kernel, by decide +kernel⟩
theorem allSq_succ (wd i : Nat) : allSq wd (i + 1) = allSq wd i ++ (List.range wd).map fun x => (x, i) := by
  unfold allSq Kbe4.allSquares
  rw [List.range_succ, List.flatMap_append]
  simp
theorem row_succ (j i : Nat) : (List.range (j + 1)).map (fun x => ((x, i) : Sq)) = (List.range j).map (fun x => ((x, i) : Sq)) ++ [(j, i)] := by
  rw [List.range_succ, List.map_append]
  rfl
theorem zero_add_nat (i : Nat) : V.int (0 + (i : Int)) = V.int (i : Nat) := by rw [Int.zero_add]
theorem d_AS (FD : FunD K mg "all_squares" sAS ["layer"]) (T : LayT K C) (mr : mg "range" = none) : Def P w K mg base CX0 1 "all_squares" ["layer"] (spAS C) := by
  refine FD.def fun f fd F => F.ok scAS (fun vs H Q E h => ?_) (fun cdv A outer s H vs Q E hr h => ?_)
  · obtain ⟨a, wd, h, n, rfl, _⟩ := h
    rfl
  · obtain ⟨a, wd, h, n, rfl, hL, hw, hh, k⟩ := h
    refine ⟨_, pss_cons (ps_set (i := 1) scAS.nd rfl (Or.inl rfl) (pe_lst pa_nil))
      (pss_cons (ps_for PassesOwn.never rfl (pi_range1 rfl mr (pa_cons (pe_fld (pv 0) rfl) pa_nil)) (pg_name (i := 2) scAS.nd rfl (Or.inr rfl))
        (pss_one (ps_expr (pe_bm PySem.F.plainAttrs_list PySem.F.slot_list_extend PySem.F.type_list_extend mt_extend (pv 1)
          (pa_cons (pe_lc (own := [("x", 3)]) (g := gName 3) (tt := tYes) rfl scAS.nd (pi_range1 rfl mr (pa_cons (pe_fld (pv 0) rfl) pa_nil)) (blkOk_by (N := nAS) (sc := defScope sAS) (by decide +kernel))
            (fun _ _ _ _ _ => pg_name (i := 3) scAS.nd rfl (Or.inl rfl)) (fun _ _ _ _ _ => pts_nil) (fun _ _ _ _ _ => pe_tup (pa_cons (pv 3) (pa_cons (pv 2) pa_nil)))) pa_nil)))))
      (pss_one (ps_ret (pv 1)))), ?_⟩
    refine ⟨(by decide), fun p hp => ?_⟩
    refine ⟨_, rfl, fld_h T (hL.same (same_new hp)) ⟨(h : Nat), rfl, by omega, by omega, ?_⟩⟩
    refine for_range (lo := 0) (n := h) (fun i σ H' => ∃ u v : Option V, σ = [some (.ref a), some (.ref p), u, v] ∧ Same H H' ∧ TupL sqV H' p (allSq wd i))
      ⟨none, none, rfl, same_new hp, TupL.new⟩ ?_ ?_
    · rintro i σ H1 hi ⟨u, v, rfl, s1, t1⟩
      obtain ⟨vs, e1, _⟩ := id t1
      refine ⟨_, rfl, Or.inl ⟨rfl, vs, SqL.of e1⟩, ?_⟩
      refine ⟨_, rfl, fld_w T (hL.same s1) ⟨(wd : Nat), rfl, by omega, by omega, fun D hD => ?_⟩⟩
      refine lc_range (lo := 0) (n := wd) (fun j H2 => Same H1 H2 ∧ TupL sqV H2 D ((List.range j).map fun x => (x, i))) ⟨same_new hD, TupL.new⟩ ?_ ?_
      · rintro j H2 hj ⟨s2, t2⟩
        refine ⟨rfl, ?_⟩
        refine ⟨_, rfl, _, rfl, (by show 2 ≤ sizeLine; decide), fun t ht => ?_⟩
        have e : [V.int (0 + (j : Int)), V.int (0 + (i : Int))] = sqV (j, i) := by
          rw [zero_add_nat, zero_add_nat]
          rfl
        rw [e]
        obtain ⟨acc, f1, f2, f3⟩ := t2.push (q := (j, i)) ht
        refine ⟨acc, f1, small1000 (by rw [f2]; simp; omega), ?_, ?_⟩
        · exact same_put (s2.trans (same_new ht)) hD
        · rw [row_succ]
          exact f3
      · rintro H2 ⟨s2, t2⟩
        obtain ⟨vs, us, f1, f2, f3, f4, f5⟩ := (t1.same s2).ext t2
        rw [allSq_len] at f3
        have z : wd * i ≤ 6 * 6 := Nat.mul_le_mul hw (by omega)
        refine ⟨p, D, vs, us, rfl, rfl, f1, f2, Nat.le_of_lt (small1000 (by rw [f3, f4]; simp; omega)), ?_⟩
        refine ⟨_, _, rfl, same_put (s1.trans s2) hp, ?_⟩
        rw [allSq_succ]
        exact f5
    · rintro σ H1 ⟨u, v, rfl, s1, t1⟩
      exact ⟨_, rfl, k H1 p s1 t1⟩
end
/-! ### squares_of, is_inside, fits -/
theorem take_more2 {α : Type} {l : List α} {i : Nat} {x : α} (h : l[i]? = some x) : l.take (i + 1) = l.take i ++ [x] := by
  rw [List.take_add_one, h]
  rfl
section
variable {P : Program} {w : World} {K : PySem.W.Frag} {mg : Str → Option Value} {base : Heap} {C : Addr}
abbrev nSO : List Str := ["layer", "bar", "x", "y", "direction", "k"]
def spSO (C : Addr) : Sp := fun vs H Q _ => ∃ (a : Addr) (wd h n : Nat) (v : V) (b : Br), vs = [.ref a, v] ∧ LayerAt C H a wd h n ∧ n ≤ 6 ∧ TupIs H (brV b) v ∧
  ∀ H' p, Same H H' → TupL sqV H' p (sqOf n b) → Q (.ref p) H'
theorem scSO : FnScope nSO ["layer", "bar"] (defScope sSO) := ⟨rfl, rfl, rfl, by decide +kernel, rfl, by decide +kernel, by decide +kernel⟩
theorem zero_add_int (i : Nat) : (0 : Int) + (i : Int) = (i : Int) := Int.zero_add _
theorem range_map_succ (g : Nat → Sq) (j : Nat) : (List.range (j + 1)).map g = (List.range j).map g ++ [g j] := by
  rw [List.range_succ, List.map_append]
  rfl
theorem d_SO (FD : FunD K mg "squares_of" sSO ["layer", "bar"]) (T : LayT K C) (mr : mg "range" = none) : Def P w K mg base CX0 1 "squares_of" ["layer", "bar"] (spSO C) := by
  refine FD.def fun f fd F => F.ok scSO (fun vs H Q E h => ?_) (fun cdv A outer s H vs Q E hr h => ?_)
  · obtain ⟨a, wd, h, n, v, b, rfl, _⟩ := h
    rfl
  · obtain ⟨a, wd, h, n, v, b, rfl, hL, hn6, ⟨t, rfl, ht⟩, k⟩ := h
    refine ⟨_, pss_cons (ps_asg (pv 1) (pg_tup rfl (pgs_cons (pg_name (i := 2) scSO.nd rfl (Or.inr rfl)) (pgs_cons (pg_name (i := 3) scSO.nd rfl (Or.inr rfl)) (pgs_cons (pg_name (i := 4) scSO.nd rfl (Or.inl rfl)) pgs_nil)))))
      (pss_cons (ps_if (pt_cmpR op_eq (pv 4) pe_int (nomark _))
        (pss_one (ps_ret (pe_lc (own := [("k", 5)]) (g := gName 5) (tt := tYes) rfl scSO.nd (pi_range1 rfl mr (pa_cons (pe_fld (pv 0) rfl) pa_nil)) (blkOk_by (N := nSO) (sc := defScope sSO) (by decide +kernel))
          (fun _ _ _ _ _ => pg_name (i := 5) scSO.nd rfl (Or.inl rfl)) (fun _ _ _ _ _ => pts_nil) (fun _ _ _ _ _ => pe_tup (pa_cons (pe_op op_add (pv 2) (pv 5)) (pa_cons (pv 3) pa_nil)))))) pss_nil)
      (pss_one (ps_ret (pe_lc (own := [("k", 5)]) (g := gName 5) (tt := tYes) rfl scSO.nd (pi_range1 rfl mr (pa_cons (pe_fld (pv 0) rfl) pa_nil)) (blkOk_by (N := nSO) (sc := defScope sSO) (by decide +kernel))
          (fun _ _ _ _ _ => pg_name (i := 5) scSO.nd rfl (Or.inl rfl)) (fun _ _ _ _ _ => pts_nil) (fun _ _ _ _ _ => pe_tup (pa_cons (pv 2) (pa_cons (pe_op op_add (pv 3) (pv 5)) pa_nil))))))), ?_⟩
    obtain ⟨x, y, d⟩ := b
    obtain ⟨dx, hd⟩ := hL
    refine ⟨_, rfl, t, _, rfl, SqT.of ht, rfl, _, _, rfl, _, _, rfl, _, _, rfl, rfl, ?_⟩
    refine ⟨_, rfl, rfl, _, rfl, ?_⟩
    have ed : decide (V.int (d : Nat) = V.int 1) = decide (d = 1) := by
      rw [dec_int, Bool.eq_iff_iff, beq_iff_eq, decide_eq_true_iff]
      omega
    rw [ed]
    by_cases c : d = 1
    · refine ifT (decide_eq_true c) ?_
      refine ⟨_, rfl, _, _, _, _, _, rfl, hd, T.cl, T.nL, lF_n _ _ _, (n : Nat), rfl, by omega, by omega, fun D hD => ?_⟩
      refine lc_range (lo := 0) (n := n) (fun j H2 => Same H H2 ∧ TupL sqV H2 D ((List.range j).map fun k => (x + k, y))) ⟨same_new hD, TupL.new⟩ ?_ ?_
      · rintro j H2 hj ⟨s2, t2⟩
        refine ⟨rfl, ?_⟩
        refine ⟨_, rfl, _, rfl, _, _, rfl, rfl, _, rfl, (by show 2 ≤ sizeLine; decide), fun u hu => ?_⟩
        have e : [V.int ((x : Int) + (0 + (j : Int))), V.int (y : Nat)] = sqV (x + j, y) := by
          rw [zero_add_int]
          rfl
        have z := t2.push (q := (x + j, y)) hu
        rw [← e] at z
        obtain ⟨acc, f1, f2, f3⟩ := z
        refine ⟨acc, f1, small1000 (by rw [f2]; simp; omega), same_put (s2.trans (same_new hu)) hD, ?_⟩
        rw [range_map_succ]
        exact f3
      · rintro H2 ⟨s2, t2⟩
        refine k H2 D s2 ?_
        unfold sqOf
        rw [if_pos c]
        exact t2
    · refine ifF (decide_eq_false c) ?_
      refine ⟨_, rfl, _, _, _, _, _, rfl, hd, T.cl, T.nL, lF_n _ _ _, (n : Nat), rfl, by omega, by omega, fun D hD => ?_⟩
      refine lc_range (lo := 0) (n := n) (fun j H2 => Same H H2 ∧ TupL sqV H2 D ((List.range j).map fun k => (x, y + k))) ⟨same_new hD, TupL.new⟩ ?_ ?_
      · rintro j H2 hj ⟨s2, t2⟩
        refine ⟨rfl, ?_⟩
        refine ⟨_, rfl, _, rfl, _, rfl, _, _, rfl, rfl, (by show 2 ≤ sizeLine; decide), fun u hu => ?_⟩
        have e : [V.int (x : Nat), V.int ((y : Int) + (0 + (j : Int)))] = sqV (x, y + j) := by
          rw [zero_add_int]
          rfl
        have z := t2.push (q := (x, y + j)) hu
        rw [← e] at z
        obtain ⟨acc, f1, f2, f3⟩ := z
        refine ⟨acc, f1, small1000 (by rw [f2]; simp; omega), same_put (s2.trans (same_new hu)) hD, ?_⟩
        rw [range_map_succ]
        exact f3
      · rintro H2 ⟨s2, t2⟩
        refine k H2 D s2 ?_
        unfold sqOf
        rw [if_neg c]
        exact t2
abbrev nII : List Str := ["layer", "square", "x", "y"]
def spII (C : Addr) : Sp := fun vs H Q _ => ∃ (a : Addr) (wd h n : Nat) (v : V) (q : Sq), vs = [.ref a, v] ∧ LayerAt C H a wd h n ∧ TupIs H (sqV q) v ∧ Q (.bl (inM wd h q)) H
theorem scII : FnScope nII ["layer", "square"] (defScope sII) := ⟨rfl, rfl, rfl, by decide +kernel, rfl, by decide +kernel, by decide +kernel⟩
theorem d_II (FD : FunD K mg "is_inside" sII ["layer", "square"]) (T : LayT K C) : Def P w K mg base CX0 1 "is_inside" ["layer", "square"] (spII C) := by
  refine FD.def fun f fd F => F.ok scII (fun vs H Q E h => ?_) (fun cdv A outer s H vs Q E hr h => ?_)
  · obtain ⟨a, wd, h, n, v, q, rfl, _⟩ := h
    rfl
  · obtain ⟨a, wd, h, n, v, q, rfl, ⟨dx, hd⟩, ⟨t, rfl, ht⟩, k⟩ := h
    refine ⟨_, pss_cons (ps_asg (pv 1) (pg_tup rfl (pgs_cons (pg_name (i := 2) scII.nd rfl (Or.inl rfl)) (pgs_cons (pg_name (i := 3) scII.nd rfl (Or.inl rfl)) pgs_nil))))
      (pss_one (ps_ret (pe_and (pe_cmpR op_lt (pv 2) (pe_fld (pv 0) rfl) (nomark _)) (pe_one (pe_cmpR op_lt (pv 3) (pe_fld (pv 0) rfl) (nomark _)))))), ?_⟩
    refine ⟨_, rfl, t, _, rfl, SqT.of ht, rfl, _, _, rfl, _, _, rfl, rfl, ?_⟩
    refine ⟨_, rfl, _, rfl, _, _, _, _, _, rfl, hd, T.cl, T.nW, lF_w _ _ _, _, _, rfl, rfl, _, rfl, ?_⟩
    unfold inM at k
    by_cases c : q.1 < wd
    · refine ifT (decide_eq_true (by omega)) ?_
      refine ⟨_, rfl, _, rfl, _, _, _, _, _, rfl, hd, T.cl, T.nH, lF_h _ _ _, _, _, rfl, rfl, ?_⟩
      rw [decide_eq_true c, Bool.true_and] at k
      have e : decide (((q.2 : Nat) : Int) < ((h : Nat) : Int)) = decide (q.2 < h) := by
        rw [Bool.eq_iff_iff, decide_eq_true_iff, decide_eq_true_iff]
        omega
      rw [← e] at k
      exact k
    · refine ifF (decide_eq_false (by omega)) ?_
      rw [decide_eq_false c, Bool.false_and] at k
      exact k
abbrev nFits : List Str := ["layer", "covered", "bar", "square"]
def spFits (C : Addr) : Sp := fun vs H Q _ => ∃ (a c : Addr) (wd h n : Nat) (cov : List Sq) (v : V) (b : Br), vs = [.ref a, .ref c, v] ∧ LayerAt C H a wd h n ∧ n ≤ 6 ∧ TupL sqV H c cov ∧ TupIs H (brV b) v ∧
  ∀ H', Same H H' → Q (.bl (fitsM wd h n cov b)) H'
theorem scFits : FnScope nFits ["layer", "covered", "bar"] (defScope sFits) := ⟨rfl, rfl, rfl, by decide +kernel, rfl, by decide +kernel, by decide +kernel⟩
theorem d_Fits (FD : FunD K mg "fits" sFits ["layer", "covered", "bar"]) (T : LayT K C) (DS : Def P w K mg base CX0 1 "squares_of" ["layer", "bar"] (spSO C)) (DI : Def P w K mg base CX0 1 "is_inside" ["layer", "square"] (spII C)) :
    Def P w K mg base CX0 2 "fits" ["layer", "covered", "bar"] (spFits C) := by
  refine FD.def fun f fd F => F.ok scFits (fun vs H Q E h => ?_) (fun cdv A outer s H vs Q E hr h => ?_)
  · obtain ⟨a, c, wd, h, n, cov, v, b, rfl, _⟩ := h
    rfl
  · obtain ⟨a, c, wd, h, n, cov, v, b, rfl, hL, hn6, hC, hB, k⟩ := h
    refine ⟨_, pss_cons (ps_for PassesOwn.never rfl (pi_list (pe_D DS pass0 hr (pa_cons (pv 0) (pa_cons (pv 2) pa_nil)))) (pg_name (i := 3) scFits.nd rfl (Or.inl rfl))
        (pss_one (ps_if (pw_or (pt_not (pt_val (pe_D DI pass0 hr (pa_cons (pv 0) (pa_cons (pv 3) pa_nil))))) (pw_or1 (pt_cmpR (op_inD (hu65 hr)) (pv 3) (pv 1) rfl))).pt (pss_one (ps_ret pe_bl)) pss_nil)))
      (pss_one (ps_ret pe_bl)), ?_⟩
    refine ⟨_, rfl, _, rfl, a, wd, h, n, v, b, rfl, hL, hn6, hB, fun H1 p s1 hp => ?_⟩
    obtain ⟨vs, hv, hlen, hit⟩ := hp.item
    refine ⟨p, rfl, ⟨vs, SqL.of hv⟩, ?_⟩
    refine for_list (K := K) (a := p) (xs := vs) (fun i σ H' => ∃ u : Option V, σ = [some (.ref a), some (.ref c), some v, u] ∧ Same H1 H' ∧ ((sqOf n b).take i).all (okSq wd h cov) = true)
      ⟨none, rfl, Same.refl _, by simp⟩ (fun i σ H' _ ⟨_, _, s2, _⟩ => SqL.of (s2 _ _ hv)) ?_ ?_
    · rintro i x σ H2 hi ⟨u, rfl, s2, hall⟩
      obtain ⟨q, hq, ht⟩ := hit i x hi
      have no : okSq wd h cov q = false → fitsM wd h n cov b = false := fun e => by
        unfold fitsM
        rw [List.all_eq_false]
        exact ⟨q, List.mem_of_getElem? hq, by rw [e]; exact Bool.false_ne_true⟩
      refine ⟨_, rfl, _, rfl, a, wd, h, n, x, q, rfl, (hL.same s1).same s2, ht.same s2, _, rfl, ?_⟩
      cases e1 : inM wd h q with
      | false =>
        have z := k H2 (s1.trans s2)
        rw [no (by unfold okSq; rw [e1, Bool.false_and])] at z
        exact z
      | true =>
        refine ⟨_, rfl, _, rfl, in_sqs ((hC.same s1).same s2) (ht.same s2) ⟨_, rfl, ?_⟩⟩
        by_cases e2 : q ∈ cov
        · refine ifT (decide_eq_true e2) ?_
          have z := k H2 (s1.trans s2)
          rw [no (by unfold okSq; rw [e1, decide_eq_true e2] <;> rfl)] at z
          exact z
        · refine ifF (decide_eq_false e2) ?_
          refine ⟨_, rfl, s2, ?_⟩
          rw [take_more2 hq, List.all_append, hall]
          unfold okSq
          simp [e1, e2]
    · rintro σ H2 ⟨u, rfl, s2, hall⟩
      rw [hlen, List.take_length] at hall
      have z := k H2 (s1.trans s2)
      unfold fitsM at z
      rw [hall] at z
      exact z
end
/-! ### first_free, completed, canonical_filling -/
theorem find_at {α : Type} {p : α → Bool} {l : List α} {i : Nat} {x : α} (h : l[i]? = some x) (hx : p x = true) (ha : ∀ y ∈ l.take i, p y = false) : l.find? p = some x := by
  obtain ⟨hi, e⟩ := List.getElem?_eq_some_iff.mp h
  have z : l = l.take i ++ x :: l.drop (i + 1) := by
    rw [← e, ← List.drop_eq_getElem_cons hi, List.take_append_drop]
  rw [z, List.find?_append, List.find?_eq_none.mpr (fun y m => by rw [ha y m]; exact Bool.false_ne_true), List.find?_cons, hx]
  rfl
/-- one try of the search -/
def att (w h n m : Nat) (cov : List Sq) (bars : List Br) (q : Sq) (d : Nat) : Option (List Br) := if fitsM w h n cov (q.1, q.2, d) = true then comp w h n m (cov ++ sqOf n (q.1, q.2, d)) (bars ++ [(q.1, q.2, d)]) else none
theorem comp_none {w h n m : Nat} {cov : List Sq} {bars : List Br} (e : firstM w h cov = none) : comp w h n (m + 1) cov bars = some bars := by
  rw [comp, e]
theorem comp_some {w h n m : Nat} {cov : List Sq} {bars : List Br} {q : Sq} (e : firstM w h cov = some q) : comp w h n (m + 1) cov bars = match att w h n m cov bars q 1 with
    | some r => some r
    | none => att w h n m cov bars q 0 := by
  rw [comp, e]
  rfl
section
variable {P : Program} {w : World} {K : PySem.W.Frag} {mg : Str → Option Value} {base : Heap} {C : Addr}
abbrev nFF : List Str := ["layer", "covered", "square"]
def OptS (H : Hp) (v : V) (o : Option Sq) : Prop := match o with
  | none => v = .non
  | some q => TupIs H (sqV q) v
def spFF (C : Addr) : Sp := fun vs H Q _ => ∃ (a c : Addr) (wd h n : Nat) (cov : List Sq), vs = [.ref a, .ref c] ∧ LayerAt C H a wd h n ∧ wd ≤ 6 ∧ h ≤ 6 ∧ TupL sqV H c cov ∧
  ∀ H' v, Same H H' → OptS H' v (firstM wd h cov) → Q v H'
theorem scFF : FnScope nFF ["layer", "covered"] (defScope sFF) := ⟨rfl, rfl, rfl, by decide +kernel, rfl, by decide +kernel, by decide +kernel⟩
theorem d_FF (FD : FunD K mg "first_free" sFF ["layer", "covered"]) (T : LayT K C) (DA : Def P w K mg base CX0 1 "all_squares" ["layer"] (spAS C)) : Def P w K mg base CX0 2 "first_free" ["layer", "covered"] (spFF C) := by
  refine FD.def fun f fd F => F.ok scFF (fun vs H Q E h => ?_) (fun cdv A outer s H vs Q E hr h => ?_)
  · obtain ⟨a, c, wd, h, n, cov, rfl, _⟩ := h
    rfl
  · obtain ⟨a, c, wd, h, n, cov, rfl, hL, hw, hh, hC, k⟩ := h
    refine ⟨_, pss_cons (ps_for PassesOwn.never rfl (pi_list (pe_D DA pass0 hr (pa_cons (pv 0) pa_nil))) (pg_name (i := 2) scFF.nd rfl (Or.inl rfl))
        (pss_one (ps_if (pt_cmpR (op_notInD (hu65 hr)) (pv 2) (pv 1) rfl) (pss_one (ps_ret (pv 2))) pss_nil)))
      (pss_one (ps_ret pe_non)), ?_⟩
    refine ⟨_, rfl, a, wd, h, n, rfl, hL, hw, hh, fun H1 p s1 hp => ?_⟩
    obtain ⟨vs, hv, hlen, hit⟩ := hp.item
    refine ⟨p, rfl, ⟨vs, SqL.of hv⟩, ?_⟩
    refine for_list (K := K) (a := p) (xs := vs) (fun i σ H' => ∃ u : Option V, σ = [some (.ref a), some (.ref c), u] ∧ Same H1 H' ∧ ∀ y ∈ (allSq wd h).take i, (!decide (y ∈ cov)) = false)
      ⟨none, rfl, Same.refl _, fun y m => absurd m (by simp)⟩ (fun i σ H' _ ⟨_, _, s2, _⟩ => SqL.of (s2 _ _ hv)) ?_ ?_
    · rintro i x σ H2 hi ⟨u, rfl, s2, hall⟩
      obtain ⟨q, hq, ht⟩ := hit i x hi
      refine ⟨_, rfl, _, rfl, notIn_sqs ((hC.same s1).same s2) (ht.same s2) ⟨_, rfl, ?_⟩⟩
      by_cases e : q ∈ cov
      · refine ifF (by simp [e]) ⟨_, rfl, s2, fun y m => ?_⟩
        rw [List.take_add_one, hq] at m
        rcases List.mem_append.mp m with m | m
        · exact hall y m
        · have ey : y = q := by simpa using m
          rw [ey]
          simp [e]
      · refine ifT (by simp [e]) ⟨_, rfl, k H2 x (s1.trans s2) ?_⟩
        have z : firstM wd h cov = some q := find_at hq (by simp [e]) hall
        rw [z]
        exact ht.same s2
    · rintro σ H2 ⟨u, rfl, s2, hall⟩
      rw [hlen, List.take_length] at hall
      refine k H2 _ (s1.trans s2) ?_
      have z : firstM wd h cov = none := List.find?_eq_none.mpr fun y m => by rw [hall y m]; exact Bool.false_ne_true
      rw [z]
      rfl
abbrev nComp : List Str := ["layer", "covered", "bars", "square", "direction", "bar", "found"]
abbrev pComp : List Str := ["layer", "covered", "bars"]
def spComp (C : Addr) (m : Nat) : Sp := fun vs H Q _ => ∃ (a c b : Addr) (wd h n : Nat) (cov : List Sq) (bars : List Br), vs = [.ref a, .ref c, .ref b] ∧ LayerAt C H a wd h n ∧ wd ≤ 6 ∧ h ≤ 6 ∧ 0 < n ∧ n ≤ 6 ∧ TupL sqV H c cov ∧ TupL brV H b bars ∧
  (remM wd h cov).length < m ∧ cov.length + 6 * m ≤ 400 ∧ bars.length + m ≤ 100 ∧ ∀ H' v, Same H H' → OptL brV H' v (comp wd h n m cov bars) → Q v H'
theorem scComp : FnScope nComp pComp (defScope sComp) := ⟨rfl, rfl, rfl, by decide +kernel, rfl, by decide +kernel, by decide +kernel⟩
theorem ok_Comp {f : Addr} {fd : FuncData} (F : Fun K "completed" "completed" sComp f fd) (mC : mg "completed" = some (.ref f)) (bC : Binds K fd pComp []) (gA : ∃ t, mg "ALONG" = some (.int 1 t)) (gX : ∃ t, mg "ACROSS" = some (.int 0 t))
    (DFF : Def P w K mg base CX0 2 "first_free" ["layer", "covered"] (spFF C)) (DFits : Def P w K mg base CX0 2 "fits" ["layer", "covered", "bar"] (spFits C)) (DS : Def P w K mg base CX0 1 "squares_of" ["layer", "bar"] (spSO C)) :
    ∀ m : Nat, FnOk P w K mg base CX0 (m + 3) f fd pComp (spComp C m)
  | 0 => F.ok scComp (fun vs H Q E h => by
      obtain ⟨a, c, b, wd, h, n, cov, bars, rfl, _⟩ := h
      rfl) (fun cdv A outer s H vs Q E hr h => by
      obtain ⟨a, c, b, wd, h, n, cov, bars, rfl, _, _, _, _, _, _, _, z, _⟩ := h
      exact absurd z (Nat.not_lt_zero _))
  | m + 1 => by
    have ih := ok_Comp F mC bC gA gX DFF DFits DS m
    have DC : Def P w K mg base CX0 (m + 3) "completed" pComp (spComp C m) := ⟨f, fd, mC, F.kp, bC, ih⟩
    obtain ⟨tA, gA⟩ := gA
    obtain ⟨tX, gX⟩ := gX
    refine F.ok scComp (fun vs H Q E h => ?_) (fun cdv A outer s H vs Q E hr h => ?_)
    · obtain ⟨a, c, b, wd, h, n, cov, bars, rfl, _⟩ := h
      rfl
    · obtain ⟨a, c, b, wd, h, n, cov, bars, rfl, hL, hw, hh, hn, hn6, hC, hB, hrem, hcl, hbl, k⟩ := h
      refine ⟨_, pss_cons (ps_set (i := 3) scComp.nd rfl (Or.inl rfl) (pe_D DFF pass0 hr (pa_cons (pv 0) (pa_cons (pv 1) pa_nil)) (by omega)))
        (pss_cons (ps_if (pt_cmp (pc_isN (pv 3))) (pss_one (ps_ret (pv 2))) pss_nil)
        (pss_cons (ps_for PassesOwn.never rfl (pi_tup (pe_tup (pa_cons (pe_glob (v := .int 1) rfl gA ⟨_, rfl⟩) (pa_cons (pe_glob (v := .int 0) rfl gX ⟨_, rfl⟩) pa_nil)))) (pg_name (i := 4) scComp.nd rfl (Or.inl rfl))
          (pss_cons (ps_set (i := 5) scComp.nd rfl (Or.inl rfl) (pe_tup (pa_cons (pe_ix ix_tup (pv 3) pe_int (fun _ _ => rfl)) (pa_cons (pe_ix ix_tup (pv 3) pe_int (fun _ _ => rfl)) (pa_cons (pv 4) pa_nil)))))
          (pss_one (ps_if (pt_val (pe_D DFits pass0 hr (pa_cons (pv 0) (pa_cons (pv 1) (pa_cons (pv 5) pa_nil))) (by omega)))
            (pss_cons (ps_set (i := 6) scComp.nd rfl (Or.inl rfl) (pe_D DC pass0 hr (pa_cons (pv 0) (pa_cons (pe_op op_cat (pv 1) (pe_D DS pass0 hr (pa_cons (pv 0) (pa_cons (pv 5) pa_nil)) (by omega))) (pa_cons (pe_op op_cat (pv 2) (pe_lst (pa_cons (pv 5) pa_nil))) pa_nil))) (by omega)))
            (pss_one (ps_if (pt_cmp (pc_notN (pv 6))) (pss_one (ps_ret (pv 6))) pss_nil))) pss_nil))))
        (pss_one (ps_ret pe_non)))), ?_⟩
      refine ⟨_, rfl, _, rfl, a, c, wd, h, n, cov, rfl, hL, hw, hh, hC, fun H1 v s1 hv => ?_⟩
      refine ⟨_, rfl, _, rfl, ?_⟩
      cases ef : firstM wd h cov with
      | none =>
        rw [ef] at hv
        have ev : v = V.non := hv
        refine ifT (decide_eq_true ev) ⟨_, rfl, k H1 _ s1 ?_⟩
        rw [comp_none ef]
        exact ⟨b, rfl, hB.same s1⟩
      | some q =>
        rw [ef] at hv
        obtain ⟨t3, ev, h3⟩ := hv
        subst ev
        refine ifF rfl ?_
        refine ⟨(by show 2 ≤ sizeLine; decide), fun tt htt => ⟨tt, rfl, ⟨_, SqT.of upd_same⟩, ?_⟩⟩
        have st : Same H1 (upd H1 tt (.tup [.int 1, .int 0])) := same_new htt
        refine for_tup (K := K) (a := tt) (xs := [.int 1, .int 0]) (fun i σ H' => ∃ u4 u5 u6 : Option V, σ = [some (.ref a), some (.ref c), some (.ref b), some (.ref t3), u4, u5, u6] ∧ Same (upd H1 tt (.tup [.int 1, .int 0])) H' ∧ (1 ≤ i → att wd h n m cov bars q 1 = none) ∧ (2 ≤ i → att wd h n m cov bars q 0 = none))
          ⟨none, none, none, rfl, Same.refl _, fun z => absurd z (by decide), fun z => absurd z (by decide)⟩ (fun i σ H' _ ⟨_, _, _, _, s2, _, _⟩ => SqT.of (s2 _ _ upd_same)) ?_ ?_
        · rintro i x σ H2 hi ⟨u4, u5, u6, rfl, s2, n1, n0⟩
          obtain ⟨d, hx, hyes, hno⟩ : ∃ d : Nat, x = V.int (d : Nat) ∧ (∀ r, att wd h n m cov bars q d = some r → comp wd h n (m + 1) cov bars = some r) ∧
              (att wd h n m cov bars q d = none → (1 ≤ i + 1 → att wd h n m cov bars q 1 = none) ∧ (2 ≤ i + 1 → att wd h n m cov bars q 0 = none)) := by
            match i, hi with
            | 0, hi =>
              refine ⟨1, (Option.some.inj hi).symm, fun r er => ?_, fun er => ⟨fun _ => er, fun z => absurd z (by decide)⟩⟩
              rw [comp_some ef, er]
            | 1, hi =>
              refine ⟨0, (Option.some.inj hi).symm, fun r er => ?_, fun er => ⟨fun _ => n1 (by decide), fun _ => er⟩⟩
              rw [comp_some ef, n1 (by decide)]
              exact er
            | j + 2, hi => simp at hi
          subst hx
          have s02 : Same H H2 := (s1.trans st).trans s2
          have h3' : H2 t3 = some (.tup (sqV q)) := s2 _ _ (st _ _ h3)
          refine ⟨_, rfl, t3, _, _, _, rfl, rfl, SqT.of h3', atI_nat (xs := sqV q) (j := 0) rfl, ?_⟩
          refine ⟨_, rfl, t3, _, _, _, rfl, rfl, SqT.of h3', atI_nat (xs := sqV q) (j := 1) rfl, ?_⟩
          refine ⟨_, rfl, (by show 3 ≤ sizeLine; decide), fun t ht => ?_⟩
          have s3 : Same H (upd H2 t (.tup [.int (q.1 : Nat), .int (q.2 : Nat), .int (d : Nat)])) := s02.trans (same_new ht)
          have hbar : TupIs (upd H2 t (.tup [.int (q.1 : Nat), .int (q.2 : Nat), .int (d : Nat)])) (brV (q.1, q.2, d)) (.ref t) := ⟨t, rfl, upd_same⟩
          refine ⟨_, rfl, _, rfl, _, rfl, a, c, wd, h, n, cov, .ref t, (q.1, q.2, d), rfl, hL.same s3, hn6, hC.same s3, hbar, fun H4 s4 => ⟨_, rfl, ?_⟩⟩
          have s24 : Same (upd H1 tt (.tup [.int 1, .int 0])) H4 := (s2.trans (same_new ht)).trans s4
          cases efit : fitsM wd h n cov (q.1, q.2, d) with
          | false =>
            have er : att wd h n m cov bars q d = none := by
              unfold att
              rw [if_neg (by rw [efit]; exact Bool.false_ne_true)]
            exact ⟨_, _, _, rfl, s24, hno er⟩
          | true =>
            have er : att wd h n m cov bars q d = comp wd h n m (cov ++ sqOf n (q.1, q.2, d)) (bars ++ [(q.1, q.2, d)]) := by
              unfold att
              rw [if_pos efit]
            have sH4 : Same H H4 := s3.trans s4
            refine ⟨_, rfl, _, rfl, _, rfl, _, rfl, a, wd, h, n, .ref t, (q.1, q.2, d), rfl, hL.same sH4, hn6, hbar.same s4, fun H5 r s5 hr5 => ?_⟩
            obtain ⟨ys, zs, f1, f2, f3, f4, f5⟩ := ((hC.same sH4).same s5).cat hr5
            rw [sqOf_len] at f4
            refine ⟨c, r, ys, zs, rfl, rfl, f1, f2, Nat.le_of_lt (small1000 (by omega)), fun z hz => ?_⟩
            refine ⟨_, rfl, _, rfl, (by show 1 ≤ sizeLine; decide), fun l hl => ?_⟩
            have sz := same_new (o := .lst (ys ++ zs)) hz
            have sl := same_new (o := .lst [.ref t]) hl
            have hl1 : TupL brV (upd (upd H5 z (.lst (ys ++ zs))) l (.lst [.ref t])) l [(q.1, q.2, d)] := ⟨_, upd_same, .cons ((((hbar.same s4).same s5).same sz).same sl) .nil⟩
            obtain ⟨ys2, zs2, g1, g2, g3, g4, g5⟩ := ((((hB.same sH4).same s5).same sz).same sl).cat hl1
            refine ⟨b, l, ys2, zs2, rfl, rfl, g1, g2, Nat.le_of_lt (small1000 (by simp at g4; omega)), fun y hy => ?_⟩
            have sy := same_new (o := .lst (ys2 ++ zs2)) hy
            have s9 := (s5.trans sz).trans (sl.trans sy)
            have rl := rem_less hn ef d
            refine ⟨a, z, y, wd, h, n, cov ++ sqOf n (q.1, q.2, d), bars ++ [(q.1, q.2, d)], rfl, (hL.same sH4).same s9, hw, hh, hn, hn6, (f5 z hz).same (sl.trans sy), g5 y hy, by omega, ?_, ?_, fun H9 v9 s99 hv9 => ?_⟩
            · rw [List.length_append, sqOf_len]
              omega
            · rw [List.length_append]
              show bars.length + 1 + m ≤ 100
              omega
            · refine ⟨_, rfl, _, rfl, ?_⟩
              rw [← er] at hv9
              cases ea : att wd h n m cov bars q d with
              | none =>
                rw [ea] at hv9
                have ev : v9 = V.non := hv9
                subst ev
                exact ⟨_, _, _, rfl, (s24.trans s9).trans s99, hno ea⟩
              | some res =>
                rw [ea] at hv9
                obtain ⟨p9, ev, hp9⟩ := hv9
                subst ev
                refine ifT rfl ⟨_, rfl, k H9 _ ((sH4.trans s9).trans s99) ?_⟩
                rw [hyes res ea]
                exact ⟨p9, rfl, hp9⟩
        · rintro σ H2 ⟨u4, u5, u6, rfl, s2, n1, n0⟩
          refine k H2 _ ((s1.trans st).trans s2) ?_
          rw [comp_some ef, n1 (by decide)]
          show OptL brV H2 V.non (att wd h n m cov bars q 0)
          rw [n0 (by decide)]
          rfl
theorem d_Comp (FD : FunD K mg "completed" sComp pComp) (T : LayT K C) (gA : ∃ t, mg "ALONG" = some (.int 1 t)) (gX : ∃ t, mg "ACROSS" = some (.int 0 t))
    (DFF : Def P w K mg base CX0 2 "first_free" ["layer", "covered"] (spFF C)) (DFits : Def P w K mg base CX0 2 "fits" ["layer", "covered", "bar"] (spFits C)) (DS : Def P w K mg base CX0 1 "squares_of" ["layer", "bar"] (spSO C)) :
    ∀ m : Nat, Def P w K mg base CX0 (m + 3) "completed" pComp (spComp C m) := by
  obtain ⟨f, fd, mC, F, bC⟩ := FD.ex
  exact fun m => ⟨f, fd, mC, F.kp, bC, ok_Comp F mC bC gA gX DFF DFits DS m⟩
def spCF (C : Addr) : Sp := fun vs H Q _ => ∃ (a : Addr) (wd h n : Nat), vs = [.ref a] ∧ LayerAt C H a wd h n ∧ wd ≤ 6 ∧ h ≤ 6 ∧ 0 < n ∧ n ≤ 6 ∧ ∀ H' v, Same H H' → OptL brV H' v (comp wd h n (wd * h + 1) [] []) → Q v H'
theorem scCF : FnScope ["layer"] ["layer"] (defScope sCF) := ⟨rfl, rfl, rfl, by decide +kernel, rfl, by decide +kernel, by decide +kernel⟩
theorem d_CF (FD : FunD K mg "canonical_filling" sCF ["layer"]) (T : LayT K C) (DC : ∀ m : Nat, Def P w K mg base CX0 (m + 3) "completed" pComp (spComp C m)) : Def P w K mg base CX0 43 "canonical_filling" ["layer"] (spCF C) := by
  refine FD.def fun f fd F => F.ok scCF (fun vs H Q E h => ?_) (fun cdv A outer s H vs Q E hr h => ?_)
  · obtain ⟨a, wd, h, n, rfl, _⟩ := h
    rfl
  · obtain ⟨a, wd, h, n, rfl, hL, hw, hh, hn, hn6, k⟩ := h
    have hwh : wd * h ≤ 6 * 6 := Nat.mul_le_mul hw hh
    refine ⟨_, pss_one (ps_ret (pe_D (DC (wd * h + 1)) pass0 hr (pa_cons (pv 0) (pa_cons (pe_lst pa_nil) (pa_cons (pe_lst pa_nil) pa_nil))) (by omega))), ?_⟩
    refine ⟨_, rfl, (by decide), fun c hc => ⟨(by decide), fun b hb => ?_⟩⟩
    have s2 := (same_new (o := .lst []) hc).trans (same_new (o := .lst []) hb)
    refine ⟨a, c, b, wd, h, n, [], [], rfl, hL.same s2, hw, hh, hn, hn6, TupL.new.same (same_new hb), TupL.new, ?_, ?_, ?_, fun H' v s3 hv => k H' v (s2.trans s3) hv⟩
    · rw [allSq_nil, allSq_len]
      omega
    · show 0 + 6 * (wd * h + 1) ≤ 400
      omega
    · show 0 + (wd * h + 1) ≤ 100
      omega
end
/-! ### the def of the interface: three whole numbers -/
/-- what is answered: none: -33 -/
def dueOf (o : Option (List Int)) : List Int := match o with
  | some l => l
  | none => [-33]
def spA3 (CR : Addr) (A : Nat → Nat → Nat → Option (List Int)) : Sp := fun vs H Q E => ∃ a b c : Int, vs = [.int a, .int b, .int c] ∧
  (ok3 a b c = true → (∀ l, A a.toNat b.toNat c.toNat = some l → ∀ H' p, Same H H' → H' p = some (.lst (l.map V.int)) → Q (.ref p) H') ∧ (A a.toNat b.toNat c.toNat = none → Bad CR (-33) E H)) ∧
  (ok3 a b c = false → Bad CR (-22) E H)
def spM3 (A : Nat → Nat → Nat → Option (List Int)) : Sp := fun vs H Q _ => ∃ a b c : Int, vs = [.int a, .int b, .int c] ∧
  ∀ H' p, H' p = some (.lst ((if ok3 a b c = true then dueOf (A a.toNat b.toNat c.toNat) else [-22]).map V.int)) → Q (.ref p) H'
section
variable {P : Program} {w : World} {K : PySem.W.Frag} {mg : Str → Option Value} {base : Heap} {C CR fI fR : Addr} {fdI fdR : FuncData} {A3 : Nat → Nat → Nat → Option (List Int)}
abbrev nM3 : List Str := ["width", "height", "length", "refusal"]
theorem scM3 : FnScope nM3 nN3 (defScope sMain) := ⟨rfl, rfl, rfl, by decide +kernel, rfl, by decide +kernel, by decide +kernel⟩
theorem lk_number {n : Int} : List.lookup ("number" : Str) [(("number" : Str), V.int n)] = some (V.int n) := lk_here
theorem d_M3 {x y : Str} {f : Addr} {fd : FuncData} (F : Fun K x x sMain f fd) (T : RefT K mg CR fR) (D : Def P w K mg base (L2.CX P w) 45 y nN3 (spA3 CR A3)) (hy : y = "can_fill_answer") (hx : x = "can_fill") : FnOk P w K mg base CX0 46 f fd nN3 (spM3 A3) := by
  subst hy hx
  refine F.ok scM3 (fun vs H Q E h => ?_) (fun cdv A outer s H vs Q E hr h => ?_)
  · obtain ⟨a, b, c, rfl, _⟩ := h
    rfl
  · obtain ⟨a, b, c, rfl, k⟩ := h
    refine ⟨_, pss_one (ps_try_as (i := 3) (tb := fun W => tRet (tCallS (spA3 CR A3) (WE W) (tCons (tVar 0) (tCons (tVar 1) (tCons (tVar 2) tNil)))))
      (ts := fun a cls d => tRet (tLst (tCons (tXf a cls d CR "number" (tVar 3)) tNil))) (Wout := fun _ _ _ _ => False) rfl rfl scM3.nd rfl rfl ⟨rfl, by decide, Or.inl T.gC⟩ takes0
      (fun W pn xe tk _ => pss_one (ps_ret (by exact (pe_DS D (fun σ => passAt tk σ) hr (by exact (pa_cons (pv 0) (pa_cons (pv 1) (pa_cons (pv 2) pa_nil))))))))
      (fun a oe cls d pn hz hf => pss_one (ps_ret (pe_lst (pa_cons (pe_xf T.xf T.no hz hf (pv 3)) pa_nil))))), ?_⟩
    have bad : ∀ n : Int, (if ok3 a b c = true then dueOf (A3 a.toNat b.toNat c.toNat) else [-22]) = [n] →
        Bad CR n (WE (wAs K (.ref CR) 3 (fun a cls d => tRet (tLst (tCons (tXf a cls d CR "number" (tVar 3)) tNil))) (fun _ _ _ _ => False) { nx := fun _ H' => Q .non H', rt := Q }) (start nM3 [.int a, .int b, .int c])) H := by
      intro n e d H' _ hd
      refine ⟨true, T.te, fun _ a0 _ => ?_, fun q => Bool.noConfusion q⟩
      refine ⟨_, rfl, rfl, rfl, d, _, _, rfl, hd, lk_number, (by show 1 ≤ sizeLine; decide), fun p _ => ?_⟩
      refine k _ p ?_
      rw [e]
      exact upd_same
    refine ⟨_, rfl, _, rfl, _, rfl, a, b, c, rfl, fun e => ⟨fun l el H' p s1 hp => ?_, fun el => bad (-33) ?_⟩, fun e => bad (-22) ?_⟩
    · refine k H' p ?_
      rw [if_pos e, el]
      exact hp
    · rw [if_pos e, el]
      rfl
    · rw [e, if_neg Bool.false_ne_true]
end
theorem told3 {K : PySem.W.Frag} {H : Hp} {p : Addr} {l m : List Int} (e : m = l) (h : H p = some (.lst (l.map V.int))) : Dw K H (.ref p) (.list (m.map PySem.W.WData.int)) := by
  subst e
  exact .lst (L2.SqL.of h) (L2.dw_ints _)
/-! ### can_fill_answer -/
def due02 (w h n : Nat) : Option (List Int) := some (canA w h n)
theorem is02 (w h n : Int) : PyKbe4.can_fill w h n = if ok3 w h n = true then dueOf (due02 w.toNat h.toNat n.toNat) else [-22] := due_can w h n
section
variable {P : Program} {w : World} {K : PySem.W.Frag} {mg : Str → Option Value} {base : Heap} {C CR : Addr}
theorem scAns : FnScope nN3 nN3 (defScope sAns) := ⟨rfl, rfl, rfl, by decide +kernel, rfl, by decide +kernel, by decide +kernel⟩
theorem d_Ans (FD : FunD K mg "can_fill_answer" sAns nN3) (zi : mg "int" = none) (DL : Def P w K mg base (L2.CX P w) 6 "layer_for" nN3 (spLay C CR)) (DC : Def P w K mg base CX0 43 "canonical_filling" ["layer"] (spCF C)) :
    Def P w K mg base (L2.CX P w) 45 "can_fill_answer" nN3 (spA3 CR due02) := by
  refine FD.def fun f fd F => F.okX scAns (fun vs H Q E h => ?_) (fun cdv A outer s H vs Q E hr h => ?_)
  · obtain ⟨a, b, c, rfl, _⟩ := h
    rfl
  · obtain ⟨a, b, c, rfl, kT, kF⟩ := h
    refine ⟨_, pss_one (ps_ret (pe_lst (pa_cons (pe_callTy call_int1 rfl zi (by decide +kernel) (pa_cons (pe_cmp (pc_notN (pe_D DC pass0 hr (pa_cons (pe_D DL (passes_call (takes_of rfl rfl rfl rfl) fun _ _ _ _ z => z) hr (pa_cons (pv 0) (pa_cons (pv 1) (pa_cons (pv 2) pa_nil)))) pa_nil)))) pa_nil)) pa_nil))), ?_⟩
    refine ⟨_, rfl, _, rfl, _, rfl, a, b, c, rfl, fun e => ?_, kF⟩
    obtain ⟨ha, hb, hc⟩ := and3 e
    have kT := (kT e).1 _ rfl
    intro H1 y s1 hL
    refine ⟨y, _, _, _, rfl, hL, (nat_of ha).2.2, (nat_of hb).2.2, pos_of hc, (nat_of hc).2.2, fun H2 v s2 hv => ?_⟩
    refine .inr ⟨_, rfl, (by show 1 ≤ sizeLine; decide), fun r hr => ?_⟩
    refine kT _ r ((s1.trans s2).trans (same_new hr)) ?_
    rw [upd_same, hv.non]
    rfl
end
/-! ### the end: what the top has written -/
theorem all_mk {P : Program} {w : World} {K : PySem.W.Frag} {h : Heap} {mg : Str → Option Value} {fa C CR f_LI f_RI f_all_squares f_squares_of f_is_inside f_fits f_need f_need_size f_need_sizes f_first_free f_completed f_canonical_filling f_layer_for f_ans f_main : Addr} (X : K.In h) (G : h.Ns mainGlobals mg) (hfa : mg "can_fill" = some (.ref fa))
    {nm q : Str} {N : Addr} {bs : List Value} {sn : List Str} {sub : List Value} {ab : Bool} {col : Option Bool} {dd : Option Addr} {m0 m1 m2 m3 m5 : Option Value} {t_OUT_OF_RANGE t_MOST_SIZE t_ALONG t_ACROSS : Tok}
    {od_LI an_LI od_RI an_RI od_all_squares an_all_squares od_squares_of an_squares_of od_is_inside an_is_inside od_fits an_fits od_need an_need od_need_size an_need_size od_need_sizes an_need_sizes od_first_free an_first_free od_completed an_completed od_canonical_filling an_canonical_filling od_layer_for an_layer_for od_ans an_ans od_main an_main : Option Addr} {sl_LI sl_RI sl_all_squares sl_squares_of sl_is_inside sl_fits sl_need sl_need_size sl_need_sizes sl_first_free sl_completed sl_canonical_filling sl_layer_for sl_ans sl_main : Array (Option Value)} {oc_LI kV_LI dc_LI pm_LI cd_LI ct_LI oc_RI kV_RI dc_RI pm_RI cd_RI ct_RI oc_all_squares kV_all_squares dc_all_squares pm_all_squares cd_all_squares ct_all_squares oc_squares_of kV_squares_of dc_squares_of pm_squares_of cd_squares_of ct_squares_of oc_is_inside kV_is_inside dc_is_inside pm_is_inside cd_is_inside ct_is_inside oc_fits kV_fits dc_fits pm_fits cd_fits ct_fits oc_need kV_need dc_need pm_need cd_need ct_need oc_need_size kV_need_size dc_need_size pm_need_size cd_need_size ct_need_size oc_need_sizes kV_need_sizes dc_need_sizes pm_need_sizes cd_need_sizes ct_need_sizes oc_first_free kV_first_free dc_first_free pm_first_free cd_first_free ct_first_free oc_completed kV_completed dc_completed pm_completed cd_completed ct_completed oc_canonical_filling kV_canonical_filling dc_canonical_filling pm_canonical_filling cd_canonical_filling ct_canonical_filling oc_layer_for kV_layer_for dc_layer_for pm_layer_for cd_layer_for ct_layer_for oc_ans kV_ans dc_ans pm_ans cd_ans ct_ans oc_main kV_main dc_main pm_main cd_main ct_main : Value}
    (aL : PySem.W.nsIn K mainGlobals "Layer" = some (some (.ref C)))
    (aR : PySem.W.nsIn K mainGlobals "Refused" = some (some (.ref CR)))
    (i_OUT_OF_RANGE : PySem.W.nsIn K mainGlobals "OUT_OF_RANGE" = some (some (.int (-22) t_OUT_OF_RANGE)))
    (i_MOST_SIZE : PySem.W.nsIn K mainGlobals "MOST_SIZE" = some (some (.int (6) t_MOST_SIZE)))
    (i_ALONG : PySem.W.nsIn K mainGlobals "ALONG" = some (some (.int (1) t_ALONG)))
    (i_ACROSS : PySem.W.nsIn K mainGlobals "ACROSS" = some (some (.int (0) t_ACROSS)))
    (b_range : PySem.W.nsIn K mainGlobals "range" = some none)
    (b_int : PySem.W.nsIn K mainGlobals "int" = some none)
    (a_LI : PySem.W.findIn K (.ref C) "__init__" = some (some (.ref f_LI)))
    (n_LI : PySem.W.isFn K (.ref f_LI) = true)
    (l_LI : K.lookup f_LI = some ⟨oc_LI, od_LI, .func (PySem.W.fnOf "__init__" "Layer.__init__" (defArgs sLI) (defBody sLI) (defScope sLI) .none kV_LI dc_LI pm_LI an_LI cd_LI ct_LI), sl_LI⟩)
    (c_LI : PySem.W.codeIn K cd_LI "Layer.__init__" = true)
    (k_LI : PySem.W.keepIn K (.ref f_LI) = true)
    (a_RI : PySem.W.findIn K (.ref CR) "__init__" = some (some (.ref f_RI)))
    (n_RI : PySem.W.typeIn K (.ref f_RI) = some (.type "function"))
    (l_RI : K.lookup f_RI = some ⟨oc_RI, od_RI, .func (PySem.W.fnOf "__init__" "Refused.__init__" (defArgs sRI) (defBody sRI) (defScope sRI) .none kV_RI dc_RI pm_RI an_RI cd_RI ct_RI), sl_RI⟩)
    (c_RI : PySem.W.codeIn K cd_RI "Refused.__init__" = true)
    (k_RI : PySem.W.keepIn K (.ref f_RI) = true)
    (a_all_squares : PySem.W.nsIn K mainGlobals "all_squares" = some (some (.ref f_all_squares)))
    (l_all_squares : K.lookup f_all_squares = some ⟨oc_all_squares, od_all_squares, .func (PySem.W.fnOf "all_squares" "all_squares" (defArgs sAS) (defBody sAS) (defScope sAS) .none kV_all_squares dc_all_squares pm_all_squares an_all_squares cd_all_squares ct_all_squares), sl_all_squares⟩)
    (c_all_squares : PySem.W.codeIn K cd_all_squares "all_squares" = true)
    (k_all_squares : PySem.W.keepIn K (.ref f_all_squares) = true)
    (a_squares_of : PySem.W.nsIn K mainGlobals "squares_of" = some (some (.ref f_squares_of)))
    (l_squares_of : K.lookup f_squares_of = some ⟨oc_squares_of, od_squares_of, .func (PySem.W.fnOf "squares_of" "squares_of" (defArgs sSO) (defBody sSO) (defScope sSO) .none kV_squares_of dc_squares_of pm_squares_of an_squares_of cd_squares_of ct_squares_of), sl_squares_of⟩)
    (c_squares_of : PySem.W.codeIn K cd_squares_of "squares_of" = true)
    (k_squares_of : PySem.W.keepIn K (.ref f_squares_of) = true)
    (a_is_inside : PySem.W.nsIn K mainGlobals "is_inside" = some (some (.ref f_is_inside)))
    (l_is_inside : K.lookup f_is_inside = some ⟨oc_is_inside, od_is_inside, .func (PySem.W.fnOf "is_inside" "is_inside" (defArgs sII) (defBody sII) (defScope sII) .none kV_is_inside dc_is_inside pm_is_inside an_is_inside cd_is_inside ct_is_inside), sl_is_inside⟩)
    (c_is_inside : PySem.W.codeIn K cd_is_inside "is_inside" = true)
    (k_is_inside : PySem.W.keepIn K (.ref f_is_inside) = true)
    (a_fits : PySem.W.nsIn K mainGlobals "fits" = some (some (.ref f_fits)))
    (l_fits : K.lookup f_fits = some ⟨oc_fits, od_fits, .func (PySem.W.fnOf "fits" "fits" (defArgs sFits) (defBody sFits) (defScope sFits) .none kV_fits dc_fits pm_fits an_fits cd_fits ct_fits), sl_fits⟩)
    (c_fits : PySem.W.codeIn K cd_fits "fits" = true)
    (k_fits : PySem.W.keepIn K (.ref f_fits) = true)
    (a_need : PySem.W.nsIn K mainGlobals "need" = some (some (.ref f_need)))
    (l_need : K.lookup f_need = some ⟨oc_need, od_need, .func (PySem.W.fnOf "need" "need" (defArgs sNeed) (defBody sNeed) (defScope sNeed) .none kV_need dc_need pm_need an_need cd_need ct_need), sl_need⟩)
    (c_need : PySem.W.codeIn K cd_need "need" = true)
    (k_need : PySem.W.keepIn K (.ref f_need) = true)
    (a_need_size : PySem.W.nsIn K mainGlobals "need_size" = some (some (.ref f_need_size)))
    (l_need_size : K.lookup f_need_size = some ⟨oc_need_size, od_need_size, .func (PySem.W.fnOf "need_size" "need_size" (defArgs sNS) (defBody sNS) (defScope sNS) .none kV_need_size dc_need_size pm_need_size an_need_size cd_need_size ct_need_size), sl_need_size⟩)
    (c_need_size : PySem.W.codeIn K cd_need_size "need_size" = true)
    (k_need_size : PySem.W.keepIn K (.ref f_need_size) = true)
    (a_need_sizes : PySem.W.nsIn K mainGlobals "need_sizes" = some (some (.ref f_need_sizes)))
    (l_need_sizes : K.lookup f_need_sizes = some ⟨oc_need_sizes, od_need_sizes, .func (PySem.W.fnOf "need_sizes" "need_sizes" (defArgs sN3) (defBody sN3) (defScope sN3) .none kV_need_sizes dc_need_sizes pm_need_sizes an_need_sizes cd_need_sizes ct_need_sizes), sl_need_sizes⟩)
    (c_need_sizes : PySem.W.codeIn K cd_need_sizes "need_sizes" = true)
    (k_need_sizes : PySem.W.keepIn K (.ref f_need_sizes) = true)
    (a_first_free : PySem.W.nsIn K mainGlobals "first_free" = some (some (.ref f_first_free)))
    (l_first_free : K.lookup f_first_free = some ⟨oc_first_free, od_first_free, .func (PySem.W.fnOf "first_free" "first_free" (defArgs sFF) (defBody sFF) (defScope sFF) .none kV_first_free dc_first_free pm_first_free an_first_free cd_first_free ct_first_free), sl_first_free⟩)
    (c_first_free : PySem.W.codeIn K cd_first_free "first_free" = true)
    (k_first_free : PySem.W.keepIn K (.ref f_first_free) = true)
    (a_completed : PySem.W.nsIn K mainGlobals "completed" = some (some (.ref f_completed)))
    (l_completed : K.lookup f_completed = some ⟨oc_completed, od_completed, .func (PySem.W.fnOf "completed" "completed" (defArgs sComp) (defBody sComp) (defScope sComp) .none kV_completed dc_completed pm_completed an_completed cd_completed ct_completed), sl_completed⟩)
    (c_completed : PySem.W.codeIn K cd_completed "completed" = true)
    (k_completed : PySem.W.keepIn K (.ref f_completed) = true)
    (a_canonical_filling : PySem.W.nsIn K mainGlobals "canonical_filling" = some (some (.ref f_canonical_filling)))
    (l_canonical_filling : K.lookup f_canonical_filling = some ⟨oc_canonical_filling, od_canonical_filling, .func (PySem.W.fnOf "canonical_filling" "canonical_filling" (defArgs sCF) (defBody sCF) (defScope sCF) .none kV_canonical_filling dc_canonical_filling pm_canonical_filling an_canonical_filling cd_canonical_filling ct_canonical_filling), sl_canonical_filling⟩)
    (c_canonical_filling : PySem.W.codeIn K cd_canonical_filling "canonical_filling" = true)
    (k_canonical_filling : PySem.W.keepIn K (.ref f_canonical_filling) = true)
    (a_layer_for : PySem.W.nsIn K mainGlobals "layer_for" = some (some (.ref f_layer_for)))
    (l_layer_for : K.lookup f_layer_for = some ⟨oc_layer_for, od_layer_for, .func (PySem.W.fnOf "layer_for" "layer_for" (defArgs sLay) (defBody sLay) (defScope sLay) .none kV_layer_for dc_layer_for pm_layer_for an_layer_for cd_layer_for ct_layer_for), sl_layer_for⟩)
    (c_layer_for : PySem.W.codeIn K cd_layer_for "layer_for" = true)
    (k_layer_for : PySem.W.keepIn K (.ref f_layer_for) = true)
    (a_ans : PySem.W.nsIn K mainGlobals "can_fill_answer" = some (some (.ref f_ans)))
    (l_ans : K.lookup f_ans = some ⟨oc_ans, od_ans, .func (PySem.W.fnOf "can_fill_answer" "can_fill_answer" (defArgs sAns) (defBody sAns) (defScope sAns) .none kV_ans dc_ans pm_ans an_ans cd_ans ct_ans), sl_ans⟩)
    (c_ans : PySem.W.codeIn K cd_ans "can_fill_answer" = true)
    (k_ans : PySem.W.keepIn K (.ref f_ans) = true)
    (a_main : PySem.W.nsIn K mainGlobals "can_fill" = some (some (.ref f_main)))
    (l_main : K.lookup f_main = some ⟨oc_main, od_main, .func (PySem.W.fnOf "can_fill" "can_fill" (defArgs sMain) (defBody sMain) (defScope sMain) .none kV_main dc_main pm_main an_main cd_main ct_main), sl_main⟩)
    (c_main : PySem.W.codeIn K cd_main "can_fill" = true)
    (k_main : PySem.W.keepIn K (.ref f_main) = true)
    (pg : PySem.W.plainGet K C Str.empty = true)
    (hd : PySem.W.hasDictIn K C = true)
    (po : PySem.W.plainOver K C = true)
    (sa : PySem.W.findIn K (.ref C) "__setattr__" = some (some (.builtin "object.__setattr__")))
    (mk : PySem.W.makesIn K C = true)
    (kc : PySem.W.keepIn K (.ref C) = true)
    (n_width : PySem.W.findIn K (.ref C) "width" = some none)
    (n_height : PySem.W.findIn K (.ref C) "height" = some none)
    (n_length : PySem.W.findIn K (.ref C) "length" = some none)
    (xR : K.lookup CR = some (excClassObj nm q CR N bs [.type "ValueError", .type "Exception", .type "BaseException", .type "object"] true sn sub ab col dd m0 m1 m2 m3 m5 "ValueError.__new__"))
    (saR : PySem.W.findIn K (.ref CR) "__setattr__" = some (some (.builtin "object.__setattr__")))
    (gaR : PySem.W.findIn K (.ref CR) "__getattribute__" = some (some (.builtin "BaseException.__getattribute__")))
    (ggR : PySem.W.findIn K (.ref CR) "__getattr__" = some none)
    (noR : PySem.W.findIn K (.ref CR) "number" = some none)
    (kR : PySem.W.keepIn K (.ref CR) = true)
    (eR : PySem.W.subIn K (.ref CR) (.type "BaseException") = some true)
    (tR : PySem.W.typeIn K (.ref CR) = some (.type "type"))
    (hR : PySem.W.hasDictIn K CR = true)
    (cR : PySem.W.isClsIn K CR = true)
    (sR : PySem.W.subIn K (.ref CR) (.ref CR) = some true) :
    ∃ fd : FuncData, (∀ (s : Shared) (us : List Value), us.length = (nN3 : List Str).length → BindsTo s fd ⟨us, []⟩ ((nN3 : List Str).zip us)) ∧ ∀ base : Heap, K.In base → base.Ns mainGlobals mg → FnOk P w K mg base CX0 46 fa fd nN3 (spM3 (due02)) := by
  have e := hfa.symm.trans (PySem.W.mg_of X G a_main)
  cases e
  have gL := PySem.W.mg_of X G aL
  have gOUT_OF_RANGE : ∃ t, mg "OUT_OF_RANGE" = some (.int (-22) t) := ⟨_, PySem.W.mg_of X G i_OUT_OF_RANGE⟩
  have gMOST_SIZE : ∃ t, mg "MOST_SIZE" = some (.int (6) t) := ⟨_, PySem.W.mg_of X G i_MOST_SIZE⟩
  have gALONG : ∃ t, mg "ALONG" = some (.int (1) t) := ⟨_, PySem.W.mg_of X G i_ALONG⟩
  have gACROSS : ∃ t, mg "ACROSS" = some (.int (0) t) := ⟨_, PySem.W.mg_of X G i_ACROSS⟩
  have zrange := PySem.W.mg_none_of X G b_range
  have zint := PySem.W.mg_none_of X G b_int
  have T : LayT K C := ⟨⟨pg, hd, po, sa⟩, n_width, n_height, n_length⟩
  have M : Mk K C f_LI := ⟨mk, a_LI, n_LI, kc⟩
  have R : RefT K mg CR f_RI := ⟨PySem.W.mg_of X G aR, ⟨⟨nm, q, N, bs, _, sn, sub, ab, col, dd, m0, m1, m2, m3, m5, xR, by decide +kernel⟩, saR, eR, tR, kR⟩, ⟨gaR, ggR, eR, hR⟩, noR, a_RI, n_RI, exm_self eR cR tR sR⟩
  have FLI := fun_mk (st := sLI) l_LI c_LI k_LI
  have FRI := fun_mk (st := sRI) l_RI c_RI k_RI
  have bI := FLI.binds (ps := nLI) fun _ _ _ _ _ _ us hl => match us, hl with | [_, _, _, _], _ => rfl
  have bR := FRI.binds (ps := nRI) fun _ _ _ _ _ _ us hl => match us, hl with | [_, _], _ => rfl
  have Fall_squares := fund_mk (st := sAS) (ps := ["layer"]) X G a_all_squares l_all_squares c_all_squares k_all_squares fun _ _ _ _ _ _ us hl => match us, hl with | [_], _ => rfl
  have Fsquares_of := fund_mk (st := sSO) (ps := ["layer", "bar"]) X G a_squares_of l_squares_of c_squares_of k_squares_of fun _ _ _ _ _ _ us hl => match us, hl with | [_, _], _ => rfl
  have Fis_inside := fund_mk (st := sII) (ps := ["layer", "square"]) X G a_is_inside l_is_inside c_is_inside k_is_inside fun _ _ _ _ _ _ us hl => match us, hl with | [_, _], _ => rfl
  have Ffits := fund_mk (st := sFits) (ps := ["layer", "covered", "bar"]) X G a_fits l_fits c_fits k_fits fun _ _ _ _ _ _ us hl => match us, hl with | [_, _, _], _ => rfl
  have Fneed := fund_mk (st := sNeed) (ps := nNeed) X G a_need l_need c_need k_need fun _ _ _ _ _ _ us hl => match us, hl with | [_, _], _ => rfl
  have Fneed_size := fund_mk (st := sNS) (ps := nNS) X G a_need_size l_need_size c_need_size k_need_size fun _ _ _ _ _ _ us hl => match us, hl with | [_], _ => rfl
  have Fneed_sizes := fund_mk (st := sN3) (ps := nN3) X G a_need_sizes l_need_sizes c_need_sizes k_need_sizes fun _ _ _ _ _ _ us hl => match us, hl with | [_, _, _], _ => rfl
  have Ffirst_free := fund_mk (st := sFF) (ps := ["layer", "covered"]) X G a_first_free l_first_free c_first_free k_first_free fun _ _ _ _ _ _ us hl => match us, hl with | [_, _], _ => rfl
  have Fcompleted := fund_mk (st := sComp) (ps := ["layer", "covered", "bars"]) X G a_completed l_completed c_completed k_completed fun _ _ _ _ _ _ us hl => match us, hl with | [_, _, _], _ => rfl
  have Fcanonical_filling := fund_mk (st := sCF) (ps := ["layer"]) X G a_canonical_filling l_canonical_filling c_canonical_filling k_canonical_filling fun _ _ _ _ _ _ us hl => match us, hl with | [_], _ => rfl
  have Flayer_for := fund_mk (st := sLay) (ps := nN3) X G a_layer_for l_layer_for c_layer_for k_layer_for fun _ _ _ _ _ _ us hl => match us, hl with | [_, _, _], _ => rfl
  have Fans := fund_mk (st := sAns) (ps := nN3) X G a_ans l_ans c_ans k_ans fun _ _ _ _ _ _ us hl => match us, hl with | [_, _, _], _ => rfl
  have FM := fun_mk (st := sMain) l_main c_main k_main
  refine ⟨PySem.W.fnOf "can_fill" "can_fill" (defArgs sMain) (defBody sMain) (defScope sMain) .none kV_main dc_main pm_main an_main cd_main ct_main, fun s us hu => match us, hu with | [_, _, _], _ => .of_eq rfl, fun base _ _ => ?_⟩
  have Dall_squares : Def P w K mg base CX0 1 "all_squares" ["layer"] (spAS C) := d_AS Fall_squares T zrange
  have Dsquares_of : Def P w K mg base CX0 1 "squares_of" ["layer", "bar"] (spSO C) := d_SO Fsquares_of T zrange
  have Dis_inside : Def P w K mg base CX0 1 "is_inside" ["layer", "square"] (spII C) := d_II Fis_inside T
  have Dfits : Def P w K mg base CX0 2 "fits" ["layer", "covered", "bar"] (spFits C) := d_Fits Ffits T Dsquares_of Dis_inside
  have Dneed : Def P w K mg base (L2.CX P w) 3 "need" nNeed (spNeed CR) := d_need Fneed R FRI bR
  have Dneed_size : Def P w K mg base (L2.CX P w) 4 "need_size" nNS (spNS CR) := d_NS Fneed_size gOUT_OF_RANGE gMOST_SIZE Dneed
  have Dneed_sizes : Def P w K mg base (L2.CX P w) 5 "need_sizes" nN3 (spN3 CR) := d_N3 Fneed_sizes Dneed_size
  have Dfirst_free : Def P w K mg base CX0 2 "first_free" ["layer", "covered"] (spFF C) := d_FF Ffirst_free T Dall_squares
  have Dcompleted : ∀ m : Nat, Def P w K mg base CX0 (m + 3) "completed" ["layer", "covered", "bars"] (spComp C m) := d_Comp Fcompleted T gALONG gACROSS Dfirst_free Dfits Dsquares_of
  have Dcanonical_filling : Def P w K mg base CX0 43 "canonical_filling" ["layer"] (spCF C) := d_CF Fcanonical_filling T Dcompleted
  have Dlayer_for : Def P w K mg base (L2.CX P w) 6 "layer_for" nN3 (spLay C CR) := d_Lay Flayer_for gL M T FLI bI Dneed_sizes
  exact d_M3 FM R (d_Ans Fans zint Dlayer_for Dcanonical_filling) rfl rfl
end LB
open PySem PySem.W PyProof.Rows
set_option maxRecDepth 100000 in
set_option maxHeartbeats 8000000 in
theorem PySem.Challenge.cw_layerbars_s02_can_fill_holds : PySem.Challenge.rw_layerbars_s02_can_fill.Holds := by
  w_on; k_headS; (case hw => exact ⟨[.int 1, .int 1, .int 1], by decide +kernel, by decide +kernel⟩)
  k_fillS
  refine L2.walk_specK (r := PySem.Challenge.rw_layerbars_s02_can_fill) (k := 46) (CX := L2.CX0) (ps := LB.nN3) (sp := fun _ => LB.spM3 LB.due02) (by decide +kernel) rfl rfl ⟨rfl, by decide, by decide⟩ (fun w h Y => PySem.W.kIn_of Y) ?F ?S (fun _ _ _ _ z => z)
  case F =>
    intro w mg fa h Y KX G hmg
    refine' LB.all_mk KX G hmg ?aL ?aR ?i_OUT_OF_RANGE ?i_MOST_SIZE ?i_ALONG ?i_ACROSS ?b_range ?b_int ?a_LI ?n_LI ?l_LI ?c_LI ?k_LI ?a_RI ?n_RI ?l_RI ?c_RI ?k_RI ?a_all_squares ?l_all_squares ?c_all_squares ?k_all_squares ?a_squares_of ?l_squares_of ?c_squares_of ?k_squares_of ?a_is_inside ?l_is_inside ?c_is_inside ?k_is_inside ?a_fits ?l_fits ?c_fits ?k_fits ?a_need ?l_need ?c_need ?k_need ?a_need_size ?l_need_size ?c_need_size ?k_need_size ?a_need_sizes ?l_need_sizes ?c_need_sizes ?k_need_sizes ?a_first_free ?l_first_free ?c_first_free ?k_first_free ?a_completed ?l_completed ?c_completed ?k_completed ?a_canonical_filling ?l_canonical_filling ?c_canonical_filling ?k_canonical_filling ?a_layer_for ?l_layer_for ?c_layer_for ?k_layer_for ?a_ans ?l_ans ?c_ans ?k_ans ?a_main ?l_main ?c_main ?k_main ?pg ?hd ?po ?sa ?mk ?kc ?n_width ?n_height ?n_length ?xR ?saR ?gaR ?ggR ?noR ?kR ?eR ?tR ?hR ?cR ?sR
    (case aL => k_is)
    (case aR => k_is)
    (case i_OUT_OF_RANGE => k_is)
    (case i_MOST_SIZE => k_is)
    (case i_ALONG => k_is)
    (case i_ACROSS => k_is)
    (case b_range => k_is)
    (case b_int => k_is)
    (case a_LI => k_is)
    (case n_LI => k_is)
    (case l_LI => k_is)
    (case c_LI => k_is)
    (case k_LI => k_is)
    (case a_RI => k_is)
    (case n_RI => k_is)
    (case l_RI => k_is)
    (case c_RI => k_is)
    (case k_RI => k_is)
    (case a_all_squares => k_is)
    (case l_all_squares => k_is)
    (case c_all_squares => k_is)
    (case k_all_squares => k_is)
    (case a_squares_of => k_is)
    (case l_squares_of => k_is)
    (case c_squares_of => k_is)
    (case k_squares_of => k_is)
    (case a_is_inside => k_is)
    (case l_is_inside => k_is)
    (case c_is_inside => k_is)
    (case k_is_inside => k_is)
    (case a_fits => k_is)
    (case l_fits => k_is)
    (case c_fits => k_is)
    (case k_fits => k_is)
    (case a_need => k_is)
    (case l_need => k_is)
    (case c_need => k_is)
    (case k_need => k_is)
    (case a_need_size => k_is)
    (case l_need_size => k_is)
    (case c_need_size => k_is)
    (case k_need_size => k_is)
    (case a_need_sizes => k_is)
    (case l_need_sizes => k_is)
    (case c_need_sizes => k_is)
    (case k_need_sizes => k_is)
    (case a_first_free => k_is)
    (case l_first_free => k_is)
    (case c_first_free => k_is)
    (case k_first_free => k_is)
    (case a_completed => k_is)
    (case l_completed => k_is)
    (case c_completed => k_is)
    (case k_completed => k_is)
    (case a_canonical_filling => k_is)
    (case l_canonical_filling => k_is)
    (case c_canonical_filling => k_is)
    (case k_canonical_filling => k_is)
    (case a_layer_for => k_is)
    (case l_layer_for => k_is)
    (case c_layer_for => k_is)
    (case k_layer_for => k_is)
    (case a_ans => k_is)
    (case l_ans => k_is)
    (case c_ans => k_is)
    (case k_ans => k_is)
    (case a_main => k_is)
    (case l_main => k_is)
    (case c_main => k_is)
    (case k_main => k_is)
    (case pg => k_is)
    (case hd => k_is)
    (case po => k_is)
    (case sa => k_is)
    (case mk => k_is)
    (case kc => k_is)
    (case n_width => k_is)
    (case n_height => k_is)
    (case n_length => k_is)
    (case xR => k_is)
    (case saR => k_is)
    (case gaR => k_is)
    (case ggR => k_is)
    (case noR => k_is)
    (case kR => k_is)
    (case eR => k_is)
    (case tR => k_is)
    (case hR => k_is)
    (case cR => k_is)
    (case sR => first | rfl | k_is)
  case S =>
    intro K H xs a hO hwi hask hx
    obtain ⟨x, y, z, u⟩ := a
    cases hx with
    | cons h1 h2 =>
      cases h2 with
      | cons h2 h3 =>
        cases h3 with
        | cons h3 h4 =>
          cases h4
          cases h1
          cases h2
          cases h3
          refine ⟨x, y, z, rfl, fun H' p hp => ?_⟩
          exact LB.told3 (LB.is02 x y z) hp
#print axioms PySem.Challenge.cw_layerbars_s02_can_fill_holds
