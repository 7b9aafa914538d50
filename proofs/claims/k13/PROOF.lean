import PyProof.Rows.All
import Wide.All
import OpenK.AllK
import Wide.FinOn
import HandS.ForMost
import HandS.Walk
import HandS.TupAny
import KE.GoesEnum
import KE.GoesNew
import KE.GoesEnumKw
import PyProof.Rows.CallKwBuiltin
import HandS.TupMul
import HandS.SortKw
import HandS.Wide
import KE.DataMinMax
import PyProof.SeqIndex
import HandS.Strs
import HandS.Codes
import HandS.Conv
import HandS.More
import HandS.IsInst
import HandS.NoneIn
import HandS.CallRecv
import PySem.Challenge.RW_countveil_k13_whole_mends_changed
set_option Elab.async false
set_option linter.all false
/-! The plain law: least changes over all rows, in plain lists. -/
namespace Cv
section
variable {α : Type} [DecidableEq α]

/-- does an entry of a rule hit an answer -/
def hits : Option (List α) → Option α → Bool
  | none, _ => true
  | some _, none => false
  | some ns, some c => decide (c ∈ ns)

def barsM : List (Option (List α)) → List (Option α) → Bool
  | r :: rs, c :: cs => hits r c && barsM rs cs
  | _, _ => true

def anyBar (R : List (List (Option (List α)))) (cs : List (Option α)) : Bool := R.any fun r => barsM r cs

/-- the costs at which two rows are unlike -/
def besideL : List Int → List (Option α) → List (Option α) → List Int
  | c :: C, x :: xs, y :: ys => if x = y then besideL C xs ys else c :: besideL C xs ys
  | _, _, _ => []
def besideM (C : List Int) (xs ys : List (Option α)) : Int := (besideL C xs ys).sum

/-- a row of one code of each sort -/
def RowR : List (List α) → List α → Prop
  | [], [] => True
  | cs :: P, c :: r => c ∈ cs ∧ RowR P r
  | _, _ => False

def grow (found : List (List α)) (codes : List α) : List (List α) := found.flatMap fun row => codes.map fun c => row ++ [c]
def fullM (P : List (List α)) : List (List α) := P.foldl grow [[]]

theorem mem_grow {S : List (List α)} {cs : List α} {row : List α} : row ∈ grow S cs ↔ ∃ pre ∈ S, ∃ c ∈ cs, row = pre ++ [c] := by
  unfold grow
  rw [List.mem_flatMap]
  constructor
  · rintro ⟨pre, h, h2⟩
    obtain ⟨c, hc, e⟩ := List.mem_map.mp h2
    exact ⟨pre, h, c, hc, e.symm⟩
  · rintro ⟨pre, h, c, hc, e⟩
    exact ⟨pre, h, List.mem_map.mpr ⟨c, hc, e.symm⟩⟩

theorem mem_fold : ∀ (P : List (List α)) (S : List (List α)) (row : List α), row ∈ P.foldl grow S ↔ ∃ pre ∈ S, ∃ suf, row = pre ++ suf ∧ RowR P suf
  | [], S, row => by
    constructor
    · intro h
      exact ⟨row, h, [], by simp, trivial⟩
    · rintro ⟨pre, h, suf, e, r⟩
      cases suf with
      | nil => rw [e]; simpa using h
      | cons c r' => exact r.elim
  | cs :: P, S, row => by
    rw [List.foldl_cons, mem_fold P (grow S cs) row]
    constructor
    · rintro ⟨pre, h, suf, e, r⟩
      obtain ⟨p0, h0, c, hc, e0⟩ := mem_grow.mp h
      refine ⟨p0, h0, c :: suf, ?_, hc, r⟩
      rw [e, e0]; simp
    · rintro ⟨pre, h, suf, e, r⟩
      cases suf with
      | nil => exact r.elim
      | cons c r' =>
        obtain ⟨hc, hr⟩ := r
        exact ⟨pre ++ [c], mem_grow.mpr ⟨pre, h, c, hc, rfl⟩, r', by rw [e]; simp, hr⟩

theorem mem_fullM {P : List (List α)} {row : List α} : row ∈ fullM P ↔ RowR P row := by
  unfold fullM
  rw [mem_fold]
  constructor
  · rintro ⟨pre, h, suf, e, r⟩
    have h' : pre = [] := by simpa using h
    rw [e, h']; exact r
  · intro h
    exact ⟨[], by simp, row, by simp, h⟩

theorem RowR.length : ∀ {P : List (List α)} {r : List α}, RowR P r → r.length = P.length
  | [], [], _ => rfl
  | [], _ :: _, h => h.elim
  | _ :: _, [], h => h.elim
  | _ :: _, _ :: _, h => by simp [RowR.length h.2]

/-! ### the search -/
def cheapStep (R : List (List (Option (List α)))) (C : List Int) (rec : List (Option α)) (found : Option (Int × List α)) (row : List α) : Option (Int × List α) :=
  if anyBar R (row.map some) = false ∧ (∀ f, found = some f → besideM C (row.map some) rec < f.1) then some (besideM C (row.map some) rec, row) else found
/-- the step, as the program tests it -/
theorem cheapStep_take {R : List (List (Option (List α)))} {C : List Int} {rec : List (Option α)} {found : Option (Int × List α)} {row : List α}
    (h1 : anyBar R (row.map some) = false) (h2 : ∀ f, found = some f → besideM C (row.map some) rec < f.1) : cheapStep R C rec found row = some (besideM C (row.map some) rec, row) := if_pos ⟨h1, h2⟩
theorem cheapStep_bar {R : List (List (Option (List α)))} {C : List Int} {rec : List (Option α)} {found : Option (Int × List α)} {row : List α}
    (h1 : anyBar R (row.map some) = true) : cheapStep R C rec found row = found := if_neg fun h => by rw [h1] at h; cases h.1
theorem cheapStep_dear {R : List (List (Option (List α)))} {C : List Int} {rec : List (Option α)} {f : Int × List α} {row : List α}
    (h1 : ¬ besideM C (row.map some) rec < f.1) : cheapStep R C rec (some f) row = some f := if_neg fun h => h1 (h.2 f rfl)
def cheapL (R : List (List (Option (List α)))) (C : List Int) (rec : List (Option α)) (rows : List (List α)) : Option (Int × List α) := rows.foldl (cheapStep R C rec) none
def cheapestM (P : List (List α)) (R : List (List (Option (List α)))) (C : List Int) (rec : List (Option α)) : Option (Int × List α) := cheapL R C rec (fullM P)

/-- o is a least one of the rows -/
structure IsLeast (R : List (List (Option (List α)))) (C : List Int) (rec : List (Option α)) (rows : List α → Prop) (o : Option (Int × List α)) : Prop where
  no : o = none → ∀ row, rows row → anyBar R (row.map some) = true
  yes : ∀ c row, o = some (c, row) → rows row ∧ anyBar R (row.map some) = false ∧ c = besideM C (row.map some) rec ∧ ∀ row', rows row' → anyBar R (row'.map some) = false → c ≤ besideM C (row'.map some) rec

theorem isLeast_step {R : List (List (Option (List α)))} {C : List Int} {rec : List (Option α)} {rows rows' : List α → Prop} {o : Option (Int × List α)} {r : List α}
    (h : IsLeast R C rec rows o) (e : ∀ x, rows' x ↔ rows x ∨ x = r) : IsLeast R C rec rows' (cheapStep R C rec o r) := by
  cases hb : anyBar R (r.map some) with
  | true =>
    rw [cheapStep_bar hb]
    refine ⟨fun q x hx => ?_, fun c x q => ?_⟩
    · rcases (e x).mp hx with hx | rfl
      · exact h.no q x hx
      · exact hb
    · obtain ⟨a, b, d, f⟩ := h.yes c x q
      refine ⟨(e x).mpr (.inl a), b, d, fun y hy hn => ?_⟩
      rcases (e y).mp hy with hy | rfl
      · exact f y hy hn
      · rw [hb] at hn; cases hn
  | false =>
    cases o with
    | none =>
      rw [cheapStep_take hb (fun f q => by cases q)]
      refine ⟨(fun q => nomatch q), fun c x q => ?_⟩
      injection q with q; injection q with q1 q2
      subst q1; subst q2
      refine ⟨(e _).mpr (.inr rfl), hb, rfl, fun y hy hn => ?_⟩
      rcases (e y).mp hy with hy | rfl
      · rw [h.no rfl y hy] at hn; cases hn
      · exact Int.le_refl _
    | some f =>
      by_cases hl : besideM C (r.map some) rec < f.1
      · rw [cheapStep_take hb (fun g q => by injection q with q; subst q; exact hl)]
        refine ⟨(fun q => nomatch q), fun c x q => ?_⟩
        injection q with q; injection q with q1 q2
        subst q1; subst q2
        refine ⟨(e _).mpr (.inr rfl), hb, rfl, fun y hy hn => ?_⟩
        rcases (e y).mp hy with hy | rfl
        · obtain ⟨c, x⟩ := f
          obtain ⟨_, _, _, k⟩ := h.yes c x rfl
          have k1 := k y hy hn
          have hl' : besideM C (r.map some) rec < c := hl
          omega
        · exact Int.le_refl _
      · rw [cheapStep_dear hl]
        refine ⟨(fun q => nomatch q), fun c x q => ?_⟩
        obtain ⟨a, b, d, k⟩ := h.yes c x q
        refine ⟨(e x).mpr (.inl a), b, d, fun y hy hn => ?_⟩
        rcases (e y).mp hy with hy | rfl
        · exact k y hy hn
        · injection q with q
          subst q
          have hl' : ¬ besideM C (y.map some) rec < c := hl
          omega

theorem isLeast_fold {R : List (List (Option (List α)))} {C : List Int} {rec : List (Option α)} : ∀ (L : List (List α)) (rows : List α → Prop) (o : Option (Int × List α)),
    IsLeast R C rec rows o → IsLeast R C rec (fun x => rows x ∨ x ∈ L) (L.foldl (cheapStep R C rec) o)
  | [], rows, o, h => by
    refine ⟨fun q x hx => ?_, fun c x q => ?_⟩
    · rcases hx with hx | hx
      · exact h.no q x hx
      · cases hx
    · obtain ⟨a, b, d, k⟩ := h.yes c x q
      refine ⟨.inl a, b, d, fun y hy hn => ?_⟩
      rcases hy with hy | hy
      · exact k y hy hn
      · cases hy
  | r :: L, rows, o, h => by
    have s := isLeast_fold L (fun x => rows x ∨ x = r) _ (isLeast_step h (fun _ => Iff.rfl))
    have e : (fun x => (rows x ∨ x = r) ∨ x ∈ L) = (fun x => rows x ∨ x ∈ r :: L) := by
      funext x
      rw [List.mem_cons, or_assoc]
    rw [e] at s
    exact s

theorem cheapest_least (P : List (List α)) (R : List (List (Option (List α)))) (C : List Int) (rec : List (Option α)) : IsLeast R C rec (RowR P) (cheapestM P R C rec) := by
  have h0 : IsLeast R C rec (fun _ : List α => False) none := ⟨fun _ _ q => q.elim, fun c x q => nomatch q⟩
  have s := isLeast_fold (fullM P) _ none h0
  have e : (fun x => False ∨ x ∈ fullM P) = RowR P := by
    funext x
    rw [false_or, mem_fullM]
  rw [e] at s
  exact s

def costM (P : List (List α)) (R : List (List (Option (List α)))) (C : List Int) (rec : List (Option α)) : Option Int := (cheapestM P R C rec).map (·.1)

theorem costM_none {P : List (List α)} {R : List (List (Option (List α)))} {C : List Int} {rec : List (Option α)} : costM P R C rec = none ↔ ∀ row, RowR P row → anyBar R (row.map some) = true := by
  have L := cheapest_least P R C rec
  unfold costM
  constructor
  · intro h
    exact L.no (by simpa using h)
  · intro h
    cases q : cheapestM P R C rec with
    | none => rfl
    | some f =>
      obtain ⟨c, x⟩ := f
      obtain ⟨a, b, _⟩ := L.yes c x q
      rw [h x a] at b; cases b
theorem costM_some {P : List (List α)} {R : List (List (Option (List α)))} {C : List Int} {rec : List (Option α)} {c : Int} (h : costM P R C rec = some c) :
    (∃ row, RowR P row ∧ anyBar R (row.map some) = false ∧ besideM C (row.map some) rec = c) ∧ ∀ row, RowR P row → anyBar R (row.map some) = false → c ≤ besideM C (row.map some) rec := by
  have L := cheapest_least P R C rec
  unfold costM at h
  cases q : cheapestM P R C rec with
  | none => rw [q] at h; cases h
  | some f =>
    rw [q] at h
    obtain ⟨c', x⟩ := f
    have e : c' = c := Option.some.inj h
    subst e
    obtain ⟨a, b, d, k⟩ := L.yes c' x q
    exact ⟨⟨x, a, b, d.symm⟩, k⟩
/-- two searches, one's rows taken to the other's -/
theorem costM_le {P P' : List (List α)} {R R' : List (List (Option (List α)))} {C C' : List Int} {rec rec' : List (Option α)} {c : Int} (g : Int → Int)
    (h : costM P R C rec = some c)
    (k : ∀ row, RowR P row → anyBar R (row.map some) = false → besideM C (row.map some) rec = c → ∃ row', RowR P' row' ∧ anyBar R' (row'.map some) = false ∧ besideM C' (row'.map some) rec' ≤ g c) :
    ∃ c', costM P' R' C' rec' = some c' ∧ c' ≤ g c := by
  obtain ⟨⟨row, a, b, d⟩, _⟩ := costM_some h
  obtain ⟨row', a', b', d'⟩ := k row a b d
  cases q : costM P' R' C' rec' with
  | none =>
    rw [costM_none.mp q row' a'] at b'; cases b'
  | some c' =>
    exact ⟨c', rfl, Int.le_trans ((costM_some q).2 row' a' b') d'⟩

/-! ### sums -/
theorem besideL_nonneg : ∀ {C : List Int} {xs ys : List (Option α)}, (∀ c ∈ C, 0 ≤ c) → 0 ≤ besideM C xs ys
  | [], _, _, _ => by unfold besideM besideL; simp
  | _ :: _, [], _, _ => by unfold besideM besideL; simp
  | _ :: _, _ :: _, [], _ => by unfold besideM besideL; simp
  | c :: C, x :: xs, y :: ys, h => by
    have ih : 0 ≤ besideM C xs ys := besideL_nonneg fun c hc => h c (List.mem_cons_of_mem _ hc)
    have hc := h c List.mem_cons_self
    unfold besideM at ih ⊢
    unfold besideL
    split
    · exact ih
    · rw [List.sum_cons]; omega
theorem besideM_cons {c : Int} {C : List Int} {x y : Option α} {xs ys : List (Option α)} : besideM (c :: C) (x :: xs) (y :: ys) = (if x = y then 0 else c) + besideM C xs ys := by
  unfold besideM
  rw [besideL]
  split
  · simp
  · rw [List.sum_cons]
theorem besideM_self : ∀ (C : List Int) (xs : List (Option α)), besideM C xs xs = 0
  | [], _ => by unfold besideM besideL; simp
  | _ :: _, [] => by unfold besideM besideL; simp
  | c :: C, x :: xs => by rw [besideM_cons, if_pos rfl, besideM_self C xs]; rfl
theorem besideM_zero : ∀ {C : List Int} {xs ys : List (Option α)}, (∀ c ∈ C, 1 ≤ c) → xs.length = C.length → ys.length = C.length → besideM C xs ys = 0 → xs = ys
  | [], [], [], _, _, _, _ => rfl
  | [], _ :: _, _, _, h, _, _ => by simp at h
  | [], _, _ :: _, _, _, h, _ => by simp at h
  | _ :: _, [], _, _, h, _, _ => by simp at h
  | _ :: _, _, [], _, _, h, _ => by simp at h
  | c :: C, x :: xs, y :: ys, hc, hx, hy, h => by
    rw [besideM_cons] at h
    have hn : 0 ≤ besideM C xs ys := besideL_nonneg fun d hd => by have := hc d (List.mem_cons_of_mem _ hd); omega
    have h1 := hc c List.mem_cons_self
    by_cases e : x = y
    · rw [if_pos e] at h
      have := besideM_zero (C := C) (xs := xs) (ys := ys) (fun d hd => hc d (List.mem_cons_of_mem _ hd)) (by simpa using hx) (by simpa using hy) (by omega)
      rw [e, this]
    · rw [if_neg e] at h; omega
theorem besideM_tri : ∀ {C : List Int} {xs ys zs : List (Option α)}, (∀ c ∈ C, 0 ≤ c) → ys.length = C.length → besideM C xs zs ≤ besideM C xs ys + besideM C zs ys
  | [], _, _, _, _, _ => by unfold besideM besideL; simp
  | _ :: _, _, [], _, _, h => by simp at h
  | c :: C, [], y :: ys, zs, h, _ => by
    have e : besideM (c :: C) ([] : List (Option α)) zs = 0 := by unfold besideM besideL; simp
    have := besideL_nonneg (xs := zs) (ys := y :: ys) h
    have := besideL_nonneg (xs := []) (ys := y :: ys) h
    omega
  | c :: C, x :: xs, y :: ys, [], h, _ => by
    have e : besideM (c :: C) (x :: xs) ([] : List (Option α)) = 0 := by unfold besideM besideL; simp
    have := besideL_nonneg (xs := []) (ys := y :: ys) h
    have := besideL_nonneg (xs := x :: xs) (ys := y :: ys) h
    omega
  | c :: C, x :: xs, y :: ys, z :: zs, h, hl => by
    have ih := besideM_tri (C := C) (xs := xs) (ys := ys) (zs := zs) (fun d hd => h d (List.mem_cons_of_mem _ hd)) (by simpa using hl)
    have hc := h c List.mem_cons_self
    rw [besideM_cons, besideM_cons, besideM_cons]
    by_cases e1 : x = z
    · subst e1
      rw [if_pos rfl]
      split <;> omega
    · rw [if_neg e1]
      by_cases e2 : x = y
      · subst e2
        rw [if_pos rfl, if_neg (Ne.symm e1)]; omega
      · rw [if_neg e2]
        split <;> omega
theorem besideM_scale (k : Int) : ∀ (C : List Int) (xs ys : List (Option α)), besideM (C.map (k * ·)) xs ys = k * besideM C xs ys
  | [], _, _ => by unfold besideM besideL; simp
  | _ :: _, [], _ => by unfold besideM besideL; simp
  | _ :: _, _ :: _, [] => by unfold besideM besideL; simp
  | c :: C, x :: xs, y :: ys => by
    rw [List.map_cons, besideM_cons, besideM_cons, besideM_scale k C xs ys, Int.mul_add]
    split <;> simp
theorem besideM_cap (m k : Int) : ∀ (C : List Int) (xs ys : List (Option α)), besideM (C.map fun c => min m (k * c)) xs ys ≤ k * besideM C xs ys
  | [], _, _ => by unfold besideM besideL; simp
  | _ :: _, [], _ => by unfold besideM besideL; simp
  | _ :: _, _ :: _, [] => by unfold besideM besideL; simp
  | c :: C, x :: xs, y :: ys => by
    rw [List.map_cons, besideM_cons, besideM_cons, Int.mul_add]
    have ih := besideM_cap m k C xs ys
    split
    · simpa using ih
    · have := Int.min_le_right m (k * c)
      omega

/-! ### the law's parts -/
variable {P : List (List α)} {R : List (List (Option (List α)))} {C : List Int} {rec : List (Option α)}
theorem anyBar_append {R' : List (List (Option (List α)))} {cs : List (Option α)} : anyBar (R ++ R') cs = (anyBar R cs || anyBar R' cs) := by unfold anyBar; rw [List.any_append]
theorem longer_none {r : List (Option (List α))} (h : costM P R C rec = none) : costM P (R ++ [r]) C rec = none := by
  rw [costM_none] at h ⊢
  intro row hr
  rw [anyBar_append, h row hr, Bool.true_or]
theorem longer_le {r : List (Option (List α))} {c c' : Int} (h : costM P R C rec = some c) (h' : costM P (R ++ [r]) C rec = some c') : c ≤ c' := by
  obtain ⟨⟨row, a, b, d⟩, _⟩ := costM_some h'
  rw [anyBar_append, Bool.or_eq_false_iff] at b
  rw [← d]
  exact (costM_some h).2 row a b.1
theorem capped {c : Int} (h : costM P R C rec = some c) : ∃ c', costM P R (C.map fun x => min 1000 (7 * x)) rec = some c' ∧ c' ≤ 7 * c :=
  costM_le (fun c => 7 * c) h fun row a b d => ⟨row, a, b, by rw [← d]; exact besideM_cap 1000 7 C _ _⟩
theorem scaled : costM P R (C.map (7 * ·)) rec = (costM P R C rec).map (7 * ·) := by
  cases h : costM P R C rec with
  | none =>
    rw [costM_none] at h
    exact costM_none.mpr h
  | some c =>
    obtain ⟨⟨row, a, b, d⟩, k⟩ := costM_some h
    obtain ⟨c', e, l⟩ := costM_le (C' := C.map (7 * ·)) (P' := P) (R' := R) (rec' := rec) (fun c => 7 * c) h fun row a b d => ⟨row, a, b, by rw [← d, besideM_scale]; exact Int.le_refl _⟩
    obtain ⟨⟨row', a', b', d'⟩, _⟩ := costM_some e
    have := k row' a' b'
    rw [besideM_scale] at d'
    rw [e]
    show some c' = some (7 * c)
    congr 1
    have l' : c' ≤ 7 * c := l
    omega
theorem nearer {near : List (Option α)} {c : Int} (hC : ∀ x ∈ C, 0 ≤ x) (hl : rec.length = C.length) (h : costM P R C rec = some c) : ∃ c', costM P R C near = some c' ∧ c' ≤ c + besideM C near rec :=
  costM_le (fun c => c + besideM C near rec) h fun row a b d => ⟨row, a, b, by rw [← d]; exact besideM_tri hC hl⟩
/-- a mended record's own mend -/
theorem mended {c : Int} {row : List α} (hC : ∀ x ∈ C, 1 ≤ x) (hP : P.length = C.length) (h : cheapestM P R C rec = some (c, row)) : cheapestM P R C (row.map some) = some (0, row) := by
  obtain ⟨a, b, d, k⟩ := (cheapest_least P R C rec).yes c row h
  have L := cheapest_least P R C (row.map some)
  cases q : cheapestM P R C (row.map some) with
  | none => rw [L.no q row a] at b; cases b
  | some f =>
    obtain ⟨c', x⟩ := f
    obtain ⟨a', b', d', k'⟩ := L.yes c' x q
    have h1 := k' row a b
    rw [besideM_self] at h1
    have h2 : 0 ≤ besideM C (x.map some) (row.map some) := besideL_nonneg fun z hz => by have := hC z hz; omega
    have h3 : c' = 0 := by omega
    have h4 := besideM_zero hC (by rw [List.length_map, a'.length, hP]) (by rw [List.length_map, a.length, hP]) (d'.symm.trans h3)
    have h5 : x = row := by
      have := congrArg (List.filterMap id) h4
      simpa using this
    rw [h3, h5]
end

/-! ### sorts, codes, rules in another order -/
section
variable {α : Type} [DecidableEq α]
def turnL {β : Type} (d : β) (ord : List Nat) (l : List β) : List β := ord.map fun s => l.getD s d

theorem barsM_map (f : Nat → Option (List α)) (g : Nat → Option α) : ∀ ord : List Nat, barsM (ord.map f) (ord.map g) = ord.all fun s => hits (f s) (g s)
  | [] => rfl
  | s :: o => by rw [List.map_cons, List.map_cons, barsM, barsM_map f g o, List.all_cons]
theorem besideM_map (f : Nat → Int) (g h : Nat → Option α) : ∀ ord : List Nat, besideM (ord.map f) (ord.map g) (ord.map h) = (ord.map fun s => if g s = h s then 0 else f s).sum
  | [] => by unfold besideM besideL; simp
  | s :: o => by rw [List.map_cons, List.map_cons, List.map_cons, besideM_cons, besideM_map f g h o, List.map_cons, List.sum_cons]
theorem as_map {β : Type} (d : β) (l : List β) {n : Nat} (h : l.length = n) : l = (List.range n).map fun s => l.getD s d := by
  apply List.ext_getElem
  · simp [h]
  · intro i h1 h2
    simp [h1]
theorem perm_sum : ∀ {a b : List Int}, a.Perm b → a.sum = b.sum := fun h => by
  induction h with
  | nil => rfl
  | cons x _ ih => rw [List.sum_cons, List.sum_cons, ih]
  | swap x y l => rw [List.sum_cons, List.sum_cons, List.sum_cons, List.sum_cons]; omega
  | trans _ _ h1 h2 => rw [h1, h2]
theorem perm_all {β : Type} {a b : List β} (f : β → Bool) (h : a.Perm b) : a.all f = b.all f := by
  rw [Bool.eq_iff_iff, List.all_eq_true, List.all_eq_true]
  exact ⟨fun k x hx => k x (h.mem_iff.mpr hx), fun k x hx => k x (h.mem_iff.mp hx)⟩

variable {ord : List Nat} {n : Nat}
theorem barsM_turn (ho : ord.Perm (List.range n)) {r : List (Option (List α))} {cs : List (Option α)} (hr : r.length = n) (hc : cs.length = n) : barsM (turnL none ord r) (turnL none ord cs) = barsM r cs := by
  unfold turnL
  rw [barsM_map, perm_all _ ho, ← barsM_map, ← as_map none r hr, ← as_map none cs hc]
theorem besideM_turn (ho : ord.Perm (List.range n)) {C : List Int} {xs ys : List (Option α)} (h1 : C.length = n) (h2 : xs.length = n) (h3 : ys.length = n) :
    besideM (turnL 0 ord C) (turnL none ord xs) (turnL none ord ys) = besideM C xs ys := by
  unfold turnL
  rw [besideM_map, perm_sum (ho.map _), ← besideM_map, ← as_map 0 C h1, ← as_map none xs h2, ← as_map none ys h3]

theorem rowR_iff : ∀ {P : List (List α)} {row : List α}, RowR P row ↔ row.length = P.length ∧ ∀ (i : Nat) (cs : List α), P[i]? = some cs → ∃ c, row[i]? = some c ∧ c ∈ cs
  | [], [] => by simp [RowR]
  | [], _ :: _ => by simp [RowR]
  | _ :: _, [] => by simp [RowR]
  | cs :: P, c :: r => by
    rw [RowR, rowR_iff (P := P) (row := r)]
    constructor
    · rintro ⟨h, hl, k⟩
      refine ⟨by simp [hl], fun i ds hi => ?_⟩
      cases i with
      | zero =>
        have e : cs = ds := by simpa using hi
        subst e
        exact ⟨c, rfl, h⟩
      | succ i => exact k i ds (by simpa using hi)
    · rintro ⟨hl, k⟩
      refine ⟨?_, by simpa using hl, fun i ds hi => k (i + 1) ds (by simpa using hi)⟩
      obtain ⟨x, e, hx⟩ := k 0 cs rfl
      have e' : c = x := by simpa using e
      rw [e']; exact hx

/-- P' is P, its sorts by ord, each with its codes turned about -/
structure TurnP (ord : List Nat) (P P' : List (List α)) : Prop where
  len : P'.length = ord.length
  each : ∀ (j s : Nat), ord[j]? = some s → ∃ cs cs', P[s]? = some cs ∧ P'[j]? = some cs' ∧ cs'.Perm cs

theorem ord_get (ho : ord.Perm (List.range n)) {j s : Nat} (h : ord[j]? = some s) : s < n := by
  have hm : s ∈ ord := List.mem_of_getElem? h
  exact List.mem_range.mp (ho.mem_iff.mp hm)
theorem ord_len (ho : ord.Perm (List.range n)) : ord.length = n := by rw [ho.length_eq, List.length_range]
theorem ord_nodup (ho : ord.Perm (List.range n)) : ord.Nodup := ho.nodup_iff.mpr List.nodup_range
theorem turn_get {β : Type} {d : β} {l : List β} {j s : Nat} {x : β} (h : ord[j]? = some s) (hx : l[s]? = some x) : (turnL d ord l)[j]? = some x := by
  unfold turnL
  rw [List.getElem?_map, h]
  simp [List.getD_eq_getElem?_getD, hx]

theorem row_turn (ho : ord.Perm (List.range n)) {P P' : List (List α)} (T : TurnP ord P P') (hP : P.length = n) (d : α) {row : List α} (h : RowR P row) : RowR P' (turnL d ord row) := by
  rw [rowR_iff] at h ⊢
  obtain ⟨hl, k⟩ := h
  refine ⟨by unfold turnL; rw [List.length_map, T.len], fun j cs' hj => ?_⟩
  have hjl : j < ord.length := by rw [← T.len]; exact (List.getElem?_eq_some_iff.mp hj).1
  have hs : ord[j]? = some ord[j] := List.getElem?_eq_getElem hjl
  obtain ⟨cs, cs2, e1, e2, pm⟩ := T.each j _ hs
  rw [hj] at e2
  injection e2 with e2
  subst e2
  obtain ⟨c, ec, hc⟩ := k _ cs e1
  exact ⟨c, turn_get hs ec, pm.mem_iff.mpr hc⟩
theorem row_back (ho : ord.Perm (List.range n)) {P P' : List (List α)} (T : TurnP ord P P') (hP : P.length = n) (d : α) {row' : List α} (h : RowR P' row') : ∃ row, RowR P row ∧ turnL d ord row = row' := by
  rw [rowR_iff] at h
  obtain ⟨hl, k⟩ := h
  have hlo := ord_len ho
  have hnd := ord_nodup ho
  have hl' : row'.length = ord.length := hl.trans T.len
  refine ⟨(List.range n).map fun s => row'.getD (ord.idxOf s) d, ?_, ?_⟩
  · rw [rowR_iff]
    refine ⟨by simp [hP], fun s cs hs => ?_⟩
    have hsn : s < n := by rw [← hP]; exact (List.getElem?_eq_some_iff.mp hs).1
    have hm : s ∈ ord := ho.mem_iff.mpr (List.mem_range.mpr hsn)
    have hlt : ord.idxOf s < ord.length := List.idxOf_lt_length_of_mem hm
    have hg : ord[ord.idxOf s]? = some s := by rw [List.getElem?_eq_getElem hlt, List.getElem_idxOf]
    obtain ⟨cs1, cs', e1, e2, pm⟩ := T.each _ _ hg
    rw [hs] at e1
    injection e1 with e1
    subst e1
    obtain ⟨c, ec, hc⟩ := k _ cs' e2
    refine ⟨c, ?_, pm.mem_iff.mp hc⟩
    rw [List.getElem?_map, List.getElem?_range hsn]
    simp [List.getD_eq_getElem?_getD, ec]
  · apply List.ext_getElem?
    intro j
    by_cases hj : j < ord.length
    · have hs : ord[j]? = some ord[j] := List.getElem?_eq_getElem hj
      have hsn : ord[j] < n := ord_get ho hs
      have hid : ord.idxOf ord[j] = j := List.Nodup.idxOf_getElem hnd j hj
      have hr : row'[j]? = some row'[j] := List.getElem?_eq_getElem (by rw [hl']; exact hj)
      rw [hr]
      refine turn_get hs ?_
      rw [List.getElem?_map, List.getElem?_range hsn]
      simp [hid, List.getD_eq_getElem?_getD, hr]
    · rw [List.getElem?_eq_none (l := row') (by rw [hl']; omega), List.getElem?_eq_none (by unfold turnL; rw [List.length_map]; omega)]

theorem turn_some (ho : ord.Perm (List.range n)) (d : α) {row : List α} (hl : row.length = n) : (turnL d ord row).map some = turnL none ord (row.map some) := by
  apply List.ext_getElem?
  intro j
  rw [List.getElem?_map]
  by_cases hj : j < ord.length
  · have hs : ord[j]? = some ord[j] := List.getElem?_eq_getElem hj
    have hsn : ord[j] < row.length := by rw [hl]; exact ord_get ho hs
    have hr : row[ord[j]]? = some row[ord[j]] := List.getElem?_eq_getElem hsn
    rw [turn_get hs hr, turn_get hs (x := some row[ord[j]]) (by rw [List.getElem?_map, hr]; rfl)]
    rfl
  · rw [List.getElem?_eq_none (by unfold turnL; rw [List.length_map]; omega), List.getElem?_eq_none (by unfold turnL; rw [List.length_map]; omega)]
    rfl

theorem anyBar_turn (ho : ord.Perm (List.range n)) {R R' : List (List (Option (List α)))} {cs : List (Option α)} (hR : ∀ r ∈ R, r.length = n) (hc : cs.length = n)
    (hR' : ∀ r', r' ∈ R' ↔ ∃ r ∈ R, r' = turnL none ord r) : anyBar R' (turnL none ord cs) = anyBar R cs := by
  unfold anyBar
  rw [Bool.eq_iff_iff, List.any_eq_true, List.any_eq_true]
  constructor
  · rintro ⟨r', hm, hb⟩
    obtain ⟨r, hr, rfl⟩ := (hR' r').mp hm
    exact ⟨r, hr, by rw [← barsM_turn ho (hR r hr) hc]; exact hb⟩
  · rintro ⟨r, hm, hb⟩
    exact ⟨turnL none ord r, (hR' _).mpr ⟨r, hm, rfl⟩, by rw [barsM_turn ho (hR r hm) hc]; exact hb⟩

theorem costM_eq {P P' : List (List α)} {R R' : List (List (Option (List α)))} {C C' : List Int} {rec rec' : List (Option α)}
    (h1 : ∀ row, RowR P row → ∃ row', RowR P' row' ∧ anyBar R' (row'.map some) = anyBar R (row.map some) ∧ besideM C' (row'.map some) rec' = besideM C (row.map some) rec)
    (h2 : ∀ row', RowR P' row' → ∃ row, RowR P row ∧ anyBar R' (row'.map some) = anyBar R (row.map some) ∧ besideM C' (row'.map some) rec' = besideM C (row.map some) rec) :
    costM P' R' C' rec' = costM P R C rec := by
  cases q : costM P R C rec with
  | none =>
    rw [costM_none] at q ⊢
    intro row' hr'
    obtain ⟨row, a, b, _⟩ := h2 row' hr'
    rw [b]; exact q row a
  | some c =>
    obtain ⟨⟨row, a, b, d⟩, k⟩ := costM_some q
    obtain ⟨row', a', b', d'⟩ := h1 row a
    cases q' : costM P' R' C' rec' with
    | none =>
      rw [costM_none.mp q' row' a', b] at b'
      cases b'
    | some c' =>
      obtain ⟨⟨x', xa', xb', xd'⟩, k'⟩ := costM_some q'
      obtain ⟨x, xa, xb, xd⟩ := h2 x' xa'
      have e1 := k' row' a' (b'.trans b)
      have e2 := k x xa (xb.symm.trans xb')
      have e3 : c' = c := by omega
      rw [e3]

/-- the least cost stays when sorts, codes, rules stand in another order -/
theorem costM_turned (ho : ord.Perm (List.range n)) {P P' : List (List α)} {R R' : List (List (Option (List α)))} {C : List Int} {rec : List (Option α)} (d : α)
    (T : TurnP ord P P') (hP : P.length = n) (hC : C.length = n) (hrec : rec.length = n) (hR : ∀ r ∈ R, r.length = n) (hR' : ∀ r', r' ∈ R' ↔ ∃ r ∈ R, r' = turnL none ord r) :
    costM P' R' (turnL 0 ord C) (turnL none ord rec) = costM P R C rec := by
  have key : ∀ row, RowR P row → anyBar R' ((turnL d ord row).map some) = anyBar R (row.map some) ∧ besideM (turnL 0 ord C) ((turnL d ord row).map some) (turnL none ord rec) = besideM C (row.map some) rec := fun row hr => by
    have hl : row.length = n := hr.length.trans hP
    have hl2 : (row.map some).length = n := by rw [List.length_map, hl]
    rw [turn_some ho d hl]
    exact ⟨anyBar_turn ho hR hl2 hR', besideM_turn ho hC hl2 hrec⟩
  refine costM_eq (fun row hr => ⟨_, row_turn ho T hP d hr, key row hr⟩) fun row' hr' => ?_
  obtain ⟨row, hr, rfl⟩ := row_back ho T hP d hr'
  exact ⟨row, hr, key row hr⟩
end
end Cv

set_option maxRecDepth 100000
set_option maxHeartbeats 4000000
/-! Iterators over tuples that stand still, each turn a new tuple: enumerate(t), zip(t, u, v). -/
namespace Cv
open PySem PySem.Spec PyProof.Rows L2

/-- n turns while G stands; turn i hands out a new tuple of vv i -/
def ItN (n : Nat) (G : Hp → Prop) (vv : Nat → List V) : It :=
  ⟨fun i H => i < n ∧ G H, fun i H v H' => ∃ T, v = .ref T ∧ H T = none ∧ H' = upd H T (.tup (vv i)), fun i H => i = n ∧ G H⟩

theorem walk_itN {n : Nat} {G : Hp → Prop} {vv : Nat → List V} :
    Walk (ItN n G vv) n G (fun i H v H' => ∃ T, v = .ref T ∧ H T = none ∧ H' = upd H T (.tup (vv i))) :=
  ⟨fun _ _ hi g => ⟨hi, g⟩, fun _ g => ⟨rfl, g⟩, fun _ _ _ _ _ _ y => y⟩

theorem turn_of {Par : Type} {P : Program} {w : World} {K : PySem.W.Frag} {tg : Expr} {I : Addr} {fp wr : List Addr} {n : Nat} {G : Hp → Prop} {vv : Nat → List V}
    {tn : Nat → Heap → Prop} {fq : Par → List Addr} {St : Par → Nat → Heap → Prop} {Pt : Par → Nat → Array Value → Prop} (mem : I ∈ fp) (hw : ∀ b ∈ wr, b ∈ fp)
    (obj : ∀ i h, tn i h → ∀ b ∈ fp, ∃ o, h.get? b = some o ∧ ∀ v, o.data ≠ .cell v)
    (keep : ∀ i h h', tn i h → (∀ b ∈ fp, ∀ o, h.get? b = some o → h'.get? b = some o) → tn i h')
    (goes : ∀ (A : Around) (p : Par), A.handled = none → GoesN P w A tg I (fq p) wr n (fun i h₀ v h => ∃ T vals, v = .ref T ∧ h₀.objs.size ≤ T ∧ Pt p i vals ∧ h.IsTuple T vals) (St p))
    (to : ∀ (X : Cx), X.prog = P → X.w = w → X.K = K → ∀ (i : Nat) (pins : List (Addr × Obj)) (s : Shared) (σ : L2.St) (H : Hp), Inv X pins σ H s → G H → tn i s.heap → i ≤ n →
      ∃ p, St p i s.heap ∧ ∀ vals, i < n → Pt p i vals → Vals (vv i) vals.toList)
    (back : ∀ p i h, St p i h → tn i h) (hl : ∀ i, (vv i).length ≤ sizeLine)
    (self : ∀ (A : Around) (i : Nat) (s : Shared) (Q : Value → Shared → Prop) (E : Value → Shared → Prop), tn i s.heap → Q (.ref I) s → wpAny (model P w) A (pyIter (.ref I)) Q E s) :
    Turn P w K tg (ItN n G vv) fp I tn where
  mem := mem
  obj := obj
  keep := keep
  item := by
    intro X hP hW hK hc i pins s σ H E Iv hf st hg
    subst hP hW hK
    obtain ⟨hi, hG⟩ := hg
    obtain ⟨p, sp, hv⟩ := to X rfl rfl rfl i pins s σ H Iv hG st (Nat.le_of_lt hi)
    refine (goes X.A p (Iv.ok.hd hc)).goes i s (fun u s2 => ∃ x H', Inv X pins σ H' s2 ∧ RelV x u ∧ (ItN n G vv).yld i H x H' ∧ tn (i + 1) s2.heap ∧ ∀ b ∈ fp, H' b = none) E hi sp fun v h' tk hY st' hk htk => ?_
    obtain ⟨T, vals, rfl, hT, hPt, hTup⟩ := hY
    have kept : ∀ b o, b ∉ fp → s.heap.get? b = some o → h'.get? b = some o := fun b o hb e => hk b o (fun z => hb (hw b z)) e
    have made : ObjOk X.prog X.w (upd H T (.tup (vv i))) h' T (.tup (vv i)) := ⟨hl i, vals.toList, hv vals hi hPt, by
      show IsTup h' T vals.toList.toArray
      rw [Array.toArray_toList]
      exact hTup⟩
    refine ⟨.ref T, _, Iv.turnedNew (t' := tk) (ch := fp) kept hf hT made, rfl, ⟨T, rfl, Iv.hok.fresh hT, rfl⟩, back p _ _ st', fun b hb => ?_⟩
    obtain ⟨o, ho, _⟩ := obj i _ st b hb
    rw [upd_ne (Nat.ne_of_lt (Nat.lt_of_lt_of_le (Heap.lt_size ho) hT))]
    exact (hf b hb).1
  done := by
    intro X hP hW hK hc i pins s σ H E Iv hf st hg
    subst hP hW hK
    obtain ⟨rfl, hG⟩ := hg
    obtain ⟨p, sp, hv⟩ := to X rfl rfl rfl i pins s σ H Iv hG st (Nat.le_refl _)
    exact (goes X.A p (Iv.ok.hd hc)).stops s (fun s1 => Inv X pins σ H s1) E sp fun h' tk hk htk => Iv.turnedL (t' := tk) (ch := fp) (fun b o hb e => hk b o (fun z => hb (hw b z)) e) hf
  self := self

/-! ### enumerate of a tuple -/
set_option maxHeartbeats 1000000 in
theorem meets_enumT {v : Value} {o : Obj} {Hh : Heap → Prop} (B : Begins v o Hh) :
    Meets (Builtin.«enumerate.__new__» ⟨[.type "enumerate", v], []⟩) (fun _ R s => Hh s.heap ∧
      R (.ok (.ret (.ref (s.heap.push o).objs.size))) { s with heap := (s.heap.push o).push { cls := .type "enumerate", data := .fields #[.none, .bool false, .ref s.heap.objs.size, rawInt 0, .none, .none] } }) :=
  .of_wp fun prog w A R s h => by
    obtain ⟨hp, g, d, tk, os⟩ := s
    obtain ⟨h1, h⟩ := h
    have hsub := sub_enumerate
    have begun : ∀ {A' : Around} {E : Value → Shared → Prop} {Q : Value → Shared → Prop}, Q (.ref hp.objs.size) ⟨hp.push o, g, d, tk, os⟩ → wpAny (model prog w) A' (pyIter v) Q E ⟨hp, g, d, tk, os⟩ :=
      fun q => B.iter prog w _ _ ⟨hp, g, d, tk, os⟩ _ h1 q
    wp_walk using begun
    refine wpAny_stack_any fun st => wpAny_pure ?_
    split
    · rename_i c _ _ _ _ _
      cases (c == Value.type "enumerate")
      · wp_walk using begun
        exact ⟨_, rfl, h⟩
      · wp_walk using begun
        exact ⟨_, rfl, h⟩
    · wp_walk using begun
      exact ⟨_, rfl, h⟩

theorem call_enumT {prog : Program} {w : World} {A : Around} {E : Value → Shared → Prop} {s : Shared} {v : Value} {o : Obj} {Hh : Heap → Prop} {Q : Value → Shared → Prop} (B : Begins v o Hh) (h1 : Hh s.heap)
    (h : ∀ h', IsEnum h' (s.heap.objs.size + 1) s.heap.objs.size 0 .none → h'.get? s.heap.objs.size = some o →
      (∀ b o, s.heap.get? b = some o → h'.get? b = some o) → Q (.ref (s.heap.objs.size + 1)) { s with heap := h' }) :
    wpAny (model prog w) A (call (.type "enumerate") [v]) Q E s := by
  refine callType_new F.called_enumerate (by decide) (F.typeCall_enumerate_1 _) (F.newCall_enumerate_1 _) (fun obj => F.args_object_init_2 obj _) F.entry_enumerate_new (meets_enumT B) ⟨h1, ?_⟩
  have hz : (s.heap.push o).objs.size = s.heap.objs.size + 1 := Heap.size_push ..
  show _ ∧ _
  rw [hz]
  have he : IsEnum ((s.heap.push o).push { cls := .type "enumerate", data := .fields #[.none, .bool false, .ref s.heap.objs.size, rawInt 0, .none, .none] }) (s.heap.objs.size + 1) s.heap.objs.size 0 .none := by
    have g := Heap.get?_push_size (s.heap.push o) (o := { cls := .type "enumerate", data := .fields #[.none, .bool false, .ref s.heap.objs.size, rawInt 0, .none, .none] }) rfl
    rw [hz] at g
    exact g
  exact ⟨⟨_, he, rfl⟩, h _ he (Heap.get?_push_of_some _ (Heap.get?_push_size _ B.free)) fun b o x => Heap.get?_push_of_some _ (Heap.get?_push_of_some _ x)⟩

def vEnum (xs : List V) (i : Nat) : List V := [.int (i : Nat), xs.getD i .non]
theorem turn_enumT {P : Program} {w : World} {K : PySem.W.Frag} {elts : List Expr} {kk : Nat} {tpos : Pos} {a e it : Addr} {xs : List V} (hei : e ≠ it) :
    Turn P w K (.Tuple elts kk tpos) (ItN xs.length (fun H => SqT K H a xs) (vEnum xs)) [e, it] e
      (fun i h => (∃ old, IsEnum h e it (0 + (i : Int)) old) ∧ h.IsTupleIter it a i ∧ a ≠ it ∧ a ≠ e) := by
  refine turn_of (Par := { items : Array Value // items.size = xs.length ∧ a ≠ it ∧ a ≠ e }) (wr := [e, it]) (fq := fun _ => [e, it, a]) (St := fun p i h => (∃ old, IsEnum h e it (0 + (i : Int)) old) ∧ (h.IsTupleIter it a i ∧ h.IsTuple a p.1))
    (Pt := fun p i vals => ∃ t x, p.1[i]? = some x ∧ vals = #[.int (0 + (i : Int)) t, x]) (by simp) (fun b hb => hb) (fun i h st b hb => ?_) (fun i h h' st k => ?_) (fun A p hh => ?_) (fun X hP hW hK i pins s σ H Iv hG st hi => ?_) (fun p i h st => ⟨st.1, st.2.1, p.2.2⟩) (fun i => by show 2 ≤ sizeLine; decide) (fun A i s Q E st h => ?_)
  · obtain ⟨⟨old, h1⟩, ⟨o2, h2, _, d2⟩, _⟩ := st
    rcases List.mem_cons.mp hb with q | q
    · rw [q]; exact ⟨_, h1, fun v z => nomatch z⟩
    · rw [List.mem_singleton.mp q]; exact ⟨o2, h2, fun v z => by rw [d2] at z; cases z⟩
  · obtain ⟨⟨old, h1⟩, h2, h3⟩ := st
    exact ⟨⟨old, k e (by simp) _ h1⟩, h2.at fun o q => k it (by simp) o q, h3⟩
  · have D : Draws P w A.in1 it [it, a] p.1.size (fun i v => p.1[i]? = some v) (fun i h => h.IsTupleIter it a i ∧ h.IsTuple a p.1) := Draws.tuple (A := A.in1) hh it a p.2.2.1 p.1
    have W := GoesN.ofWalksT (elts := elts) (k := kk) (pos := tpos) (WalksT.enumFrom (0 : Int) D e hei (by simp [hei, Ne.symm p.2.2.2]) (by simp))
    rw [p.2.1] at W
    exact W.mono fun i h₀ v h hi ⟨T, vals, ev, hn, ⟨t, x, hx, evs⟩, hT⟩ => ⟨T, vals, ev, hn, ⟨t, x, hx, evs⟩, hT⟩
  · subst hP hW hK
    obtain ⟨its, rv, pt, _⟩ := Iv.tuple hG
    have hlen := rv.length
    refine ⟨⟨its.toArray, by simp [hlen], st.2.2⟩, ⟨st.1, st.2.1, pt⟩, fun vals hi hPt => ?_⟩
    obtain ⟨t, x, hx, rfl⟩ := hPt
    obtain ⟨u, hu, ru⟩ := rv.get (i := i) (x := xs[i]) (List.getElem?_eq_getElem hi)
    have ex : x = u := by
      have hx' : its[i]? = some x := by simpa using hx
      rw [hu] at hx'
      exact (Option.some.inj hx').symm
    subst ex
    have eg : xs.getD i .non = xs[i] := by simp [hi]
    unfold vEnum
    rw [eg]
    exact .cons ⟨t, by simp⟩ (.cons ru .nil)
  · obtain ⟨⟨old, h1⟩, _⟩ := st
    exact wpAny_pyIter_enum h1 h

def iEnumT (K : PySem.W.Frag) (ta : TA) : TI := fun σ H R => ta σ H fun vs H1 => ∃ a xs, vs = [.ref a] ∧ SqT K H1 a xs ∧ R (ItN xs.length (fun H => SqT K H a xs) (vEnum xs)) H1
theorem pi_enumT {X : Cx} {e : Expr} {ta : TA} {p pos tpos : Pos} {elts : List Expr} {kk : Nat} (hg : Gl X "enumerate") (hm : X.mg "enumerate" = none) (ha : PA X [e] ta) (hs : starEach [e] X.env = [(false, eval e X.env)] := by rfl) :
    PI X (.Tuple elts kk tpos) (.Call (.Name "enumerate" p) [e] [] pos) (iEnumT X.K ta) := by
  refine ⟨fun pins s σ H R Iv h => ?_⟩
  refine Call_ (ld_blt Iv hg hm boot_enumerate (PyProof.Rows.callWith_type1 (thn (ha.run pos pins s σ H _ Iv h) fun us s1 ⟨vs, H1, I1, r1, q1⟩ => ?_) hs rfl))
  obtain ⟨a, xs, ex, hq, q⟩ := q1
  subst ex
  cases r1 with
  | cons r rr =>
    cases rr
    cases r
    obtain ⟨its, rv, pt, hz⟩ := I1.tuple hq
    obtain ⟨ot, hot, _⟩ := id pt
    have hlt := Heap.lt_size hot
    refine call_enumT (begins_tuple a its.toArray) pt fun h' he hit hk => wpAny_pyIter_enum he ?_
    have I2 : Inv X pins σ H1 { s1 with heap := h' } := I1.kept (t' := s1.toks) hk
    have hne : a ≠ s1.heap.objs.size := Nat.ne_of_lt hlt
    have hne2 : a ≠ s1.heap.objs.size + 1 := Nat.ne_of_lt (Nat.lt_succ_of_lt hlt)
    refine ⟨s1.heap.objs.size + 1, [s1.heap.objs.size + 1, s1.heap.objs.size], _, _, H1, rfl, I2, turn_enumT (Nat.succ_ne_self _), ⟨⟨.none, he⟩, ⟨_, hit, rfl, rfl⟩, hne, hne2⟩, fun b hb => ?_, q⟩
    have hle : s1.heap.objs.size ≤ b := by
      rcases List.mem_cons.mp hb with z | z
      · rw [z]; exact Nat.le_succ _
      · rw [List.mem_singleton.mp z]; exact Nat.le_refl _
    exact I1.fpOk hle (I1.hok.fresh hle)
end Cv

set_option maxRecDepth 100000
set_option maxHeartbeats 4000000
/-! zip(t, u, strict=True) of two tuples of one length. -/
namespace Cv
open PySem PySem.Spec PyProof.Rows L2
open Sem (wp)

/-- a strict zip over the iterators in TI, its own tuple at TO -/
abbrev IsZs (h : Heap) (z TI TO : Addr) (f0 : Value) : Prop :=
  h.get? z = some { cls := .type "zip", dict := none, data := .fields #[f0, .bool false, .bool true, .ref TI, .ref TO], slots := #[] }

section
variable {prog : Program} {w : World} {A : Around} {E : Value → Shared → Prop} {s : Shared}

theorem nextOrEnd_gives {it : Addr} {fp : List Addr} {n i : Nat} {Pv : Nat → Value → Prop} {Si : Nat → Heap → Prop} {Q : Option Value → Shared → Prop} (D : Draws prog w A it fp n Pv Si) (hi : i < n) (st : Si i s.heap)
    (hQ : ∀ x h' tk, Pv i x → Si (i + 1) h' → Heap.SameBut it s.heap h' → Q (some x) { s with heap := h', toks := tk }) :
    wpAny (model prog w) A (Builtin.SmallTypes.nextOrEnd (.ref it)) Q E s := by
  unfold Builtin.SmallTypes.nextOrEnd
  exact wpAny_bind (wpAny_attempt (D.item i s _ _ hi st fun x h' tk a b c => wpAny_pure (hQ x h' tk a b c)))
theorem nextOrEnd_ends {it : Addr} {fp : List Addr} {n : Nat} {Pv : Nat → Value → Prop} {Si : Nat → Heap → Prop} {Q : Option Value → Shared → Prop} (D : Draws prog w A it fp n Pv Si) (st : Si n s.heap)
    (hQ : ∀ h', Heap.ExtBut it s.heap h' → Q none { s with heap := h' }) : wpAny (model prog w) A (Builtin.SmallTypes.nextOrEnd (.ref it)) Q E s := by
  unfold Builtin.SmallTypes.nextOrEnd
  refine wpAny_bind (wpAny_attempt (D.done s _ _ st fun h' e hx he => ?_))
  obtain ⟨o, ho, hc⟩ := he
  exact wpAny_bind (wpAny_isInstance (T := "StopIteration") (b := true) ⟨o, ho, hc⟩ isSubtype_stop (wpAny_pure (hQ h' hx)))

variable {z TI TO i1 i2 : Addr} {fp1 fp2 : List Addr} {n i : Nat} {P1 P2 : Nat → Value → Prop} {St1 St2 : Nat → Heap → Prop} {a1 a2 : Value}

theorem zs_item {Q : Value → Shared → Prop} (S : ZipSep2 z TI TO i1 i2 fp1 fp2) (D1 : Draws prog w A i1 fp1 n P1 St1) (D2 : Draws prog w A i2 fp2 n P2 St2) (hz : IsZs s.heap z TI TO .none)
    (hTI : IsTupOf2 s.heap TI (.ref i1) (.ref i2)) (hTO : IsTupOf2 s.heap TO a1 a2) (st1 : St1 i s.heap) (st2 : St2 i s.heap) (hi : i < n)
    (hQ : ∀ x1 x2 h' tk, P1 i x1 → P2 i x2 → IsZs h' z TI TO (rawInt s.heap.objs.size) → IsTupOf2 h' TO x1 x2 → St1 (i + 1) h' → St2 (i + 1) h' → IsTupOf2 h' s.heap.objs.size x1 x2 →
      (∀ c o, c ≠ z → c ≠ TO → c ≠ i1 → c ≠ i2 → s.heap.get? c = some o → h'.get? c = some o) → Q (.ref s.heap.objs.size) { s with heap := h', toks := tk }) :
    wpAny (model prog w) A (Builtin.«zip.__next__» ⟨[.ref z], []⟩) (fun fin s' => ∃ v, fin = .done (.ret v) ∧ Q v s') E s := by
  obtain ⟨hp, g, d, tk0, os⟩ := s
  show wpAny _ _ (field (.ref z) 2 >>= _) _ _ _
  refine wpAny_bind (wpAny_field hz rfl (x := .bool true) rfl ?_)
  show wpAny _ _ (field (.ref z) 3 >>= _) _ _ _
  refine wpAny_bind (wpAny_field hz rfl (x := .ref TI) rfl ?_)
  refine wpAny_bind (wpAny_seqItems hTI rfl ?_)
  show wpAny _ _ (Builtin.SmallTypes.ownedTupleIsFree (.ref z) >>= _) _ _ _
  refine wpAny_bind ?_
  unfold Builtin.SmallTypes.ownedTupleIsFree
  refine wpAny_bind (wpAny_field hz rfl (x := .none) rfl (wpAny_pure ?_))
  simp only [if_true]
  refine wpAny_bind (wpAny_rule ?_)
  refine wpAny_bind (wpAny_field hz rfl (x := .ref TO) rfl ?_)
  refine wpAny_bind (wpAny_setField_rec hz (by simp) fun b0 z0 k0 => ?_)
  replace z0 : IsZs b0 z TI TO .ellipsis := z0
  replace k0 : Heap.SameBut z hp b0 := k0
  refine wpAny_bind ?_
  simp only [List.zipIdx_cons, List.zipIdx_nil, List.forIn_cons, List.forIn_nil]
  -- the first
  refine wpAny_bind (wpAny_bind (wpAny_onRaise ?_))
  show wpAny _ _ (Builtin.SmallTypes.nextOrEnd (.ref i1)) _ _ ⟨b0, g, d, tk0, os⟩
  refine nextOrEnd_gives D1 hi (D1.over st1 k0 S.zf1) fun x1 b1 tk1 hx1 m1 k1 => ?_
  replace k1 : Heap.SameBut i1 b0 b1 := k1
  have u1 : IsTupOf2 b1 TO a1 a2 := k1.extBut _ _ S.Ti1 (k0.extBut _ _ S.TOz hTO)
  refine wpAny_bind (wpAny_seqItems (s := ⟨b1, g, d, tk1, os⟩) u1 rfl ?_)
  refine wpAny_bind (updateSeq_IsTupOf2 (s := ⟨b1, g, d, tk1, os⟩) u1 fun b2 t2 k2 => ?_)
  replace t2 : IsTupOf2 b2 TO x1 a2 := t2
  replace k2 : Heap.SameBut TO b1 b2 := k2
  refine wpAny_bind (wpAny_letGo (wpAny_pure ?_))
  -- the second
  refine wpAny_bind (wpAny_bind (wpAny_onRaise ?_))
  show wpAny _ _ (Builtin.SmallTypes.nextOrEnd (.ref i2)) _ _ ⟨b2, g, d, tk1, os⟩
  refine nextOrEnd_gives D2 hi (D2.over (D2.over (D2.over st2 k0 S.zf2) k1 S.sep1_2) k2 S.Tf2) fun x2 b3 tk2 hx2 m2 k3 => ?_
  replace k3 : Heap.SameBut i2 b2 b3 := k3
  have u3 : IsTupOf2 b3 TO x1 a2 := k3.extBut _ _ S.Ti2 t2
  refine wpAny_bind (wpAny_seqItems (s := ⟨b3, g, d, tk2, os⟩) u3 rfl ?_)
  refine wpAny_bind (updateSeq_IsTupOf2 (s := ⟨b3, g, d, tk2, os⟩) u3 fun b4 t4 k4 => ?_)
  replace t4 : IsTupOf2 b4 TO x1 x2 := t4
  replace k4 : Heap.SameBut TO b3 b4 := k4
  refine wpAny_bind (wpAny_letGo (wpAny_pure (wpAny_pure ?_)))
  refine wpAny_bind (wpAny_seqItems (s := ⟨b4, g, d, tk2, os⟩) t4 rfl ?_)
  refine wpAny_bind (wpAny_newTuple ?_)
  have size4 : b4.objs.size = hp.objs.size := by rw [k4.1, k3.1, k2.1, k1.1, k0.1]
  have z4 : IsZs b4 z TI TO .ellipsis := k4.extBut _ _ S.TOz.symm (k3.extBut _ _ S.zi2 (k2.extBut _ _ S.TOz.symm (k1.extBut _ _ S.zi1 z0)))
  have all4 : ∀ c o, c ≠ z → c ≠ TO → c ≠ i1 → c ≠ i2 → hp.get? c = some o → b4.get? c = some o := fun c o c1 c2 c3 c4 e =>
    k4.extBut _ _ c2 (k3.extBut _ _ c4 (k2.extBut _ _ c2 (k1.extBut _ _ c3 (k0.extBut _ _ c1 e))))
  have j1 : St1 (i + 1) b4 := D1.over (D1.over (D1.over m1 k2 S.Tf1) k3 S.sep2_1) k4 S.Tf1
  have j2 : St2 (i + 1) b4 := D2.over m2 k4 S.Tf2
  have zlt : z < b4.objs.size := Heap.lt_size z4
  show wpAny _ _ (Builtin.SmallTypes.ownedTupleHandOut (.ref z) (.ref b4.objs.size) >>= _) _ _ ⟨b4.push { cls := .type "tuple", data := .seq #[x1, x2] }, g, d, tk2, os⟩
  refine wpAny_bind ?_
  unfold Builtin.SmallTypes.ownedTupleHandOut
  have z5 : IsZs (b4.push { cls := .type "tuple", data := .seq #[x1, x2] }) z TI TO .ellipsis := Heap.get?_push_of_some _ z4
  refine wpAny_bind (wpAny_setField_rec z5 (by simp) fun b6 z6 k6 => ?_)
  replace z6 : IsZs b6 z TI TO (rawInt b4.objs.size) := z6
  refine wpAny_setField_rec z6 (by simp) fun b7 z7 k7 => ?_
  replace z7 : IsZs b7 z TI TO (rawInt b4.objs.size) := z7
  replace k6 : Heap.SameBut z (b4.push { cls := .type "tuple", data := .seq #[x1, x2] }) b6 := k6
  replace k7 : Heap.SameBut z b6 b7 := k7
  have up : ∀ c o, c ≠ z → b4.get? c = some o → b7.get? c = some o := fun c o c1 e => k7.extBut _ _ c1 (k6.extBut _ _ c1 (Heap.get?_push_of_some _ e))
  have new : IsTupOf2 b7 b4.objs.size x1 x2 := k7.extBut _ _ (Nat.ne_of_gt zlt) (k6.extBut _ _ (Nat.ne_of_gt zlt) (Heap.get?_push_size _ rfl))
  rw [size4] at z7 new
  refine wpAny_pure ⟨_, rfl, ?_⟩
  show Q (.ref b4.objs.size) ⟨b7, g, d, tk2, os⟩
  rw [size4]
  exact hQ x1 x2 b7 tk2 hx1 hx2 z7 (up _ _ S.TOz t4) (D1.frame _ _ _ j1 fun b hb o e => up b o (fun q => S.zf1 (q ▸ hb)) e) (D2.frame _ _ _ j2 fun b hb o e => up b o (fun q => S.zf2 (q ▸ hb)) e) new
    fun c o c1 c2 c3 c4 e => up c o c1 (all4 c o c1 c2 c3 c4 e)

theorem zs_end {Q : Fin → Shared → Prop} (hh : A.handled = none) (S : ZipSep2 z TI TO i1 i2 fp1 fp2) (D1 : Draws prog w A i1 fp1 n P1 St1) (D2 : Draws prog w A i2 fp2 n P2 St2) (hz : IsZs s.heap z TI TO .none)
    (hTI : IsTupOf2 s.heap TI (.ref i1) (.ref i2)) (hTO : IsTupOf2 s.heap TO a1 a2) (st1 : St1 n s.heap) (st2 : St2 n s.heap)
    (hE : ∀ h' e, (∀ c o, c ≠ z → c ≠ TO → c ≠ i1 → c ≠ i2 → s.heap.get? c = some o → h'.get? c = some o) → (∃ o, h'.get? e = some o ∧ o.cls = .type "StopIteration") → E (.ref e) { s with heap := h' }) :
    wpAny (model prog w) A (Builtin.«zip.__next__» ⟨[.ref z], []⟩) Q E s := by
  obtain ⟨hp, g, d, tk0, os⟩ := s
  show wpAny _ _ (field (.ref z) 2 >>= _) _ _ _
  refine wpAny_bind (wpAny_field hz rfl (x := .bool true) rfl ?_)
  show wpAny _ _ (field (.ref z) 3 >>= _) _ _ _
  refine wpAny_bind (wpAny_field hz rfl (x := .ref TI) rfl ?_)
  refine wpAny_bind (wpAny_seqItems hTI rfl ?_)
  show wpAny _ _ (Builtin.SmallTypes.ownedTupleIsFree (.ref z) >>= _) _ _ _
  refine wpAny_bind ?_
  unfold Builtin.SmallTypes.ownedTupleIsFree
  refine wpAny_bind (wpAny_field hz rfl (x := .none) rfl (wpAny_pure ?_))
  simp only [if_true]
  refine wpAny_bind (wpAny_rule ?_)
  refine wpAny_bind (wpAny_field hz rfl (x := .ref TO) rfl ?_)
  refine wpAny_bind (wpAny_setField_rec hz (by simp) fun b0 z0 k0 => ?_)
  replace z0 : IsZs b0 z TI TO .ellipsis := z0
  replace k0 : Heap.SameBut z hp b0 := k0
  refine wpAny_bind ?_
  simp only [List.zipIdx_cons, List.zipIdx_nil, List.forIn_cons, List.forIn_nil]
  refine wpAny_bind (wpAny_bind (wpAny_onRaise ?_))
  show wpAny _ _ (Builtin.SmallTypes.nextOrEnd (.ref i1)) _ _ ⟨b0, g, d, tk0, os⟩
  refine nextOrEnd_ends D1 (D1.over st1 k0 S.zf1) fun b1 k1 => ?_
  replace k1 : Heap.ExtBut i1 b0 b1 := k1
  have z1 : IsZs b1 z TI TO .ellipsis := k1 _ _ S.zi1 z0
  show wpAny _ _ (setField (.ref z) 0 .none >>= _) _ _ ⟨b1, g, d, tk0, os⟩
  refine wpAny_bind (wpAny_setField_rec z1 (by simp) fun b2 z2 k2 => ?_)
  replace k2 : Heap.SameBut z b1 b2 := k2
  refine wpAny_bind ?_
  show wpAny _ _ (_ >>= _) _ _ ⟨b2, g, d, tk0, os⟩
  refine wpAny_bind ?_
  simp only [List.drop_succ_cons, List.drop_zero, List.zipIdx_cons, List.zipIdx_nil, List.forIn_cons, List.forIn_nil]
  have st2' : St2 n b2 := D2.over (D2.frame _ _ _ (D2.over st2 k0 S.zf2) fun b hb o e => k1 b o (fun q => S.sep1_2 (q ▸ hb)) e) k2 S.zf2
  refine wpAny_bind (wpAny_bind (nextOrEnd_ends D2 st2' fun b3 k3 => ?_))
  replace k3 : Heap.ExtBut i2 b2 b3 := k3
  have all3 : ∀ c o, c ≠ z → c ≠ i1 → c ≠ i2 → hp.get? c = some o → b3.get? c = some o := fun c o c1 c3 c4 e => k3 c o c4 (k2.extBut c o c1 (k1 c o c3 (k0.extBut c o c1 e)))
  simp only [Option.isSome_none, Bool.false_eq_true, if_false]
  refine wpAny_pure (wpAny_pure (wpAny_bind (wpAny_rule ?_)))
  unfold Builtin.SmallTypes.stopIteration
  refine wpAny_bind ?_
  simp only [newExc, newTuple]
  refine wpAny_bind (wpAny_newObj_type ?_ (by size_fits))
  refine wpAny_bind (m := firstArgMember _ _) (wpAny_of_eq (a := Value.none) (by first | rfl | (simp only [firstArgMember]; rfl)) ?_)
  refine wpAny_newObj_type ?_ (by size_fits)
  simp only [raiseNew]
  refine wpAny_bind (wpAny_handled ?_)
  rw [hh]
  refine wpAny_bind (wpAny_pure (wpAny_throw ?_))
  exact hE _ _ (fun c o c1 c2 c3 c4 e => Heap.get?_push_of_some _ (Heap.get?_push_of_some _ (all3 c o c1 c3 c4 e))) ⟨_, Heap.get?_push_size _ rfl, rfl⟩

theorem zs_next {Q : Option Value → Shared → Prop} (S : ZipSep2 z TI TO i1 i2 fp1 fp2) (D1 : Draws prog w A.in1 i1 fp1 n P1 St1) (D2 : Draws prog w A.in1 i2 fp2 n P2 St2) (hz : IsZs s.heap z TI TO .none)
    (hTI : IsTupOf2 s.heap TI (.ref i1) (.ref i2)) (hTO : IsTupOf2 s.heap TO a1 a2) (st1 : St1 i s.heap) (st2 : St2 i s.heap) (hi : i < n)
    (hQ : ∀ x1 x2 h' tk, P1 i x1 → P2 i x2 → IsZs h' z TI TO (rawInt s.heap.objs.size) → IsTupOf2 h' TO x1 x2 → St1 (i + 1) h' → St2 (i + 1) h' → IsTupOf2 h' s.heap.objs.size x1 x2 →
      (∀ c o, c ≠ z → c ≠ TO → c ≠ i1 → c ≠ i2 → s.heap.get? c = some o → h'.get? c = some o) → Q (some (.ref s.heap.objs.size)) { s with heap := h', toks := tk }) :
    wpAny (model prog w) A (pyNext (.ref z)) Q E s := by
  have hT : s.TypeIs (.ref z) "zip" := ⟨_, hz, rfl⟩
  unfold pyNext
  exact wpAny_bind (wpAny_attempt (wpAny_callSpecial?_slot (name := Str.ofString "__next__") hT F.slot_zip_next (wpAny_call_entry F.slot_zip_next hT F.entry_zip_next
    (zs_item S D1 D2 hz hTI hTO st1 st2 hi fun x1 x2 h' tk b1 b2 b3 b4 b5 b6 b7 b8 => wpAny_pure (hQ x1 x2 h' tk b1 b2 b3 b4 b5 b6 b7 b8)) (F.args_zip_next_1 _))))
theorem zs_stop {Q : Option Value → Shared → Prop} (hh : A.handled = none) (S : ZipSep2 z TI TO i1 i2 fp1 fp2) (D1 : Draws prog w A.in1 i1 fp1 n P1 St1) (D2 : Draws prog w A.in1 i2 fp2 n P2 St2) (hz : IsZs s.heap z TI TO .none)
    (hTI : IsTupOf2 s.heap TI (.ref i1) (.ref i2)) (hTO : IsTupOf2 s.heap TO a1 a2) (st1 : St1 n s.heap) (st2 : St2 n s.heap)
    (hQ : ∀ h', (∀ c o, c ≠ z → c ≠ TO → c ≠ i1 → c ≠ i2 → s.heap.get? c = some o → h'.get? c = some o) → Q none { s with heap := h' }) :
    wpAny (model prog w) A (pyNext (.ref z)) Q E s := by
  have hT : s.TypeIs (.ref z) "zip" := ⟨_, hz, rfl⟩
  unfold pyNext
  refine wpAny_bind (wpAny_attempt (wpAny_callSpecial?_slot (name := Str.ofString "__next__") hT F.slot_zip_next (wpAny_call_entry F.slot_zip_next hT F.entry_zip_next
    (zs_end hh S D1 D2 hz hTI hTO st1 st2 fun h' e hk he => ?_) (F.args_zip_next_1 _))))
  obtain ⟨o, ho, hc⟩ := he
  exact wpAny_bind (wpAny_isInstance (T := "StopIteration") (b := true) ⟨o, ho, hc⟩ isSubtype_stop (wpAny_pure (hQ _ hk)))

theorem zs_go {elts : List Expr} {kk : Nat} {pos : Pos} {T : Addr} {Q : Unit → Shared → Prop} (hz : IsZs s.heap z TI TO (rawInt T))
    (hQ : ∀ h', IsZs h' z TI TO .none → Heap.SameBut z s.heap h' → Q () { s with heap := h' }) : wpAny (model prog w) A (letOwnedTupleGo (.Tuple elts kk pos) (.ref z) (.ref T)) Q E s := by
  unfold letOwnedTupleGo
  refine wpAny_bind (wpAny_load hz ?_)
  show wpAny _ _ (if (["enumerate", "zip", "dict_itemiterator", "dict_reverseitemiterator", "odict_iterator", "itertools.zip_longest", "itertools.pairwise"].contains "zip" &&
      (#[rawInt T, .bool false, .bool true, .ref TI, .ref TO] : Array Value)[0]? == some (rawInt T)) = true then _ else _) Q E s
  rw [if_pos (by simp)]
  refine wpAny_bind (wpAny_rule ?_)
  show wpAny _ _ (setField (.ref z) 0 .none) Q E s
  exact wpAny_setField_rec hz (by simp) fun h' hz' hs' => hQ h' hz' hs'
theorem zs_self {f0 : Value} {Q : Value → Shared → Prop} (hz : IsZs s.heap z TI TO f0) (h : Q (.ref z) s) : wpAny (model prog w) A (pyIter (.ref z)) Q E s := by
  have hT : s.TypeIs (.ref z) "zip" := ⟨_, hz, rfl⟩
  refine wpAny_pyIter_slot hT F.slot_zip_iter (wpAny_call_entry F.slot_zip_iter hT F.entry_zip_iter ?_ (F.args_zip_iter_1 _))
  show wpAny _ _ (ret (.ref z)) _ _ s
  exact wpAny_pure ⟨_, rfl, "zip", _, hT, F.slot_zip_next.lookup, h⟩

/-- its turns -/
theorem zs_walks (hh : A.handled = none) (S : ZipSep2 z TI TO i1 i2 fp1 fp2) (D1 : Draws prog w A.in1 i1 fp1 n P1 St1) (D2 : Draws prog w A.in1 i2 fp2 n P2 St2) :
    WalksT prog w A z (z :: TI :: TO :: (fp1 ++ fp2)) [z, TO, i1, i2] n (fun i vals => ∃ x1 x2, P1 i x1 ∧ P2 i x2 ∧ vals = #[x1, x2])
      (fun i h => IsZs h z TI TO .none ∧ IsTupOf2 h TI (.ref i1) (.ref i2) ∧ (∃ a1 a2, IsTupOf2 h TO a1 a2) ∧ St1 i h ∧ St2 i h)
      (fun i T h => IsZs h z TI TO (rawInt T) ∧ IsTupOf2 h TI (.ref i1) (.ref i2) ∧ (∃ a1 a2, IsTupOf2 h TO a1 a2) ∧ St1 (i + 1) h ∧ St2 (i + 1) h ∧ T ∉ [z, TO, i1, i2]) where
  sub := fun c hc => by
    rcases List.mem_cons.mp hc with rfl | hc
    · simp
    rcases List.mem_cons.mp hc with rfl | hc
    · simp
    rcases List.mem_cons.mp hc with rfl | hc
    · simp [S.mem1]
    · rw [List.mem_singleton.mp hc]; simp [S.mem2]
  frame := fun i h h' hst hk => by
    obtain ⟨hz, hTI, ⟨a1, a2, hTO⟩, st1, st2⟩ := hst
    exact ⟨hk z (by simp) _ hz, hk TI (by simp) _ hTI, ⟨a1, a2, hk TO (by simp) _ hTO⟩, D1.frame _ _ _ st1 fun b hb o e => hk b (by simp [hb]) o e, D2.frame _ _ _ st2 fun b hb o e => hk b (by simp [hb]) o e⟩
  item := fun i s Q E hi hst hQ => by
    obtain ⟨hz, hTI, ⟨a1, a2, hTO⟩, st1, st2⟩ := hst
    refine zs_next S D1 D2 hz hTI hTO st1 st2 hi fun x1 x2 h' tk y1 y2 b1 b2 d1 d2 b5 hk => ?_
    have lt : ∀ {c o}, s.heap.get? c = some o → s.heap.objs.size ≠ c := fun e => Nat.ne_of_gt (Heap.lt_size e)
    have l1 : s.heap.objs.size ≠ i1 := let ⟨_, e⟩ := D1.live _ _ st1; lt e
    have l2 : s.heap.objs.size ≠ i2 := let ⟨_, e⟩ := D2.live _ _ st2; lt e
    exact hQ s.heap.objs.size #[x1, x2] h' tk ⟨x1, x2, y1, y2, rfl⟩ (Nat.le_refl _) ⟨_, b5, rfl, _, rfl⟩ ⟨b1, hk _ _ S.TIz S.TITO S.TIi1 S.TIi2 hTI, ⟨_, _, b2⟩, d1, d2, by simp [lt hz, lt hTO, l1, l2]⟩
      fun c o hc e => hk c o (fun x => hc (by simp [x])) (fun x => hc (by simp [x])) (fun x => hc (by simp [x])) (fun x => hc (by simp [x])) e
  go := fun elts k pos i T s Q E hm hQ => by
    obtain ⟨hz, hTI, ⟨a1, a2, hTO⟩, st1, st2, _⟩ := hm
    exact zs_go hz fun h' hz' hs' => hQ h' ⟨hz', hs'.extBut _ _ S.TIz hTI, ⟨a1, a2, hs'.extBut _ _ S.TOz hTO⟩, D1.over st1 hs' S.zf1, D2.over st2 hs' S.zf2⟩ fun c o hc e => hs'.extBut _ _ (fun x => hc (by simp [x])) e
  apart := fun i T h hm => hm.2.2.2.2.2
  done := fun s Q E hst hQ => by
    obtain ⟨hz, hTI, ⟨a1, a2, hTO⟩, st1, st2⟩ := hst
    exact zs_stop hh S D1 D2 hz hTI hTO st1 st2 fun h' hk => hQ h' s.toks fun c o hc e =>
      hk c o (fun x => hc (by simp [x])) (fun x => hc (by simp [x])) (fun x => hc (by simp [x])) (fun x => hc (by simp [x])) e
  self := fun i s Q E hst hQ => zs_self hst.1 hQ
end

/-! ### zip(v1, v2, strict=True) begins -/
theorem typeCall_zs (a b c : Value) : checkTypeCall "zip" ⟨[a, b], [(Str.ofString "strict", c)]⟩ = pure () := by kernel_rfl
theorem newCall_zs (a b c : Value) : checkBuiltinCall "zip.__new__" ⟨[.type "zip", a, b], [(Str.ofString "strict", c)]⟩ = pure () := by kernel_rfl
theorem args_init_zs (obj a b c : Value) : argsOk "object.__init__" ⟨[obj, a, b], [(Str.ofString "strict", c)]⟩ := by unfold argsOk; kernel_rfl
abbrev zsZ (h : Heap) (o1 o2 : Obj) : Heap := (gzO2 h o1 o2).push { cls := .type "zip", data := .fields #[.none, .bool false, .bool true, .ref ((h.push o1).push o2).objs.size, .ref (gzT2 h o1 o2).objs.size] }
set_option maxHeartbeats 1000000 in
theorem meets_zs {v1 v2 : Value} {o1 o2 : Obj} {H1 H2 : Heap → Prop} (B1 : Begins v1 o1 H1) (B2 : Begins v2 o2 H2) :
    Meets (Builtin.«zip.__new__» ⟨[.type "zip", v1, v2], [(Str.ofString "strict", .bool true)]⟩) (fun _ R s => (H1 s.heap ∧ H2 s.heap) ∧
      R (.ok (.ret (.ref (gzO2 s.heap o1 o2).objs.size))) { s with heap := zsZ s.heap o1 o2 }) :=
  .of_wp fun prog w A R s h => by
    obtain ⟨hp, g, d, tk, os⟩ := s
    obtain ⟨⟨h1, h2⟩, h⟩ := h
    have hsub := sub_zip
    have n1 : (Str.ofString "strict" != ("strict" : Str)) = false := by decide +kernel
    have q1 : ∀ {A' : Around} {E : Value → Shared → Prop} {Q : Value → Shared → Prop}, Q (.ref hp.objs.size) ⟨hp.push o1, g, d, tk, os⟩ → wpAny (model prog w) A' (pyIter v1) Q E ⟨hp, g, d, tk, os⟩ :=
      fun q => B1.iter prog w _ _ ⟨hp, g, d, tk, os⟩ _ h1 q
    have q2 : ∀ {A' : Around} {E : Value → Shared → Prop} {Q : Value → Shared → Prop}, Q (.ref (hp.push o1).objs.size) ⟨(hp.push o1).push o2, g, d, tk, os⟩ → wpAny (model prog w) A' (pyIter v2) Q E ⟨hp.push o1, g, d, tk, os⟩ :=
      fun q => B2.iter prog w _ _ ⟨hp.push o1, g, d, tk, os⟩ _ (B2.keeps _ _ h2 fun b o' e => Heap.get?_push_of_some _ e) q
    wp_walk using q1, q2
    exact ⟨_, rfl, h⟩
end Cv

set_option maxRecDepth 100000
set_option maxHeartbeats 4000000
/-! for a, b in zip(t, u, strict=True), for a, b, c in zip(t, u, v), the things tuples: as the layer's rules. -/
namespace Cv
open PySem PySem.Spec PyProof.Rows L2

theorem getD_lt {α : Type} {l : List α} {d : α} {i : Nat} (h : i < l.length) : l.getD i d = l[i] := by simp [h]
theorem vals_at {xs : List V} {its : List Value} {i : Nat} {u : Value} (rv : Vals xs its) (hi : i < xs.length) (hu : its.toArray[i]? = some u) : RelV (xs.getD i .non) u := by
  obtain ⟨u', hu', ru⟩ := rv.get (i := i) (x := xs[i]) (List.getElem?_eq_getElem hi)
  have e : its[i]? = some u := by simpa using hu
  rw [hu'] at e
  rw [getD_lt hi, ← Option.some.inj e]
  exact ru

def vZip2 (xs ys : List V) (i : Nat) : List V := [xs.getD i .non, ys.getD i .non]
theorem turn_zs {P : Program} {w : World} {K : PySem.W.Frag} {elts : List Expr} {kk : Nat} {tpos : Pos} {a b z TI TO i1 i2 : Addr} {xs ys : List V} (S : ZipSep2 z TI TO i1 i2 [i1, a] [i2, b]) (hl : xs.length = ys.length) (na : a ≠ i1) (nb : b ≠ i2) :
    Turn P w K (.Tuple elts kk tpos) (ItN xs.length (fun H => SqT K H a xs ∧ SqT K H b ys) (vZip2 xs ys)) [z, TI, TO, i1, i2] z
      (fun i h => IsZs h z TI TO .none ∧ IsTupOf2 h TI (.ref i1) (.ref i2) ∧ (∃ a1 a2, IsTupOf2 h TO a1 a2) ∧ h.IsTupleIter i1 a i ∧ h.IsTupleIter i2 b i) := by
  refine turn_of (Par := { p : Array Value × Array Value // p.1.size = xs.length ∧ p.2.size = xs.length }) (wr := [z, TO, i1, i2]) (fq := fun _ => z :: TI :: TO :: ([i1, a] ++ [i2, b]))
    (St := fun p i h => IsZs h z TI TO .none ∧ IsTupOf2 h TI (.ref i1) (.ref i2) ∧ (∃ a1 a2, IsTupOf2 h TO a1 a2) ∧ (h.IsTupleIter i1 a i ∧ h.IsTuple a p.1.1) ∧ (h.IsTupleIter i2 b i ∧ h.IsTuple b p.1.2))
    (Pt := fun p i vals => ∃ x1 x2, p.1.1[i]? = some x1 ∧ p.1.2[i]? = some x2 ∧ vals = #[x1, x2]) (by simp) (fun c hc => ?_) (fun i h st c hc => ?_) (fun i h h' st k => ?_) (fun A p hh => ?_) (fun X hP hW hK i pins s σ H Iv hG st hi => ?_)
    (fun p i h st => ⟨st.1, st.2.1, st.2.2.1, st.2.2.2.1.1, st.2.2.2.2.1⟩) (fun i => by show 2 ≤ sizeLine; decide) (fun A i s Q E st h => zs_self st.1 h)
  · simp only [List.mem_cons, List.not_mem_nil, or_false] at hc ⊢
    rcases hc with q | q | q | q <;> simp [q]
  · obtain ⟨hz, hTI, ⟨x, y, hTO⟩, ⟨o1, e1, _, d1⟩, ⟨o2, e2, _, d2⟩⟩ := st
    simp only [List.mem_cons, List.not_mem_nil, or_false] at hc
    rcases hc with q | q | q | q | q
    · rw [q]; exact ⟨_, hz, fun v z => nomatch z⟩
    · rw [q]; exact ⟨_, hTI, fun v z => nomatch z⟩
    · rw [q]; exact ⟨_, hTO, fun v z => nomatch z⟩
    · rw [q]; exact ⟨o1, e1, fun v z => by rw [d1] at z; cases z⟩
    · rw [q]; exact ⟨o2, e2, fun v z => by rw [d2] at z; cases z⟩
  · obtain ⟨hz, hTI, ⟨x, y, hTO⟩, h1, h2⟩ := st
    exact ⟨k z (by simp) _ hz, k TI (by simp) _ hTI, ⟨x, y, k TO (by simp) _ hTO⟩, h1.at fun o q => k i1 (by simp) o q, h2.at fun o q => k i2 (by simp) o q⟩
  · have D1 : Draws P w A.in1 i1 [i1, a] p.1.1.size (fun i v => p.1.1[i]? = some v) (fun i h => h.IsTupleIter i1 a i ∧ h.IsTuple a p.1.1) := Draws.tuple (A := A.in1) hh i1 a na p.1.1
    have D2 : Draws P w A.in1 i2 [i2, b] p.1.2.size (fun i v => p.1.2[i]? = some v) (fun i h => h.IsTupleIter i2 b i ∧ h.IsTuple b p.1.2) := Draws.tuple (A := A.in1) hh i2 b nb p.1.2
    rw [p.2.1] at D1
    rw [p.2.2] at D2
    exact GoesN.ofWalksT (elts := elts) (k := kk) (pos := tpos) (zs_walks hh S D1 D2)
  · subst hP hW hK
    obtain ⟨its, rv, pt, _⟩ := Iv.tuple hG.1
    obtain ⟨its2, rv2, pt2, _⟩ := Iv.tuple hG.2
    have l1 := rv.length
    have l2 := rv2.length
    refine ⟨⟨(its.toArray, its2.toArray), by simp [l1], by simp [← l2, hl]⟩, ⟨st.1, st.2.1, st.2.2.1, ⟨st.2.2.2.1, pt⟩, ⟨st.2.2.2.2, pt2⟩⟩, fun vals hi hPt => ?_⟩
    obtain ⟨x1, x2, e1, e2, rfl⟩ := hPt
    exact .cons (vals_at rv hi e1) (.cons (vals_at rv2 (hl ▸ hi) e2) .nil)

/-- zip(t, u, strict=True), both tuples of one length -/
def iZs (K : PySem.W.Frag) (ta tk : TA) : TI := fun σ H R => ta σ H fun vs H1 => tk σ H1 fun zs H2 => ∃ a b xs ys, vs = [.ref a, .ref b] ∧ zs = [.bl true] ∧ SqT K H2 a xs ∧ SqT K H2 b ys ∧ xs.length = ys.length ∧
  R (ItN xs.length (fun H => SqT K H a xs ∧ SqT K H b ys) (vZip2 xs ys)) H2
theorem call_zs {prog : Program} {w : World} {A : Around} {E : Value → Shared → Prop} {s : Shared} {v1 v2 : Value} {o1 o2 : Obj} {H1 H2 : Heap → Prop} {Q : Value → Shared → Prop} (B1 : Begins v1 o1 H1) (B2 : Begins v2 o2 H2) (h1 : H1 s.heap) (h2 : H2 s.heap)
    (h : ∀ h', IsZs h' (s.heap.objs.size + 4) (s.heap.objs.size + 2) (s.heap.objs.size + 3) .none → IsTupOf2 h' (s.heap.objs.size + 2) (.ref s.heap.objs.size) (.ref (s.heap.objs.size + 1)) →
      IsTupOf2 h' (s.heap.objs.size + 3) .none .none → h'.get? s.heap.objs.size = some o1 → h'.get? (s.heap.objs.size + 1) = some o2 →
      (∀ c o, s.heap.get? c = some o → h'.get? c = some o) → Q (.ref (s.heap.objs.size + 4)) { s with heap := h' }) :
    wpAny (model prog w) A (call (.type "zip") [v1, v2] [(Str.ofString "strict", .bool true)]) Q E s := by
  refine callType_newKw F.called_zip (by decide) (typeCall_zs _ _ _) (newCall_zs _ _ _) (fun obj => args_init_zs obj _ _ _) F.entry_zip_new (meets_zs B1 B2) ⟨⟨h1, h2⟩, ?_⟩
  have z1 : (s.heap.push o1).objs.size = s.heap.objs.size + 1 := by rw [Heap.size_push]
  have z2 : ((s.heap.push o1).push o2).objs.size = s.heap.objs.size + 2 := by rw [Heap.size_push, z1]
  have z3 : (gzT2 s.heap o1 o2).objs.size = s.heap.objs.size + 3 := by rw [Heap.size_push, z2]
  have z4 : (gzO2 s.heap o1 o2).objs.size = s.heap.objs.size + 4 := by rw [Heap.size_push, z3]
  have gZ : (zsZ s.heap o1 o2).get? (gzO2 s.heap o1 o2).objs.size = some { cls := .type "zip", data := .fields #[.none, .bool false, .bool true, .ref ((s.heap.push o1).push o2).objs.size, .ref (gzT2 s.heap o1 o2).objs.size] } := Heap.get?_push_size _ rfl
  have gO : (zsZ s.heap o1 o2).get? (gzT2 s.heap o1 o2).objs.size = some { cls := .type "tuple", data := .seq #[.none, .none] } := Heap.get?_push_of_some _ (Heap.get?_push_size _ rfl)
  have gT : (zsZ s.heap o1 o2).get? ((s.heap.push o1).push o2).objs.size = some { cls := .type "tuple", data := .seq #[.ref s.heap.objs.size, .ref (s.heap.push o1).objs.size] } := Heap.get?_push_of_some _ (Heap.get?_push_of_some _ (Heap.get?_push_size _ rfl))
  have g1 : (zsZ s.heap o1 o2).get? s.heap.objs.size = some o1 := Heap.get?_push_of_some _ (Heap.get?_push_of_some _ (Heap.get?_push_of_some _ (Heap.get?_push_of_some _ (Heap.get?_push_size _ B1.free))))
  have g2 : (zsZ s.heap o1 o2).get? (s.heap.push o1).objs.size = some o2 := Heap.get?_push_of_some _ (Heap.get?_push_of_some _ (Heap.get?_push_of_some _ (Heap.get?_push_size _ B2.free)))
  rw [z4, z3, z2] at gZ
  rw [z3] at gO
  rw [z2, z1] at gT
  rw [z1] at g2
  show _ ∧ _
  rw [z4]
  exact ⟨⟨_, gZ, rfl⟩, h _ gZ gT gO g1 g2 fun c o x => Heap.get?_push_of_some _ (Heap.get?_push_of_some _ (Heap.get?_push_of_some _ (Heap.get?_push_of_some _ (Heap.get?_push_of_some _ x))))⟩
theorem new_apart {N n : Nat} {b : Addr} (h : b < N) : b ≠ N + n := Nat.ne_of_lt (Nat.lt_of_lt_of_le h (Nat.le_add_right _ _))

/-- a built-in class called with keywords -/
theorem callWith_tyK {M : Model} {A : Around} {E : Value → Shared → Prop} {s : Shared} {env : Env} {pos : Pos} {T : String} {e : Expr} {more : List Expr} {kws : List Keyword} {Q : Value → Shared → Prop}
    (h : wpAny M A (spliced (backTo pos (starEach (e :: more) env))) (fun vs s₁ => wpAny M A (evalAll ((backToKw pos (keywordEach kws env)).map (·.2)))
      (fun kvs s₂ => wpAny M A (call (.type T) vs (((backToKw pos (keywordEach kws env)).filterMap (·.1)).zip kvs)) Q E s₂) E s₁) E s)
    (he : backTo pos (starEach (e :: more) env) = (false, eval e env) :: backTo pos (starEach more env) := by rfl) (hpl : (backTo pos (starEach (e :: more) env)).any (·.1) = false := by rfl)
    (hall : (backToKw pos (keywordEach kws env)).all (·.1.isSome) = true := by rfl) (hno : (backToKw pos (keywordEach kws env)).any (·.1.isNone) = false := by rfl) :
    wpAny M A (callWith pos (.type T) [] (backTo pos (starEach (e :: more) env)) (backToKw pos (keywordEach kws env))) Q E s := by
  have ev : wpAny M A (evalArgs (.type T) true (backTo pos (starEach (e :: more) env)) (backToKw pos (keywordEach kws env))) (fun a s₁ => wpAny M A (call (.type T) ([] ++ a.pos) a.kw) Q E s₁) E s := by
    rw [he] at h ⊢
    exact evalArgs_kwB hall h
  unfold callWith
  refine wpAny_bind (wpAny_holding (wpAny_mono ev (fun a s₁ h₁ => wpAny_bind (wpAny_standAt ?_)) fun _ _ x => x))
  simp only [hpl, hno, Bool.or_false]
  refine wpAny_bind (wpAny_pure ?_)
  exact wpAny_bind (wpAny_mono h₁ (fun r s₂ hr => wpAny_bind (wpAny_holding (wpAny_point (wpAny_pure hr)))) fun _ _ x => x)

theorem pi_zs {X : Cx} {e e2 : Expr} {ta tk : TA} {p pos tpos : Pos} {elts : List Expr} {kk : Nat} {kws : List Keyword} (hg : Gl X "zip") (hm : X.mg "zip" = none) (ha : PA X [e, e2] ta) (hk : PK X kws tk)
    (he : backTo pos (starEach [e, e2] X.env) = (false, eval e X.env) :: backTo pos (starEach [e2] X.env) := by rfl) (hpl : (backTo pos (starEach [e, e2] X.env)).any (·.1) = false := by rfl)
    (hall : (backToKw pos (keywordEach kws X.env)).all (·.1.isSome) = true := by rfl) (hno : (backToKw pos (keywordEach kws X.env)).any (·.1.isNone) = false := by rfl)
    (hks : (backToKw pos (keywordEach kws X.env)).filterMap (·.1) = [Str.ofString "strict"] := by rfl) :
    PI X (.Tuple elts kk tpos) (.Call (.Name "zip" p) [e, e2] kws pos) (iZs X.K ta tk) := by
  refine ⟨fun pins s σ H R I h => ?_⟩
  refine wpAny_Call_Name_kw (ld_blt I hg hm PyProof.Rows.boot_zip ?_)
  refine callWith_tyK (thn (ha.run pos pins s σ H _ I h) fun us s1 ⟨vs, H1, I1, r1, q1⟩ => thn (hk.run pos pins s1 σ H1 _ I1 q1) fun ws s2 ⟨zs, H2, I2, r2, q2⟩ => ?_) he hpl hall hno
  rw [hks]
  obtain ⟨a, b, xs, ys, ex, ez, hx, hy, hl, q⟩ := q2
  subst ex ez
  cases r1 with
  | cons ra rr =>
    cases rr with
    | cons rb rr =>
      cases rr
      cases ra
      cases rb
      cases r2 with
      | cons rc rr =>
        cases rr
        cases rc
        obtain ⟨its, rv, pt, _⟩ := I2.tuple hx
        obtain ⟨its2, rv2, pt2, _⟩ := I2.tuple hy
        have alt : a < s2.heap.objs.size := let ⟨_, e, _⟩ := pt; Heap.lt_size e
        have blt : b < s2.heap.objs.size := let ⟨_, e, _⟩ := pt2; Heap.lt_size e
        have na : a ≠ s2.heap.objs.size := Nat.ne_of_lt alt
        have nb : b ≠ s2.heap.objs.size + 1 := new_apart blt
        refine call_zs (begins_tuple a its.toArray) (begins_tuple b its2.toArray) pt pt2 fun h' hz hTI hTO h1 h2 hk => zs_self hz ?_
        have I3 : Inv X pins σ H2 { s2 with heap := h' } := I2.kept (t' := s2.toks) hk
        refine ⟨s2.heap.objs.size + 4, [s2.heap.objs.size + 4, s2.heap.objs.size + 2, s2.heap.objs.size + 3, s2.heap.objs.size, s2.heap.objs.size + 1], _, _, H2, rfl, I3,
          turn_zs (zip_sep2 (fp1 := [a]) (fp2 := [b]) (fun c hc => by rw [List.mem_singleton.mp hc]; exact alt) (fun c hc => by rw [List.mem_singleton.mp hc]; exact blt)) hl na nb,
          ⟨hz, hTI, ⟨_, _, hTO⟩, ⟨_, h1, rfl, rfl⟩, ⟨_, h2, rfl, rfl⟩⟩, fun c hc => ?_, q⟩
        have hle : s2.heap.objs.size ≤ c := by
          simp only [List.mem_cons, List.not_mem_nil, or_false] at hc
          rcases hc with z | z | z | z | z <;> rw [z]
          · exact Nat.le_add_right _ _
          · exact Nat.le_add_right _ _
          · exact Nat.le_add_right _ _
          · exact Nat.le_refl _
          · exact Nat.le_add_right _ _
        exact I2.fpOk hle (I2.hok.fresh hle)

/-! ### zip of three tuples -/
def vZip3 (xs ys zs : List V) (i : Nat) : List V := [xs.getD i .non, ys.getD i .non, zs.getD i .non]
abbrev min3 (a b c : Nat) : Nat := min (min a b) c
theorem turn_zip3 {P : Program} {w : World} {K : PySem.W.Frag} {elts : List Expr} {kk : Nat} {tpos : Pos} {a b c z TI TO i1 i2 i3 : Addr} {xs ys zs : List V} (S : ZipSep3 z TI TO i1 i2 i3 [i1, a] [i2, b] [i3, c]) (na : a ≠ i1) (nb : b ≠ i2) (nc : c ≠ i3) :
    Turn P w K (.Tuple elts kk tpos) (ItN (min3 xs.length ys.length zs.length) (fun H => SqT K H a xs ∧ SqT K H b ys ∧ SqT K H c zs) (vZip3 xs ys zs)) [z, TI, TO, i1, i2, i3] z
      (fun i h => IsZip h z TI TO .none ∧ IsTupOf3 h TI (.ref i1) (.ref i2) (.ref i3) ∧ (∃ a1 a2 a3, IsTupOf3 h TO a1 a2 a3) ∧ h.IsTupleIter i1 a i ∧ h.IsTupleIter i2 b i ∧ h.IsTupleIter i3 c i) := by
  refine turn_of (Par := { p : Array Value × Array Value × Array Value // p.1.size = xs.length ∧ p.2.1.size = ys.length ∧ p.2.2.size = zs.length }) (wr := [z, TO, i1, i2, i3]) (fq := fun _ => z :: TI :: TO :: ([i1, a] ++ [i2, b] ++ [i3, c]))
    (St := fun p i h => IsZip h z TI TO .none ∧ IsTupOf3 h TI (.ref i1) (.ref i2) (.ref i3) ∧ (∃ a1 a2 a3, IsTupOf3 h TO a1 a2 a3) ∧ (h.IsTupleIter i1 a i ∧ h.IsTuple a p.1.1) ∧ (h.IsTupleIter i2 b i ∧ h.IsTuple b p.1.2.1) ∧ (h.IsTupleIter i3 c i ∧ h.IsTuple c p.1.2.2))
    (Pt := fun p i vals => ∃ x1 x2 x3, p.1.1[i]? = some x1 ∧ p.1.2.1[i]? = some x2 ∧ p.1.2.2[i]? = some x3 ∧ vals = #[x1, x2, x3]) (by simp) (fun c hc => ?_) (fun i h st c hc => ?_) (fun i h h' st k => ?_) (fun A p hh => ?_) (fun X hP hW hK i pins s σ H Iv hG st hi => ?_)
    (fun p i h st => ⟨st.1, st.2.1, st.2.2.1, st.2.2.2.1.1, st.2.2.2.2.1.1, st.2.2.2.2.2.1⟩) (fun i => by show 3 ≤ sizeLine; decide) (fun A i s Q E st h => wpAny_pyIter_zip st.1 h)
  · simp only [List.mem_cons, List.not_mem_nil, or_false] at hc ⊢
    rcases hc with q | q | q | q | q <;> simp [q]
  · obtain ⟨hz, hTI, ⟨x, y, u, hTO⟩, ⟨o1, e1, _, d1⟩, ⟨o2, e2, _, d2⟩, ⟨o3, e3, _, d3⟩⟩ := st
    simp only [List.mem_cons, List.not_mem_nil, or_false] at hc
    rcases hc with q | q | q | q | q | q
    · rw [q]; exact ⟨_, hz, fun v z => nomatch z⟩
    · rw [q]; exact ⟨_, hTI, fun v z => nomatch z⟩
    · rw [q]; exact ⟨_, hTO, fun v z => nomatch z⟩
    · rw [q]; exact ⟨o1, e1, fun v z => by rw [d1] at z; cases z⟩
    · rw [q]; exact ⟨o2, e2, fun v z => by rw [d2] at z; cases z⟩
    · rw [q]; exact ⟨o3, e3, fun v z => by rw [d3] at z; cases z⟩
  · obtain ⟨hz, hTI, ⟨x, y, u, hTO⟩, h1, h2, h3⟩ := st
    exact ⟨k z (by simp) _ hz, k TI (by simp) _ hTI, ⟨x, y, u, k TO (by simp) _ hTO⟩, h1.at fun o q => k i1 (by simp) o q, h2.at fun o q => k i2 (by simp) o q, h3.at fun o q => k i3 (by simp) o q⟩
  · have D1 : Draws P w A.in1 i1 [i1, a] p.1.1.size (fun i v => p.1.1[i]? = some v) (fun i h => h.IsTupleIter i1 a i ∧ h.IsTuple a p.1.1) := Draws.tuple (A := A.in1) hh i1 a na p.1.1
    have D2 : Draws P w A.in1 i2 [i2, b] p.1.2.1.size (fun i v => p.1.2.1[i]? = some v) (fun i h => h.IsTupleIter i2 b i ∧ h.IsTuple b p.1.2.1) := Draws.tuple (A := A.in1) hh i2 b nb p.1.2.1
    have D3 : Draws P w A.in1 i3 [i3, c] p.1.2.2.size (fun i v => p.1.2.2[i]? = some v) (fun i h => h.IsTupleIter i3 c i ∧ h.IsTuple c p.1.2.2) := Draws.tuple (A := A.in1) hh i3 c nc p.1.2.2
    rw [p.2.1] at D1
    rw [p.2.2.1] at D2
    rw [p.2.2.2] at D3
    exact GoesN.ofWalksT (elts := elts) (k := kk) (pos := tpos) (WalksT.zipD3 S D1 D2 D3)
  · subst hP hW hK
    obtain ⟨its, rv, pt, _⟩ := Iv.tuple hG.1
    obtain ⟨its2, rv2, pt2, _⟩ := Iv.tuple hG.2.1
    obtain ⟨its3, rv3, pt3, _⟩ := Iv.tuple hG.2.2
    have l1 := rv.length
    have l2 := rv2.length
    have l3 := rv3.length
    refine ⟨⟨(its.toArray, its2.toArray, its3.toArray), by simp [l1], by simp [l2], by simp [l3]⟩, ⟨st.1, st.2.1, st.2.2.1, ⟨st.2.2.2.1, pt⟩, ⟨st.2.2.2.2.1, pt2⟩, ⟨st.2.2.2.2.2, pt3⟩⟩, fun vals hi hPt => ?_⟩
    obtain ⟨x1, x2, x3, e1, e2, e3, rfl⟩ := hPt
    have h1 : i < xs.length := by unfold min3 at hi; omega
    have h2 : i < ys.length := by unfold min3 at hi; omega
    have h3 : i < zs.length := by unfold min3 at hi; omega
    exact .cons (vals_at rv h1 e1) (.cons (vals_at rv2 h2 e2) (.cons (vals_at rv3 h3 e3) .nil))
def iZip3 (K : PySem.W.Frag) (ta : TA) : TI := fun σ H R => ta σ H fun vs H1 => ∃ a b c xs ys zs, vs = [.ref a, .ref b, .ref c] ∧ SqT K H1 a xs ∧ SqT K H1 b ys ∧ SqT K H1 c zs ∧
  R (ItN (min3 xs.length ys.length zs.length) (fun H => SqT K H a xs ∧ SqT K H b ys ∧ SqT K H c zs) (vZip3 xs ys zs)) H1
theorem pi_zip3 {X : Cx} {e e2 e3 : Expr} {ta : TA} {p pos tpos : Pos} {elts : List Expr} {kk : Nat} (hg : Gl X "zip") (hm : X.mg "zip" = none) (ha : PA X [e, e2, e3] ta)
    (hs : starEach [e, e2, e3] X.env = (false, eval e X.env) :: starEach [e2, e3] X.env := by rfl) (hpl : (backTo pos (starEach [e2, e3] X.env)).any (·.1) = false := by rfl) :
    PI X (.Tuple elts kk tpos) (.Call (.Name "zip" p) [e, e2, e3] [] pos) (iZip3 X.K ta) := by
  refine ⟨fun pins s σ H R I h => ?_⟩
  refine Call_ (ld_blt I hg hm PyProof.Rows.boot_zip (PyProof.Rows.callWith_type1 (thn (ha.run pos pins s σ H _ I h) fun us s1 ⟨vs, H1, I1, r1, q1⟩ => ?_) hs hpl))
  obtain ⟨a, b, c, xs, ys, zs, ex, hx, hy, hu, q⟩ := q1
  subst ex
  cases r1 with
  | cons ra rr =>
    cases rr with
    | cons rb rr =>
      cases rr with
      | cons rc rr =>
        cases rr
        cases ra
        cases rb
        cases rc
        obtain ⟨its, rv, pt, _⟩ := I1.tuple hx
        obtain ⟨its2, rv2, pt2, _⟩ := I1.tuple hy
        obtain ⟨its3, rv3, pt3, _⟩ := I1.tuple hu
        have alt : a < s1.heap.objs.size := let ⟨_, e, _⟩ := pt; Heap.lt_size e
        have blt : b < s1.heap.objs.size := let ⟨_, e, _⟩ := pt2; Heap.lt_size e
        have clt : c < s1.heap.objs.size := let ⟨_, e, _⟩ := pt3; Heap.lt_size e
        refine zip_begins3 (begins_tuple a its.toArray) (begins_tuple b its2.toArray) (begins_tuple c its3.toArray) pt pt2 pt3 fun h' hz hTI hTO h1 h2 h3 hsz hk => wpAny_pyIter_zip hz ?_
        have I2 : Inv X pins σ H1 { s1 with heap := h' } := I1.kept (t' := s1.toks) hk
        refine ⟨s1.heap.objs.size + 5, [s1.heap.objs.size + 5, s1.heap.objs.size + 3, s1.heap.objs.size + 4, s1.heap.objs.size, s1.heap.objs.size + 1, s1.heap.objs.size + 2], _, _, H1, rfl, I2,
          turn_zip3 (zip_sep3 (fp1 := [a]) (fp2 := [b]) (fp3 := [c]) (fun d hd => by rw [List.mem_singleton.mp hd]; exact alt) (fun d hd => by rw [List.mem_singleton.mp hd]; exact blt) (fun d hd => by rw [List.mem_singleton.mp hd]; exact clt))
            (Nat.ne_of_lt alt) (new_apart blt) (new_apart clt), ⟨hz, hTI, ⟨_, _, _, hTO⟩, ⟨_, h1, rfl, rfl⟩, ⟨_, h2, rfl, rfl⟩, ⟨_, h3, rfl, rfl⟩⟩, fun d hd => ?_, q⟩
        have hle : s1.heap.objs.size ≤ d := by
          simp only [List.mem_cons, List.not_mem_nil, or_false] at hd
          rcases hd with z | z | z | z | z | z <;> rw [z]
          · exact Nat.le_add_right _ _
          · exact Nat.le_add_right _ _
          · exact Nat.le_add_right _ _
          · exact Nat.le_refl _
          · exact Nat.le_add_right _ _
          · exact Nat.le_add_right _ _
        exact I1.fpOk hle (I1.hok.fresh hle)
end Cv

set_option maxRecDepth 100000
set_option maxHeartbeats 4000000
/-! min(xs, default=None), t.index(None), (None,) * n, powers of great ints: as the layer's rules. -/
namespace Cv
open PySem PySem.Spec PyProof.Rows L2
section
variable {X : Cx}

/-! ### t.index(None) -/
theorem eqV_non {y : V} (h : flatV y = true) : eqV y .non = decide (y = .non) := by
  cases y <;> first | rfl | (simp [flatV] at h) | simp [eqV]
def rIdxN (K : PySem.W.Frag) : V → List V → Hp → VK → Prop := fun x xs H Q => ∃ (p : Addr) (ys : List V), x = .ref p ∧ xs = [.non] ∧ SqT K H p ys ∧ ys.all flatV = true ∧ V.non ∈ ys ∧ Q (.int (ys.idxOf V.non : Nat)) H
theorem mt_idxN : MtR X "tuple.index" (rIdxN X.K) := by
  intro pins s σ H x xs v us Q I rx rs h
  obtain ⟨p, ys, rfl, rfl, hq, hf, hm, q⟩ := h
  cases rx
  obtain ⟨u, rfl, ru⟩ := vals1 rs
  obtain ⟨its, r, pl, hz⟩ := I.tuple hq
  refine SeqAt.call_tuple_index (vs := its) (ks := ys) (k := V.non) pl ⟨r.length.symm, fun j h1 h2 => ?_⟩ hm ⟨.int (ys.idxOf V.non : Nat), H, I.tok _, ⟨_, rfl⟩, q⟩
  obtain ⟨w, hw, rw'⟩ := r.get (i := j) (x := ys[j]) (List.getElem?_eq_getElem h2)
  rw [List.getElem?_eq_getElem h1] at hw
  have e := Option.some.inj hw
  have fy : flatV ys[j] = true := List.all_eq_true.mp hf _ (List.getElem_mem h2)
  rw [← eqV_non fy, e]
  exact eqAt_V rw' ru fy rfl

/-! ### t * n -/
open AutoSeq1 (wpAny_loadPart') in
theorem tuple_mul1 (l : Addr) (items : Array Value) (n : Nat) (dd : Option Addr) (sl : Array (Option Value)) (u : Tok) :
    Meets (Builtin.«tuple.__mul__» ⟨[.ref l, .int 1 u], []⟩) (fun _ R s => s.heap.get? l = some { cls := .type "tuple", dict := dd, data := .seq items n, slots := sl } ∧ R (.ok (.ret (Value.ref l))) s) :=
  .of_wp fun prog w A R s h => by
    obtain ⟨hp, g, d, tk, os⟩ := s
    obtain ⟨hl, h⟩ := h
    have f1 := AutoSeq1.idx_int
    wp_walk using wpAny_loadPart' hl
    exact ⟨_, rfl, h⟩
def rRepOne (K : PySem.W.Frag) : R2 := fun x y H Q => ∃ l xs, x = .ref l ∧ y = .int 1 ∧ SqT K H l xs ∧ Q (.ref l) H
theorem op_repOne : OpR X (binaryOp .Mult) (rRepOne X.K) := by
  intro pins s σ H x y v u Q I rx ry h
  obtain ⟨l, xs, rfl, rfl, hT, q⟩ := h
  cases rx
  obtain ⟨t, rfl⟩ := ry
  obtain ⟨its, r, ⟨⟨cls, dd, data, sl⟩, ho, hc, n, hd⟩, hs⟩ := I.tuple hT
  simp only at hc hd
  subst hc hd
  refine wpAny_binaryOp_repeat_ref (T := "tuple") (U := "int") (by decide) ⟨_, ho, rfl⟩ (fun s' => typeIs_int s' 1 t) noFill_tuple_mul F.fills_int_mul F.slot_int_rmul repeat_tuple F.slot_int_index.lookup
    (call_meets F.slot_int_rmul (typeIs_int s 1 t) F.entry_int_rmul (F.args_int_rmul_2 _ _) (int_rmul_tuple 1 t l its.toArray n dd sl)
      ⟨ho, rfl, ⟨_, ho, rfl⟩, call_meets F.slot_tuple_mul ⟨_, ho, rfl⟩ F.entry_tuple_mul (F.args_tuple_mul_2 _ _) (tuple_mul1 l its.toArray n dd sl t) ⟨ho, ?_⟩⟩)
  exact ⟨.ref l, H, I, rfl, q⟩

/-! ### powers -/
def rPow : R2 := fun x y H Q => ∃ i j, x = .int i ∧ y = .int j ∧ 0 ≤ j ∧ (Builtin.Int.intBits i : Int) * j ≤ 2 ^ 27 ∧ Q (.int (i ^ j.toNat)) H
theorem op_powW : OpR X (binaryOp .Pow) rPow := by
  intro pins s σ H x y v u Q I rx ry h
  obtain ⟨i, j, rfl, rfl, h0, h1, q⟩ := h
  obtain ⟨t, rfl⟩ := rx
  obtain ⟨t', rfl⟩ := ry
  exact pow_int h0 h1 ⟨.int _, H, I.tok _, ⟨_, rfl⟩, q⟩

/-! ### min(xs, default=None) -/
theorem reads_ints {h : Heap} : ∀ {ns : List Int} {us : List Value}, Vals (ns.map V.int) us → ∃ as, ReadsAll h us (ns.map PyData.int) as
  | [], _, .nil => ⟨_, .nil⟩
  | n :: ns, _, .cons r t => by
    obtain ⟨k, rfl⟩ := r
    obtain ⟨as, ih⟩ := reads_ints (ns := ns) t
    exact ⟨_, .cons (.int _ _) ih⟩
def rMinN (K : PySem.W.Frag) : List V → List V → Hp → VK → Prop := fun vs zs H Q => ∃ (a : Addr) (ns : List Int), vs = [.ref a] ∧ zs = [.non] ∧ SqL K H a (ns.map V.int) ∧ (ns = [] → Q .non H) ∧ (ns ≠ [] → ∀ m, Q (.int m) H)
theorem cr_minN (hc : X.calm = true) (hu : X.A.units + 64 < cLine) : CallRK X (.builtin "min") [Str.ofString "default"] (rMinN X.K) := by
  intro pins s σ H vs zs us ws Q I r rz h
  obtain ⟨a, ns, rfl, rfl, hs, q0, q1⟩ := h
  obtain ⟨its, rv, pl, _⟩ := I.list hs
  obtain ⟨u, rfl, ru⟩ := vals1 r
  obtain ⟨z, rfl, rz'⟩ := vals1 rz
  cases ru
  cases rz'
  obtain ⟨as, hr⟩ := reads_ints (h := s.heap) rv
  refine PySem.W.min_list_default (I.ok.hd hc) pl.isList (by simpa using hr) ?_ ?_ (fun h0 h' tk hk => ?_) (fun y ys i v h' tk bs e hv hR hk => ?_)
  · refine ⟨fun x hx y hy => ?_, fun x hx => ?_⟩
    · obtain ⟨i, _, rfl⟩ := List.mem_map.mp hx
      obtain ⟨j, _, rfl⟩ := List.mem_map.mp hy
      rfl
    · obtain ⟨i, _, rfl⟩ := List.mem_map.mp hx
      exact fun e => nomatch e
  · have hd : ∀ ms : List Int, PyData.depthAll (ms.map PyData.int) ≤ 1 := fun ms => by
      induction ms with
      | nil => simp [PyData.depthAll]
      | cons m ms ih =>
        rw [List.map_cons, PyData.depthAll]
        exact Nat.max_le.mpr ⟨by simp [PyData.depth], ih⟩
    have := hd ns
    omega
  · exact ⟨.non, H, I.kept (t' := tk) hk, rfl, q0 (by simpa using h0)⟩
  · cases ns with
    | nil => cases e
    | cons n ns =>
      rw [List.map_cons] at e
      injection e with e1 e2
      rw [← e1, ← e2, PySem.W.minD_ints] at hR
      cases hR
      exact ⟨.int _, H, I.kept (t' := tk) hk, ⟨_, rfl⟩, q1 (by simp) _⟩
end
end Cv

set_option maxRecDepth 100000
set_option maxHeartbeats 4000000
/-! len(set(t)), t a tuple of unlike texts. -/
namespace Cv
open PySem PySem.Spec PyProof.Rows L2

theorem fresh_at {xs : List Str} (hn : xs.Nodup) {i : Nat} (hi : i < xs.length) : xs[i] ∉ xs.take i := fun hm => by
  obtain ⟨j, hj, e⟩ := List.mem_iff_getElem.mp hm
  rw [List.length_take] at hj
  rw [List.getElem_take] at e
  have := (List.getElem_inj hn).mp e
  omega

section
variable {prog : Program} {w : World} {A : Around} {R : Result → Shared → Prop} {I : Addr} {fp wr : List Addr} {G : Array GenState → Array GenState → Prop} {Pv : Nat → Value → Prop} {Sv : Nat → Shared → Prop}
/-- the set's texts so far -/
abbrev SetUpTo (prog : Program) (w : World) (h : Heap) (a : Addr) (xs : List Str) (i : Nat) : Prop := h.SetOf (PySem.strKind prog w) a (fun k => decide (k ∈ xs.take i)) i
theorem fill_set {xs : List Str} (hn : xs.Nodup) (hb : xs.length + 1 < scanBound) (W : WalksS prog w A.in1 I fp wr G xs.length Pv Sv) (a : Addr) (ha : a ∉ fp) (hv : ∀ i v, i < xs.length → Pv i v → ∃ t, v = .str (xs.getD i Str.empty) t) :
    ∀ (left i : Nat) (s : Shared), xs.length - i = left → i ≤ xs.length → Sv i s → SetUpTo prog w s.heap a xs i →
      (∀ s', Moved (a :: wr) G s s' → SetUpTo prog w s'.heap a xs xs.length → R (.ok (.ret .none)) s') →
      codeAny (model prog w) A (.builtin "set.update.loop" ⟨[.ref a, .ref I], []⟩) R s := by
  have haw : a ∉ wr := fun h => ha (W.sub _ h)
  have wider : ∀ b ∈ wr, b ∈ a :: wr := fun b hb => List.mem_cons_of_mem _ hb
  have moved : ∀ {s s' : Shared} {i : Nat}, Moved wr G s s' → SetUpTo prog w s.heap a xs i → SetUpTo prog w s'.heap a xs i := fun hm ⟨o, es, ep, t, ho, more⟩ => ⟨o, es, ep, t, hm.heap a _ haw ho, more⟩
  intro left
  induction left with
  | zero =>
    intro i s hk hi hst hS hR
    obtain rfl : i = xs.length := by omega
    refine codeAny_builtin PyProof.Rows.F.entry_set_update_loop ?_
    rw [Around.under_plainId PyProof.Rows.F.plain_set_update_loop _]
    show wpAny _ A.in1 (pyNext (.ref I) >>= _) _ _ s
    exact wpAny_bind (W.done s _ _ hst fun s' hm => wpAny_pure (hR s' (hm.mono wider) (moved hm hS)))
  | succ left ih =>
    intro i s hk hi hst hS hR
    have hlt : i < xs.length := by omega
    refine codeAny_builtin PyProof.Rows.F.entry_set_update_loop ?_
    rw [Around.under_plainId PyProof.Rows.F.plain_set_update_loop _]
    show wpAny _ A.in1 (pyNext (.ref I) >>= _) _ _ s
    refine wpAny_bind (W.item i s _ _ hlt hst fun v s' hP hst' hm => ?_)
    obtain ⟨t, rfl⟩ := hv i v hlt hP
    have ex : xs.getD i Str.empty = xs[i] := getD_lt hlt
    rw [ex]
    show wpAny _ A.in1 (holding [Value.str xs[i] t] (setAdd a (.str xs[i] t)) >>= _) _ _ s'
    refine wpAny_bind (wpAny_holding ?_)
    unfold setAdd
    refine wpAny_holding ?_
    refine wpAny_bind ((PySem.strKind prog w).pyHash (k := xs[i]) (strKind_is _ _ _ _) ?_)
    refine wpAny_setAddHashed_of (knd := PySem.strKind prog w) (s := { s' with toks := s'.toks + 1 }) (strKind_is _ _ _ _) rfl (show SetUpTo prog w s'.heap a xs i from moved hm hS) (by omega) fun h' same hS2 => ?_
    have more : SetUpTo prog w h' a xs (i + 1) := by
      refine SetOf_congr hS2 (fun k => ?_) ?_
      · rw [List.take_succ_eq_append_getElem hlt, Bool.eq_iff_iff]
        simp only [Bool.or_eq_true, decide_eq_true_eq, List.mem_append, List.mem_singleton]
      · rw [decide_eq_false (fresh_at hn hlt)]
        rfl
    refine wpAny_pure ⟨plainId_quiet PyProof.Rows.F.plain_set_update_loop _, ih (i + 1) _ (by omega) hlt (W.frame _ s' _ _ hst' (Nat.le_succ _) fun b hb o e => ?_) more fun s'' hm'' hS'' => ?_⟩
    · rw [same.2 b (fun h : b = a => ha (by rw [← h]; exact hb))]
      exact e
    · refine hR s'' (Moved.trans W.gtrans ((hm.mono wider).then_heap (Nat.le_succ _) fun b o hb e => ?_) hm'') hS''
      rw [same.2 b (fun h : b = a => hb (by rw [h]; exact List.mem_cons_self))]
      exact e
end

section
variable {prog : Program} {w : World} {A : Around} {E : Value → Shared → Prop} {s : Shared}
abbrev emptySet (led : Bool) : Obj := { cls := .type "set", dict := none, data := .set #[] 0 (.fresh 0 0 led) }
set_option maxHeartbeats 3200000 in
theorem call_set_texts {l : Addr} {items : Array Value} {xs : List Str} {Q : Value → Shared → Prop} (hh : A.handled = none) (hl : s.heap.IsTuple l items) (hi : PyProof.Rows.StrsAre items.toList xs) (hn : xs.Nodup) (hb : xs.length + 1 < scanBound)
    (h : ∀ (h' : Heap) (tk : Nat), SetUpTo prog w h' s.heap.objs.size xs xs.length → (∀ b o, s.heap.get? b = some o → h'.get? b = some o) → Q (.ref s.heap.objs.size) { s with heap := h', toks := tk }) :
    wpAny (model prog w) A (call (.type "set") [.ref l]) Q E s := by
  have len : items.size = xs.length := by rw [← Array.length_toList, StrsAre.len_eq hi]
  obtain ⟨c, tl, hmro⟩ := PySem.F.called_set.mro
  have hmade := PySem.F.called_set.made
  have hsub := PySem.F.called_set.sub
  refine wpAny_call (codeAny_of_tree ?_)
  show wpAny _ _ (callAny (.type "set") _) _ _ _
  refine wpAny_pure ⟨Code.quiet_builtin _ (by decide +kernel), codeAny_builtin PySem.F.entry_type_call ?_⟩
  rw [Around.under_plain (weight_type_call_type "set" [.ref l] []) rfl]
  have h1 := PySem.F.called_set.notType
  have h2 := PySem.F.called_set.canCreate
  have hct := PySem.F.typeCall_set_1 (.ref l)
  repeat (any_goals (first | assumption | wp_step))
  -- the new set
  refine codeAny_mono (code_set_new_1 (.ref l) (E := E) (Q₁ := fun obj s₁ => ∃ led : Bool, obj = .ref s.heap.objs.size ∧ s₁ = { s with heap := s.heap.push (emptySet led) }) fun led => ⟨led, rfl, rfl⟩) fun r s₁ hr => ?_
  match r, hr with
  | .ok (.ret obj), hr =>
    obtain ⟨led, rfl, rfl⟩ := hr
    have hS : (s.heap.push (emptySet led)).get? s.heap.objs.size = some (emptySet led) := Heap.get?_push_size _ rfl
    have hT : Shared.TypeIs { s with heap := s.heap.push (emptySet led) } (.ref s.heap.objs.size) "set" := ⟨_, hS, rfl⟩
    have hli := PySem.F.called_set.init.lookup
    have hbi := PySem.F.called_set.init.bind (.ref s.heap.objs.size)
    repeat (any_goals (first | assumption | wp_step))
    -- filled
    refine codeAny_mono (codeAny_call_builtin (R := wants (fun r s₂ => r = .none ∧ ∃ h' tk, s₂ = { s with heap := h', toks := tk } ∧ SetUpTo prog w h' s.heap.objs.size xs xs.length ∧ (∀ b o, s.heap.get? b = some o → h'.get? b = some o)) E)
      PySem.F.called_set.init.plain PySem.F.entry_set_init (check_set_init_1 hT ?_)) fun r₂ s₂ hr₂ => ?_
    · obtain ⟨⟨ocls, odict, odata, oslots⟩, hol, hcl, nl, hdl⟩ := hl
      simp only at hcl hdl
      subst hcl hdl
      have hol' : (s.heap.push (emptySet led)).get? l = some { cls := .type "tuple", dict := odict, data := .seq items nl, slots := oslots } := Heap.get?_push_of_some _ hol
      have hsls := PySem.F.sub_tuple_set
      have hslf := PySem.F.sub_tuple_frozenset
      have hne : (Value.type "tuple" == Value.type "dict") = false := by decide
      have hl1 : (s.heap.push (emptySet led)).IsTuple l items := ⟨_, hol', rfl, nl, rfl⟩
      unfold Builtin.«set.__init__» noKeywords Builtin.Frozenset.updateFrom
      generalize hPI : pyIter = PI
      wp_walk
      subst hPI
      refine wpAny_pyIter_tuple hl1 ?_
      refine wpAny_bind (wpAny_runValue ?_)
      have below : l < s.heap.objs.size := Heap.lt_size hol
      have hh3 : A.in1.in1.in1.handled = none := by simp [hh]
      have size1 : (s.heap.push (emptySet led)).objs.size = s.heap.objs.size + 1 := Heap.size_push ..
      have apart : l ≠ (s.heap.push (emptySet led)).objs.size := by rw [size1]; exact Nat.ne_of_lt (Nat.lt_succ_of_lt below)
      have outside : s.heap.objs.size ∉ [(s.heap.push (emptySet led)).objs.size, l] := by
        rw [size1]
        intro z
        rcases List.mem_cons.mp z with z | z
        · exact absurd z (Nat.ne_of_lt (Nat.lt_succ_self _))
        · exact absurd (List.mem_singleton.mp z) (Nat.ne_of_gt below)
      have W := (Walks.tuple (prog := prog) (w := w) hh3 _ l apart items).toS
      rw [len] at W
      refine fill_set hn hb W s.heap.objs.size outside (fun i v _ hv => SS.strs_at hi i v (by rw [Array.getElem?_toList]; exact hv)) (xs.length - 0) 0 _ rfl (Nat.zero_le _)
        ⟨⟨_, Heap.get?_push_size _ rfl, rfl, rfl⟩, hl1.push _⟩ ?first ?last
      case first =>
        have hget : ((s.heap.push (emptySet led)).push { cls := .type "tuple_iterator", data := .fields #[.ref l, .int 0 0] }).get? s.heap.objs.size = some (emptySet led) := Heap.get?_push_of_some _ hS
        exact SetOf_congr ((PyProof.Rows.setObjOf_fresh (knd := PySem.strKind prog w) led).setOf hget (by unfold scanBound; omega)) (fun _ => by simp) rfl
      case last =>
        rintro ⟨h', g', d', tk', os'⟩ hm hS'
        have eg : g' = s.gens := hm.gens
        have ed : d' = s.drawn := hm.drawn
        have eo : os' = s.os := hm.os
        subst eg ed eo
        show wpAny _ _ _ _ _ _
        refine wpAny_pure ?_
        show wpAny _ _ (ret Value.none) _ _ _
        refine wpAny_pure ⟨rfl, h', tk', rfl, hS', fun b o e => hm.heap b o (fun z => ?_) (Heap.get?_push_of_some _ (Heap.get?_push_of_some _ e))⟩
        have hb0 := Heap.lt_size e
        rcases List.mem_cons.mp z with z | z
        · rw [z] at hb0; exact absurd hb0 (Nat.lt_irrefl _)
        · rw [List.mem_singleton.mp z, size1] at hb0; exact absurd hb0 (Nat.not_lt.mpr (Nat.le_succ _))
    · match r₂, hr₂ with
      | .ok (.ret r), hr₂ =>
        obtain ⟨rfl, h', tk, rfl, hS', hk'⟩ := hr₂
        repeat (any_goals (first | assumption | wp_step))
        exact h _ _ hS' hk'
      | .error e, hr₂ => exact hr₂
  | .error e, hr => exact hr
end

/-- len(set(t)) -/
def tLenSetN (K : PySem.W.Frag) (ta : TE) : TE := fun σ H Q => ta σ H fun x H1 => ∃ (l : Addr) (xs : List Str), x = .ref l ∧ SqT K H1 l (xs.map V.str) ∧ xs.Nodup ∧ xs.length ≤ 100 ∧ Q (.int (xs.length : Nat)) H1
theorem pe_lenSetN {X : Cx} {a : Expr} {ta : TE} {p p2 q pos : Pos} (hg : Gl X "len") (hm : X.mg "len" = none) (hg2 : Gl X "set") (hm2 : X.mg "set" = none) (ha : PE X a ta) (hc : X.calm = true := by rfl)
    (na : starEach [a] X.env = (false, eval a X.env) :: starEach [] X.env := by rfl) : PE X (.Call (.Name "len" p) [.Call (.Name "set" p2) [a] [] q] [] pos) (tLenSetN X.K ta) := by
  refine ⟨fun pins s σ H Q I h => ?_⟩
  refine Call_ (ld_blt I hg hm boot_len ?_)
  refine PyProof.Rows.callWith_builtin1 (PyProof.Rows.args_cons ?_ rfl) rfl rfl
  refine Call_ (ld_blt I hg2 hm2 boot_set ?_)
  refine PyProof.Rows.callWith_type1 (PyProof.Rows.args_cons (thn (ha.run pins s σ H _ I h) fun v s1 ⟨x, H1, I1, r1, q1⟩ => PyProof.Rows.args_nil ?_) na) na rfl
  obtain ⟨l, xs, rfl, hq, hnd, hl, q1⟩ := q1
  cases r1
  obtain ⟨its, r, pl, hz⟩ := I1.tuple hq
  refine call_set_texts (I1.ok.hd hc) pl (by simpa using strsAre_of r) hnd (by unfold scanBound; omega) fun h' tk hS hk => PyProof.Rows.args_nil ?_
  obtain ⟨o, es, ep, t, ho, hex, hd, _, _, _, hf, hn⟩ := hS
  have I2 : Inv X pins σ H1 { s1 with heap := h', toks := tk } := I1.kept hk
  exact call_len_set ho hex hd hf (by rw [hn]; omega) ⟨.int xs.length, H1, I2.tok _, ⟨_, by rw [hn]⟩, q1⟩
end Cv

set_option maxRecDepth 100000
set_option maxHeartbeats 4000000
/-! How the program's data stand in the heap; what is good data; small readings. -/
namespace Cv
open PySem PySem.Spec PyProof.Rows L2

def topS (i : Nat) : Stmt := PySem.Challenge.pw_countveil_k13_whole_mends_changed.main.body.getD i (.Pass ⟨0, 0, 0, 0⟩)
/-- a def of the top, under its name -/
abbrev At (K : PySem.W.Frag) (mg : Str → Option Value) (x : Str) (st : Stmt) : Prop := ∃ f fd, L2.Fun K x x st f fd ∧ mg x = some (.ref f)
/-- a module's name that holds a value -/
abbrev HasV (mg : Str → Option Value) (x : Str) (v : V) : Prop := ∃ u, mg x = some u ∧ RelV v u

section
variable {P : Program} {w : World} {K : PySem.W.Frag} {mg : Str → Option Value} {base : Heap}
theorem cal_of {x : Str} {st : Stmt} {N ps : List Str} {k : Nat} {sp : Sp} (D : At K mg x st) (S : FnScope N ps (defScope st)) (len : ∀ vs H Q E, sp vs H Q E → vs.length = ps.length)
    (hb : ∀ (kV doc pm : Value) (an : Option Addr) (cdv ct : Value) (us : List Value), us.length = ps.length → bindArgs (PySem.W.fnOf x x (defArgs st) (defBody st) (defScope st) .none kV doc pm an cdv ct) ⟨us, []⟩ = pure (ps.zip us))
    (hbody : ∀ (f : Addr) (cdv : Value) (A : Around) (outer : List Env) (s : Shared) (H : Hp) (vs : List V) (Q : VK) (E : XK), Room k (A.deeper (envOfC x (defScope st) s.heap.objs.size f cdv)) → sp vs H Q E →
      ∃ t, PSs (cxOf L2.CX0 P w K mg base N x (defScope st) f cdv A outer s H E).nox (defBody st) t ∧ t { nx := fun _ H' => Q .non H', rt := Q } (start N vs) H) : C8.Cal P w K mg base (k + 1) x sp [] := by
  obtain ⟨f, fd, F, hm⟩ := D
  exact ⟨f, fd, ps, [], F.ok S len (hbody f), hm, F.kp, F.binds hb, .nil⟩

/-- the top's names that the walk asks -/
structure Top (mg : Str → Option Value) : Prop where
  isinstance : mg "isinstance" = none
  len : mg "len" = none
  all : mg "all" = none
  any : mg "any" = none
  set : mg "set" = none
  zip : mg "zip" = none
  enumerate : mg "enumerate" = none
  min : mg "min" = none
  sum : mg "sum" = none
  range : mg "range" = none
  tuple : mg "tuple" = none
  list : mg "list" = none
  abs : mg "abs" = none
  int : mg "int" = none
  bool : mg "bool" = none
  str : mg "str" = none
  SMALL : HasV mg "SMALL" (.str "abcdefghijklmnopqrstuvwxyz")
  LONGEST_NAME : HasV mg "LONGEST_NAME" (.int 8)
  LONGEST_CODE : HasV mg "LONGEST_CODE" (.int 4)
  MOST_SORTS : HasV mg "MOST_SORTS" (.int 4)
  LEAST_CODES : HasV mg "LEAST_CODES" (.int 2)
  MOST_CODES : HasV mg "MOST_CODES" (.int 6)
  MOST_MEASURE : HasV mg "MOST_MEASURE" (.int 1000000)
  MOST_RULES : HasV mg "MOST_RULES" (.int 20)
  MOST_COST : HasV mg "MOST_COST" (.int 1000)
end

/-! ### heaps -/
theorem same_upd {H : Hp} {p : Addr} {o : HO} (h : H p = none) : Same H (upd H p o) := fun b x e => by
  rw [upd_ne (ne_of_none e h)]
  exact e
/-- tuples stand -/
structure Tups (H H' : Hp) : Prop where
  tup : ∀ a xs, H a = some (.tup xs) → H' a = some (.tup xs)
  frz : ∀ a o u, H a = some (.frz o u) → H' a = some (.frz o u)
theorem Same.tups {H H' : Hp} (s : Same H H') : Tups H H' := ⟨fun _ _ e => s _ _ e, fun _ _ _ e => s _ _ e⟩
theorem Tups.refl (H : Hp) : Tups H H := ⟨fun _ _ e => e, fun _ _ _ e => e⟩
theorem Tups.trans {H H1 H2 : Hp} (a : Tups H H1) (b : Tups H1 H2) : Tups H H2 := ⟨fun c xs e => b.tup c xs (a.tup c xs e), fun c o u e => b.frz c o u (a.frz c o u e)⟩
section
variable {K : PySem.W.Frag} {H H' : Hp}
theorem Tups.seq (t : Tups H H') {a : Addr} {xs : List V} (h : SqT K H a xs) : SqT K H' a xs := by
  rcases h with (h | ⟨o, h⟩) | h
  · exact .inl (.inl (t.tup _ _ h))
  · exact .inl (.inr ⟨o, t.frz _ _ _ h⟩)
  · exact .inr h
theorem sqT {a : Addr} {xs : List V} (h : H a = some (.tup xs)) : SqT K H a xs := .inl (.inl h)
theorem sqL {a : Addr} {xs : List V} (h : H a = some (.lst xs)) : SqL K H a xs := .inl (.inl h)
theorem paired_imp {α β : Type} {F G : α → β → Prop} {l : List α} {m : List β} (h : Paired F l m) (k : ∀ a b, F a b → G a b) : Paired G l m := L2.Paired.mapP h k
theorem paired_len {α β : Type} {F : α → β → Prop} {l : List α} {m : List β} (h : Paired F l m) : l.length = m.length := Paired.length h
theorem paired_get {α β : Type} {F : α → β → Prop} : ∀ {l : List α} {m : List β} {i : Nat} {a : α}, Paired F l m → l[i]? = some a → ∃ b, m[i]? = some b ∧ F a b
  | _, _, _, _, .nil, e => by simp at e
  | _, _, 0, _, .cons r _, e => by simp at e; subst e; exact ⟨_, rfl, r⟩
  | _, _, i + 1, a, .cons _ t, e => by
    obtain ⟨b, h1, h2⟩ := paired_get (i := i) (a := a) t (by simpa using e)
    exact ⟨b, by simpa using h1, h2⟩
theorem paired_back {α β : Type} {F : α → β → Prop} : ∀ {l : List α} {m : List β} {i : Nat} {b : β}, Paired F l m → m[i]? = some b → ∃ a, l[i]? = some a ∧ F a b
  | _, _, _, _, .nil, e => by simp at e
  | _, _, 0, _, .cons r _, e => by simp at e; subst e; exact ⟨_, rfl, r⟩
  | _, _, i + 1, a, .cons _ t, e => by
    obtain ⟨b, h1, h2⟩ := paired_back (i := i) (b := a) t (by simpa using e)
    exact ⟨b, by simpa using h1, h2⟩
theorem paired_snoc {α β : Type} {F : α → β → Prop} : ∀ {l : List α} {m : List β} {a : α} {b : β}, Paired F l m → F a b → Paired F (l ++ [a]) (m ++ [b])
  | _, _, _, _, .nil, h => .cons h .nil
  | _, _, _, _, .cons r t, h => .cons r (paired_snoc t h)

/-! ### the data -/
abbrev PSort := Str × List Str
abbrev Rule := List (Option (List Str))
def oV : Option Str → V
  | none => .non
  | some z => .str z
variable (K H)
def IsTs (v : V) (cs : List Str) : Prop := ∃ a, v = .ref a ∧ SqT K H a (cs.map V.str)
def IsSort (v : V) (s : PSort) : Prop := ∃ a c, v = .ref a ∧ SqT K H a [.str s.1, c] ∧ IsTs K H c s.2
def IsPlan (v : V) (P : List PSort) : Prop := ∃ a vs, v = .ref a ∧ SqT K H a vs ∧ Paired (IsSort K H) vs P
def IsNamed (v : V) : Option (List Str) → Prop
  | none => v = .non
  | some cs => IsTs K H v cs
def IsRule (v : V) (r : Rule) : Prop := ∃ a vs, v = .ref a ∧ SqT K H a vs ∧ Paired (IsNamed K H) vs r
/-- rules at a list that may be read -/
def IsRules (v : V) (R : List Rule) : Prop := ∃ a vs, v = .ref a ∧ H a = some (.lst vs) ∧ Paired (IsRule K H) vs R
def IsRow (v : V) (cs : List (Option Str)) : Prop := ∃ a, v = .ref a ∧ SqT K H a (cs.map oV)
def IsRec (v : V) (cs : List (Option Str)) (m : Int) : Prop := ∃ a, v = .ref a ∧ SqT K H a (cs.map oV ++ [.int m])
def IsCosts (v : V) (C : List Int) : Prop := ∃ a, v = .ref a ∧ SqT K H a (C.map V.int)
variable {K H}
theorem IsTs.mono (t : Tups H H') {v : V} {cs : List Str} : IsTs K H v cs → IsTs K H' v cs := fun ⟨a, e, h⟩ => ⟨a, e, t.seq h⟩
theorem IsSort.mono (t : Tups H H') {v : V} {s : PSort} : IsSort K H v s → IsSort K H' v s := fun ⟨a, c, e, h, g⟩ => ⟨a, c, e, t.seq h, g.mono t⟩
theorem IsPlan.mono (t : Tups H H') {v : V} {P : List PSort} : IsPlan K H v P → IsPlan K H' v P := fun ⟨a, vs, e, h, g⟩ => ⟨a, vs, e, t.seq h, paired_imp g fun _ _ => IsSort.mono t⟩
theorem IsNamed.mono (t : Tups H H') {v : V} : ∀ {n : Option (List Str)}, IsNamed K H v n → IsNamed K H' v n
  | none, h => h
  | some _, h => IsTs.mono t h
theorem IsRule.mono (t : Tups H H') {v : V} {r : Rule} : IsRule K H v r → IsRule K H' v r := fun ⟨a, vs, e, h, g⟩ => ⟨a, vs, e, t.seq h, paired_imp g fun _ _ => IsNamed.mono t⟩
theorem IsRules.mono (s : Same H H') {v : V} {R : List Rule} : IsRules K H v R → IsRules K H' v R := fun ⟨a, vs, e, h, g⟩ => ⟨a, vs, e, s _ _ h, paired_imp g fun _ _ => IsRule.mono (Same.tups s)⟩
theorem IsRow.mono (t : Tups H H') {v : V} {cs : List (Option Str)} : IsRow K H v cs → IsRow K H' v cs := fun ⟨a, e, h⟩ => ⟨a, e, t.seq h⟩
theorem IsRec.mono (t : Tups H H') {v : V} {cs : List (Option Str)} {m : Int} : IsRec K H v cs m → IsRec K H' v cs m := fun ⟨a, e, h⟩ => ⟨a, e, t.seq h⟩
theorem IsCosts.mono (t : Tups H H') {v : V} {C : List Int} : IsCosts K H v C → IsCosts K H' v C := fun ⟨a, e, h⟩ => ⟨a, e, t.seq h⟩

/-! ### good data -/
abbrev small : Str := "abcdefghijklmnopqrstuvwxyz"
structure Word (z : Str) (n : Nat) : Prop where
  lo : 1 ≤ z.length
  hi : z.length ≤ n
  signs : ∀ c ∈ z.cps.toList, c ∈ small.cps.toList
structure GoodCodes (cs : List Str) : Prop where
  lo : 2 ≤ cs.length
  hi : cs.length ≤ 6
  code : ∀ c ∈ cs, Word c 4
  nd : cs.Nodup
structure GoodSort (s : PSort) : Prop where
  name : Word s.1 8
  codes : GoodCodes s.2
structure GoodPlan (P : List PSort) : Prop where
  lo : 1 ≤ P.length
  hi : P.length ≤ 4
  sort : ∀ s ∈ P, GoodSort s
  nd : (P.map (·.1)).Nodup
def GoodNamed (cs : List Str) : Option (List Str) → Prop
  | none => True
  | some ns => ns ≠ [] ∧ ns.Nodup ∧ (∀ c ∈ ns, c ∈ cs) ∧ ns.length ≤ 6
structure GoodRule (P : List PSort) (r : Rule) : Prop where
  len : r.length = P.length
  each : ∀ (i : Nat) s n, P[i]? = some s → r[i]? = some n → GoodNamed s.2 n
  some : ∃ n ∈ r, n ≠ none
structure GoodRules (P : List PSort) (R : List Rule) : Prop where
  few : R.length ≤ 20
  each : ∀ r ∈ R, GoodRule P r
structure GoodCosts (P : List PSort) (C : List Int) : Prop where
  len : C.length = P.length
  each : ∀ c ∈ C, 1 ≤ c ∧ c ≤ 1000
structure GoodRow (P : List PSort) (cs : List (Option Str)) : Prop where
  len : cs.length = P.length
  each : ∀ (i : Nat) s c, P[i]? = some s → cs[i]? = some (some c) → c ∈ s.2
structure GoodRec (P : List PSort) (cs : List (Option Str)) (m : Int) : Prop where
  row : GoodRow P cs
  lo : 0 ≤ m
  hi : m ≤ 1000000

/-! ### small readings -/
theorem tyT {a : Addr} {xs : List V} (h : SqT K H a xs) : TyX K H (.ref a) (.type "tuple") := by
  rcases h with (h | ⟨o, h⟩) | ⟨o, its, n, h, c, _⟩
  · exact .base (.tup h)
  · exact .fTuple h
  · exact .kTuple h c
theorem isi {x : V} {T U : String} {b : Bool} {Q : VK} (ty : TyX K H x (.type T)) (c : ClsV (.ty U) (.type U)) (k : kitB T U = some b) (q : Q (.bl b) H) : rIsi K [x, .ty U] H Q :=
  ⟨x, .ty U, .type T, .type U, b, rfl, c, ty, kit_ty k, q⟩
theorem len_tup {a : Addr} {xs : List V} (h : SqT K H a xs) : LenV K (.ref a) H xs.length := .inr ⟨xs, h, rfl⟩
theorem len_lst {a : Addr} {xs : List V} (h : SqL K H a xs) : LenV K (.ref a) H xs.length := .inl ⟨xs, h, rfl⟩
/-- a new list at D grows by y -/
theorem put_at {H1 H H4 : Hp} {D : Addr} {acc : List V} {y : V} (hD : H1 D = none) (h1 : Same H1 H) (h2 : H D = some (.lst acc)) (s : Same H H4) (hl : acc.length ≤ 1000) :
    ∃ a, H4 D = some (.lst a) ∧ a.length < sizeLine ∧ (Same H1 (upd H4 D (.lst (a ++ [y]))) ∧ (upd H4 D (.lst (a ++ [y]))) D = some (.lst (acc ++ [y]))) := by
  refine ⟨acc, s _ _ h2, small1000 hl, fun b o e => ?_, upd_same⟩
  rw [upd_ne (ne_of_none e hD)]
  exact s _ _ (h1 _ _ e)
end
end Cv

set_option maxRecDepth 100000
set_option maxHeartbeats 4000000
/-! Comprehensions whose turns change nothing that stood: by their values, by a test, by a relation. -/
namespace Cv
open PySem PySem.Spec PyProof.Rows L2
theorem small20k {n : Nat} (h : n ≤ 20000) : n < sizeLine := Nat.lt_of_le_of_lt h (by decide)

theorem iteS {c A B : Prop} [Decidable c] (hc : c) (h : A) : if decide c = true then A else B := by
  rw [decide_eq_true hc]
  exact iteT h
theorem iteSN {c A B : Prop} [Decidable c] (hc : ¬ c) (h : B) : if decide c = true then A else B := by
  rw [decide_eq_false hc]
  exact iteF h
theorem iteN1 {c A B : Prop} [Decidable c] (hc : ¬ c) (h : A) : if (!decide c) = true then A else B := by
  rw [decide_eq_false hc]
  exact iteT h
theorem iteBt {b : Bool} {A B : Prop} (hb : b = true) (h : A) : if b = true then A else B := by
  rw [hb]
  exact iteT h
theorem iteBf {b : Bool} {A B : Prop} (hb : b = false) (h : B) : if b = true then A else B := by
  rw [hb]
  exact iteF h

section
variable {J : It} {n : Nat} {G : Hp → Prop} {Y : Nat → Hp → V → Hp → Prop} {g : TG} {tt : TT} {te : TE} {vs : List Nat} {σ : L2.St} {H1 : Hp} {D : Addr} {Qd : Hp → Prop}
/-- what a comprehension asks behind its walk -/
abbrev LcAsks (J : It) (g : TG) (tt : TT) (te : TE) (vs : List Nat) (σ : L2.St) (H1 : Hp) (D : Addr) (Qd : Hp → Prop) : Prop :=
  ∃ W : Nat → Nat → Hp → Prop, (∃ m, W 0 m (upd H1 D (.lst []))) ∧ ∀ i m H, W i m H →
    (J.stop i H ∧ Qd H) ∨ (J.go i H ∧ ∃ Nx : Hp → Prop, (∀ H', Nx H' → ∃ m', m' < m ∧ W (i + 1) m' H') ∧ ∀ x H', J.yld i H x H' → g x (wipe σ vs) H' fun σ2 H2 => wipe σ2 vs = wipe σ vs ∧ tt σ2 H2 fun b H3 =>
      if b = true then te σ2 H3 fun y H4 => ∃ acc, H4 D = some (.lst acc) ∧ acc.length < sizeLine ∧ Nx (upd H4 D (.lst (acc ++ [y]))) else Nx H3)

theorem tups_lst {H : Hp} {D : Addr} {l : List V} {o : HO} (h : H D = some (.lst l)) : Tups H (upd H D o) :=
  ⟨fun a xs e => by rw [upd_ne (ne_of e h fun z => by cases z)]; exact e, fun a b u e => by rw [upd_ne (ne_of e h fun z => by cases z)]; exact e⟩

theorem lc_rel (w : Walk J n G Y) (hn : n ≤ 20000) (R : Nat → V → Hp → Prop) (hR : ∀ i v H H', Tups H H' → R i v H → R i v H') (hD : H1 D = none) (hG : ∀ H', Same H1 H' → G H')
    (hs : ∀ i x H H' (C : V → Hp → Prop), i < n → Same H1 H → Y i H x H' → (∀ v H4, Same H H4 → R i v H4 → C v H4) → g x (wipe σ vs) H' fun σ2 H2 => wipe σ2 vs = wipe σ vs ∧ te σ2 H2 C)
    (hd : ∀ H' ys, Same H1 H' → H' D = some (.lst ys) → ys.length = n → (∀ (i : Nat) y, ys[i]? = some y → R i y H') → Qd H') : LcAsks J g tYes te vs σ H1 D Qd := by
  have back : ∀ {H : Hp} {o : HO}, Same H1 H → Same H1 (upd H D o) := fun s b u e => by rw [upd_ne (ne_of_none e hD)]; exact s _ _ e
  refine lc_it w (fun i H => Same H1 H ∧ ∃ ys, H D = some (.lst ys) ∧ ys.length = i ∧ ∀ (j : Nat) y, ys[j]? = some y → R j y H) ?_ ?_ ?_ ?_
  · exact ⟨back (Same.refl _), [], upd_same, rfl, fun j y e => by simp at e⟩
  · exact fun i H _ p => hG H p.1
  · rintro i x H H' hi ⟨s, ys, hy, hl, hr⟩ y
    refine hs i x H H' _ hi s y fun v H4 s4 r => ?_
    have h4 : H4 D = some (.lst ys) := s4 _ _ hy
    refine ⟨ys, h4, small20k (by omega), back (s.trans s4), ys ++ [v], upd_same, by simp [hl], fun j z e => ?_⟩
    have t4 : Tups H4 (upd H4 D (.lst (ys ++ [v]))) := tups_lst h4
    by_cases hj : j < ys.length
    · rw [List.getElem?_append_left hj] at e
      exact hR j z _ _ ((Same.tups s4).trans t4) (hr j z e)
    · have ej : j = ys.length := by
        have := (List.getElem?_eq_some_iff.mp e).1
        rw [List.length_append, List.length_singleton] at this
        omega
      subst ej
      rw [List.getElem?_append_right (Nat.le_refl _), Nat.sub_self] at e
      obtain rfl : v = z := by simpa using e
      rw [hl]
      exact hR i v _ _ t4 r
  · rintro H ⟨s, ys, hy, hl, hr⟩
    exact hd H ys s hy hl hr
theorem lc_vals (w : Walk J n G Y) (hn : n ≤ 20000) (f : Nat → V) (hD : H1 D = none) (hG : ∀ H', Same H1 H' → G H')
    (hs : ∀ i x H H' (C : V → Hp → Prop), i < n → Same H1 H → Y i H x H' → (∀ H4, Same H H4 → C (f i) H4) → g x (wipe σ vs) H' fun σ2 H2 => wipe σ2 vs = wipe σ vs ∧ te σ2 H2 C)
    (hd : ∀ H', Same H1 H' → H' D = some (.lst ((List.range n).map f)) → Qd H') : LcAsks J g tYes te vs σ H1 D Qd := by
  refine lc_rel w hn (fun i v _ => v = f i) (fun _ _ _ _ _ h => h) hD hG (fun i x H H' C hi s y k => hs i x H H' C hi s y fun H4 s4 => k _ H4 s4 rfl) fun H' ys s hy hl hr => hd H' s ?_
  rw [hy]
  congr 2
  apply List.ext_getElem
  · simp [hl]
  · intro i h1 h2
    rw [hr i _ (List.getElem?_eq_getElem h1)]
    simp
/-- with a test -/
theorem lc_test (w : Walk J n G Y) (hn : n ≤ 20000) (b : Nat → Bool) (f : Nat → V) (hD : H1 D = none) (hG : ∀ H', Same H1 H' → G H')
    (hs : ∀ i x H H' (C : V → Hp → Prop) (C' : Hp → Prop), i < n → Same H1 H → Y i H x H' → (b i = true → ∀ H4, Same H H4 → C (f i) H4) → (b i = false → ∀ H4, Same H H4 → C' H4) →
      g x (wipe σ vs) H' fun σ2 H2 => wipe σ2 vs = wipe σ vs ∧ tt σ2 H2 fun b H3 => if b = true then te σ2 H3 C else C' H3)
    (hd : ∀ H', Same H1 H' → H' D = some (.lst (((List.range n).filter b).map f)) → Qd H') : LcAsks J g tt te vs σ H1 D Qd := by
  have back : ∀ {H : Hp} {o : HO}, Same H1 H → Same H1 (upd H D o) := fun s b u e => by rw [upd_ne (ne_of_none e hD)]; exact s _ _ e
  refine lc_it w (fun i H => Same H1 H ∧ H D = some (.lst (((List.range i).filter b).map f))) ⟨back (Same.refl _), upd_same⟩ (fun i H _ p => hG H p.1) ?_ fun H p => hd H p.1 p.2
  rintro i x H H' hi ⟨s, hy⟩ y
  refine hs i x H H' _ _ hi s y (fun hb H4 s4 => ?_) fun hb H4 s4 => ?_
  · refine ⟨_, s4 _ _ hy, ?_, back (s.trans s4), ?_⟩
    · rw [List.length_map]
      exact Nat.lt_of_le_of_lt (List.length_filter_le _ _) (by rw [List.length_range]; exact small20k (by omega))
    · rw [upd_same, List.range_succ, List.filter_append, List.map_append]
      simp [hb]
  · refine ⟨s.trans s4, ?_⟩
    rw [s4 _ _ hy, List.range_succ, List.filter_append, List.map_append]
    simp [hb]
end

/-! ### answers by the layer's rules, from behind -/
section
variable {K : PySem.W.Frag} {H : Hp} {Q : VK}
theorem all_ok {D : Addr} {n : Nat} {f : Nat → Bool} (h : H D = some (.lst ((List.range n).map fun i => .bl (f i)))) (q : Q (.bl ((List.range n).all f)) H) : rAll K [.ref D] H Q := by
  refine ⟨D, (List.range n).map f, rfl, sqL ?_, ?_⟩
  · rw [h, List.map_map]
    rfl
  · rw [List.all_map]
    exact q
theorem any_ok {D : Addr} {n : Nat} {f : Nat → Bool} (h : H D = some (.lst ((List.range n).map fun i => .bl (f i)))) (q : Q (.bl ((List.range n).any f)) H) : rAny K [.ref D] H Q := by
  refine ⟨D, (List.range n).map f, rfl, sqL ?_, ?_⟩
  · rw [h, List.map_map]
    rfl
  · rw [List.any_map]
    exact q
theorem all_true {n : Nat} : (List.range n).all (fun _ => true) = true := by simp
end
end Cv

set_option maxRecDepth 100000
set_option maxHeartbeats 4000000
/-! The layer's rules with the written part K told apart from the context (within a comprehension's block the reading may not speak of the block). -/
namespace Cv
open PySem PySem.Spec PyProof.Rows L2
section
variable {X : Cx} {K : PySem.W.Frag} (hK : X.K = K)
include hK
theorem ix_tupK : IxR X (rIxT K) := hK ▸ ix_tup
theorem ix_listK : IxR X (rIxL K) := hK ▸ ix_list
theorem op_inK : OpR X (compareOp .In) (rIn K false) := hK ▸ op_in_seq
theorem op_notInK : OpR X (compareOp .NotIn) (rIn K true) := hK ▸ op_notIn_seq
theorem op_catK : OpR X (binaryOp .Add) (rCatA K) := hK ▸ op_catA
theorem sl_tupK : SlR X (rSlA K) := hK ▸ sl_tupA
theorem sl_listK : SlR X (rSlL K) := hK ▸ sl_list
theorem op_eqK (hu : X.A.units + 64 < cLine) : OpR X (compareOp .Eq) (rEqD K) := hK ▸ op_eqD hu
def rLenK (K : PySem.W.Frag) : List V → Hp → VK → Prop := fun xs H Q => ∃ x n, xs = [x] ∧ LenV K x H n ∧ Q (.int n) H
theorem call_lenK : CallR X (.builtin "len") (rLenK K) := hK ▸ call_len
def rTupK (K : PySem.W.Frag) : List V → Hp → VK → Prop := fun xs H Q => ∃ p ys, xs = [.ref p] ∧ ((SqL K H p ys ∧ ∀ l, H l = none → Q (.ref l) (upd H l (.tup ys))) ∨ (SqT K H p ys ∧ Q (.ref p) H))
theorem call_tupK : CallR X (.type "tuple") (rTupK K) := hK ▸ call_tuple_of
theorem pi_tupK {tg l : Expr} {tl : TE} (hl : PE X l tl) : PI X tg l (iTup K tl) := hK ▸ pi_tup hl
theorem pi_listK {tg l : Expr} {tl : TE} (hl : PE X l tl) : PI X tg l (iList K tl) := hK ▸ pi_list hl
theorem pe_fldK {e : Expr} {f : Str} {pos : Pos} {ta : TE} (h : PE X e ta) (hb : attributeBase e f X.env (eval e X.env) = eval e X.env) : PE X (.Attribute e f pos) (tFld K ta f) := hK ▸ pe_fld h hb
end
section
variable {K : PySem.W.Frag} {H : Hp}
theorem bl_lst {D : Addr} {n : Nat} {f : Nat → Bool} (h : H D = some (.lst ((List.range n).map fun i => .bl (f i)))) : SqL K H D (((List.range n).map f).map V.bl) := by
  refine sqL ?_
  rw [h, List.map_map]
  rfl
theorem all_map_id {n : Nat} {f : Nat → Bool} : ((List.range n).map f).all id = (List.range n).all f := by rw [List.all_map]; rfl
theorem any_map_id {n : Nat} {f : Nat → Bool} : ((List.range n).map f).any id = (List.range n).any f := by rw [List.any_map]; rfl
theorem all_trues {n : Nat} : ((List.range n).map fun _ => true).all id = true := by simp
theorem bl_trues {D : Addr} {n : Nat} (h : H D = some (.lst ((List.range n).map fun _ => V.bl true))) : SqL K H D (((List.range n).map fun _ => true).map V.bl) := bl_lst (f := fun _ => true) h
end

/-! ### slices -/
theorem cut_to {xs : List V} {i : Nat} (h : i ≤ xs.length) : cutV xs none (some (i : Int)) = xs.take i := by
  unfold cutV
  rw [HT.sIx_none, HT.sIx_nat, Nat.min_eq_left h, List.drop_zero, Nat.sub_zero]
theorem cut_from {xs : List V} {i : Nat} (h : i ≤ xs.length) : cutV xs (some (i : Int)) none = xs.drop i := by
  unfold cutV
  rw [HT.sIx_none, HT.sIx_nat, Nat.min_eq_left h]
  exact List.take_of_length_le (by rw [List.length_drop]; exact Nat.le_refl _)
theorem sIx_m1 (n d : Nat) (h : 1 ≤ n) : HT.sIx n d (some (-1)) = n - 1 := by
  have e : HT.sIx n d (some (-1)) = ((-1 : Int) + (n : Int)).toNat := rfl
  rw [e]
  omega
theorem cut_last {ys : List V} {v : V} : cutV (ys ++ [v]) (some (-1)) none = [v] := by
  unfold cutV
  rw [HT.sIx_none, sIx_m1 _ _ (by simp), List.length_append, List.length_singleton, Nat.add_sub_cancel, List.drop_left, Nat.add_sub_cancel_left]
  rfl
theorem cut_init {ys : List V} {v : V} : cutV (ys ++ [v]) none (some (-1)) = ys := by
  unfold cutV
  rw [HT.sIx_none, sIx_m1 _ _ (by simp), List.length_append, List.length_singleton, Nat.add_sub_cancel, List.drop_zero, Nat.sub_zero, List.take_left]
section
variable {K : PySem.W.Frag} {H : Hp} {Q : VK} {a : Addr} {xs : List V}
/-- t[:i], its first i -/
theorem sl_to {i : Nat} (h : SqT K H a xs) (hi : i ≤ xs.length) (q : ∀ p H', Same H H' → SqT K H' p (xs.take i) → Q (.ref p) H') : rSlA K (.ref a) none (some (i : Int)) H Q := by
  refine ⟨a, xs, rfl, h, fun z => ?_, fun _ p hp => q p _ (same_upd hp) (sqT (by rw [upd_same, cut_to hi]))⟩
  rw [HT.sIx_nat, Nat.min_eq_left hi] at z
  refine q a H (Same.refl H) ?_
  rw [List.take_of_length_le (by omega)]
  exact h
/-- t[i:] -/
theorem sl_from {i : Nat} (h : SqT K H a xs) (hi : i ≤ xs.length) (q : ∀ p H', Same H H' → SqT K H' p (xs.drop i) → Q (.ref p) H') : rSlA K (.ref a) (some (i : Int)) none H Q := by
  refine ⟨a, xs, rfl, h, fun z => ?_, fun _ p hp => q p _ (same_upd hp) (sqT (by rw [upd_same, cut_from hi]))⟩
  rw [HT.sIx_nat, Nat.min_eq_left hi] at z
  refine q a H (Same.refl H) ?_
  rw [z.1, List.drop_zero]
  exact h
/-- t[-1:], t[:-1] -/
theorem sl_last {ys : List V} {v : V} (h : SqT K H a (ys ++ [v])) (q : ∀ p H', Same H H' → SqT K H' p [v] → Q (.ref p) H') : rSlA K (.ref a) (some (-1)) none H Q := by
  refine ⟨a, _, rfl, h, fun z => ?_, fun _ p hp => q p _ (same_upd hp) (sqT (by rw [upd_same, cut_last]))⟩
  have z1 := z.1
  rw [sIx_m1 _ _ (by simp), List.length_append, List.length_singleton, Nat.add_sub_cancel] at z1
  have e : ys = [] := List.eq_nil_of_length_eq_zero z1
  subst e
  exact q a H (Same.refl H) h
theorem sl_init {ys : List V} {v : V} (h : SqT K H a (ys ++ [v])) (q : ∀ p H', Same H H' → SqT K H' p ys → Q (.ref p) H') : rSlA K (.ref a) none (some (-1)) H Q := by
  refine ⟨a, _, rfl, h, fun z => ?_, fun _ p hp => q p _ (same_upd hp) (sqT (by rw [upd_same, cut_init]))⟩
  have z2 := z.2
  rw [sIx_m1 _ _ (by simp), List.length_append, List.length_singleton, Nat.add_sub_cancel] at z2
  omega
/-- t + u -/
theorem cat_ok {b : Addr} {ys : List V} (ha : SqT K H a xs) (hb : SqT K H b ys) (hl : xs.length + ys.length ≤ 1000) (q : ∀ p H', Same H H' → SqT K H' p (xs ++ ys) → Q (.ref p) H') : rCatA K (.ref a) (.ref b) H Q := by
  refine ⟨a, b, xs, ys, rfl, rfl, ha, hb, Nat.le_of_lt (small1000 hl), fun e => ?_, fun _ e => ?_, fun _ _ p hp => q p _ (same_upd hp) (sqT upd_same)⟩
  · subst e
    exact q b H (Same.refl H) hb
  · subst e
    refine q a H (Same.refl H) ?_
    rw [List.append_nil]
    exact ha
/-- x in a tuple or list of flat things -/
theorem in_ok {p : Addr} {x : V} {b : Bool} (h : SqL K H p xs ∨ SqT K H p xs) (fx : flatV x = true) (fs : xs.all flatV = true) (e : inV x xs = b) (q : Q (.bl b) H) : rIn K false x (.ref p) H Q :=
  ⟨p, xs, rfl, h, fx, fs, by rw [← e] at q; exact q⟩
theorem notIn_ok {p : Addr} {x : V} {b : Bool} (h : SqL K H p xs ∨ SqT K H p xs) (fx : flatV x = true) (fs : xs.all flatV = true) (e : inV x xs = b) (q : Q (.bl (!b)) H) : rIn K true x (.ref p) H Q :=
  ⟨p, xs, rfl, h, fx, fs, by rw [← e] at q; exact q⟩
end
theorem inV_strs {c : Str} {cs : List Str} : inV (.str c) (cs.map V.str) = decide (c ∈ cs) := by
  unfold inV
  rw [List.any_map, Bool.eq_iff_iff, List.any_eq_true, decide_eq_true_eq]
  constructor
  · rintro ⟨x, hx, e⟩
    have e' : (x == c) = true := e
    rw [← eq_of_beq e']
    exact hx
  · intro h
    exact ⟨c, h, beq_self_eq_true c⟩
theorem inV_non {cs : List Str} : inV .non (cs.map V.str) = false := by
  unfold inV
  rw [List.any_map]
  exact List.any_eq_false.mpr fun x _ h => by cases h
theorem flat_ts (cs : List Str) : (cs.map V.str).all flatV = true := flat_strs cs
end Cv

set_option maxRecDepth 100000
set_option maxHeartbeats 4000000
/-! plans: is_whole, is_word, is_code, are_unlike_codes, is_sort, plan_wrong, must_be_plan. -/
namespace Cv
open PySem PySem.Spec PyProof.Rows L2
section
variable {P : Program} {w : World} {K : PySem.W.Frag} {mg : Str → Option Value} {base : Heap}

abbrev st_is_whole : Stmt := topS 8
theorem sc_is_whole : FnScope ["thing"] ["thing"] (defScope st_is_whole) := C8.fnScope_by (by decide +kernel)
def spIsWhole : Sp := fun vs H Q _ => ∃ i, vs = [.int i] ∧ Q (.bl true) H
theorem ok_is_whole (T : Top mg) (D : At K mg "is_whole" st_is_whole) : C8.Cal P w K mg base 1 "is_whole" spIsWhole [] := by
  refine cal_of D sc_is_whole ?len (fun _ _ _ _ _ _ us hl => match us, hl with | [_], _ => rfl) (fun f cdv A outer s H vs Q E hr h => ?body)
  case len =>
    intro vs H Q E ⟨i, e, _⟩
    rw [e]; rfl
  case body =>
    obtain ⟨i, rfl, q⟩ := h
    refine ⟨_, (pss_one (ps_ret (pe_and (pe_callB call_isi (by rfl) T.isinstance (by decide +kernel) (pa_cons (pv 0) (pa_cons (pe_bltn (v := .ty "int") (by rfl) T.int (by decide +kernel) rfl) pa_nil))) (pe_one (pe_not (pe_callB call_isi (by rfl) T.isinstance (by decide +kernel) (pa_cons (pv 0) (pa_cons (pe_bltn (v := .ty "bool") (by rfl) T.bool (by decide +kernel) rfl) pa_nil)))))))), ?_⟩
    exact ⟨_, rfl, _, _, _, _, true, rfl, .ty _, .base (.int i), kit_ty (by decide +kernel), true, rfl, iteT ⟨_, rfl, _, _, _, _, false, rfl, .ty _, .base (.int i), kit_ty (by decide +kernel), false, rfl, q⟩⟩

abbrev st_is_word : Stmt := topS 16
theorem sc_is_word : FnScope ["thing", "longest", "sign"] ["thing", "longest"] (defScope st_is_word) := C8.fnScope_by (by decide +kernel)
def spIsWord : Sp := fun vs H Q _ => ∃ (z : Str) (n : Nat), vs = [.str z, .int n] ∧ Word z n ∧ n ≤ 100 ∧ ∀ H', Same H H' → Q (.bl true) H'
theorem ok_is_word (T : Top mg) (D : At K mg "is_word" st_is_word) : C8.Cal P w K mg base 1 "is_word" spIsWord [] := by
  refine cal_of D sc_is_word ?len (fun _ _ _ _ _ _ us hl => match us, hl with | [_, _], _ => rfl) (fun f cdv A outer s H vs Q E hr h => ?body)
  case len =>
    intro vs H Q E ⟨i, n, e, _⟩
    rw [e]; rfl
  case body =>
    obtain ⟨z, n, rfl, hw, hn, q⟩ := h
    have hz : z.length ≤ 100 := Nat.le_trans hw.hi hn
    refine ⟨_, (pss_one (ps_ret (pe_and (pe_callB call_isi (by rfl) T.isinstance (by decide +kernel) (pa_cons (pv 0) (pa_cons (pe_bltn (v := .ty "str") (by rfl) T.str (by decide +kernel) rfl) pa_nil))) (pe_and (pe_chain op_le op_le pe_int (pe_callB (call_lenK (K := K) rfl) (by rfl) T.len (by decide +kernel) (pa_cons (pv 0) pa_nil)) (pv 1)) (pe_one (pe_callB (cr_all rfl) (by rfl) T.all (by decide +kernel) (pa_cons (pe_lc (own := [("sign", 2)]) (g := (gName 2)) (tt := tYes) rfl sc_is_word.nd (pi_str (pv 0)) (blkOk_by (own := [("sign", 2)]) (N := ["thing", "longest", "sign"]) (sc := defScope st_is_word) (by decide +kernel)) (fun _ _ _ _ _ => (pg_name (i := 2) sc_is_word.nd rfl (by first | exact Or.inl rfl | exact Or.inr rfl))) (fun _ _ _ _ _ => pts_nil) (fun _ _ _ _ _ => (pe_cmpR op_in_sign (pv 2) (C8.pe_gc (by rfl) T.SMALL) (by rfl)))) pa_nil))))))), ?_⟩
    refine ⟨_, rfl, _, _, _, _, true, rfl, .ty _, .base (.str z), kit_ty (by decide +kernel), true, rfl, iteT ?_⟩
    refine ⟨_, rfl, _, _, rfl, ⟨Nat.le_trans hz (by decide), rfl⟩, _, _, rfl, rfl, _, rfl, iteS (by have := hw.lo; omega) ⟨_, rfl, _, _, rfl, rfl, _, rfl, iteS (by have := hw.hi; omega) ?_⟩⟩
    refine ⟨_, rfl, z, rfl, fun Dn hD => lc_vals (w := walk_str) (show z.cps.size ≤ 20000 from Nat.le_trans hz (by decide)) (fun _ => .bl true) hD (fun _ _ => trivial) (fun i x H2 H3 C hi s y k => ?_) fun H' s e => ⟨Dn, _, rfl, bl_trues e, by rw [all_trues]; exact q H' s⟩⟩
    obtain ⟨rfl, c, hc, rfl⟩ := y
    refine ⟨rfl, _, rfl, c, small, rfl, rfl, ?_⟩
    rw [decide_eq_true (hw.signs c (Array.mem_toList_iff.mpr (Array.mem_of_getElem? hc)))]
    exact k _ (Same.refl _)

abbrev st_is_code : Stmt := topS 17
theorem sc_is_code : FnScope ["thing"] ["thing"] (defScope st_is_code) := C8.fnScope_by (by decide +kernel)
def spIsCode : Sp := fun vs H Q _ => ∃ (z : Str), vs = [.str z] ∧ Word z 4 ∧ ∀ H', Same H H' → Q (.bl true) H'
theorem ok_is_code (T : Top mg) (D : At K mg "is_code" st_is_code) (g_is_word : C8.Cal P w K mg base 1 "is_word" spIsWord []) : C8.Cal P w K mg base 2 "is_code" spIsCode [] := by
  refine cal_of D sc_is_code ?len (fun _ _ _ _ _ _ us hl => match us, hl with | [_], _ => rfl) (fun f cdv A outer s H vs Q E hr h => ?body)
  case len =>
    intro vs H Q E ⟨i, e, _⟩
    rw [e]; rfl
  case body =>
    obtain ⟨z, rfl, hw, q⟩ := h
    refine ⟨_, (pss_one (ps_ret (C8.pe_c g_is_word hr (by decide) (by rfl) (pa_cons (pv 0) (pa_cons (C8.pe_gc (by rfl) T.LONGEST_CODE) pa_nil))))), ?_⟩
    exact ⟨_, rfl, z, 4, rfl, hw, by decide, q⟩

theorem getE {α : Type} {l : List α} {i : Nat} {x : α} (h : l[i]? = some x) : i < l.length := (List.getElem?_eq_some_iff.mp h).1
theorem strs_get {cs : List Str} {i : Nat} {x : V} (h : (cs.map V.str)[i]? = some x) : ∃ c, c ∈ cs ∧ cs[i]? = some c ∧ x = .str c := by
  rw [List.getElem?_map] at h
  cases e : cs[i]? with
  | none => rw [e] at h; cases h
  | some c =>
    rw [e] at h
    exact ⟨c, List.mem_of_getElem? e, rfl, (Option.some.inj h).symm⟩

abbrev st_are_unlike_codes : Stmt := topS 18
theorem sc_are_unlike_codes : FnScope ["things", "least", "most", "one"] ["things", "least", "most"] (defScope st_are_unlike_codes) := C8.fnScope_by (by decide +kernel)
def spUnlike (K : PySem.W.Frag) : Sp := fun vs H Q _ => ∃ (t : V) (cs : List Str), vs = [t, .int 2, .int 6] ∧ IsTs K H t cs ∧ GoodCodes cs ∧ ∀ H', Same H H' → Q (.bl true) H'
theorem ok_unlike (T : Top mg) (D : At K mg "are_unlike_codes" st_are_unlike_codes) (g_is_code : C8.Cal P w K mg base 2 "is_code" spIsCode []) : C8.Cal P w K mg base 3 "are_unlike_codes" (spUnlike K) [] := by
  refine cal_of D sc_are_unlike_codes ?len (fun _ _ _ _ _ _ us hl => match us, hl with | [_, _, _], _ => rfl) (fun f cdv A outer s H vs Q E hr h => ?body)
  case len =>
    intro vs H Q E ⟨i, cs, e, _⟩
    rw [e]; rfl
  case body =>
    obtain ⟨t, cs, rfl, ⟨a, rfl, hT⟩, good, q⟩ := h
    have hl : (cs.map V.str).length ≤ 6 := by rw [List.length_map]; exact good.hi
    have hl2 : 2 ≤ (cs.map V.str).length := by rw [List.length_map]; exact good.lo
    refine ⟨_, (pss_cons (ps_if (PW.pt (pw_or (pt_not (pt_chain op_le op_le (pv 1) (pe_callB (call_lenK (K := K) rfl) (by rfl) T.len (by decide +kernel) (pa_cons (pv 0) pa_nil)) (pv 2))) (pw_or1 (pt_not (pt_val (pe_callB (cr_all rfl) (by rfl) T.all (by decide +kernel) (pa_cons (pe_lc (own := [("one", 3)]) (g := (gName 3)) (tt := tYes) rfl sc_are_unlike_codes.nd (pi_tupK (K := K) rfl (pv 0)) (blkOk_by (own := [("one", 3)]) (N := ["things", "least", "most", "one"]) (sc := defScope st_are_unlike_codes) (by decide +kernel)) (fun _ _ _ _ _ => (pg_name (i := 3) sc_are_unlike_codes.nd rfl (by first | exact Or.inl rfl | exact Or.inr rfl))) (fun _ _ _ _ _ => pts_nil) (fun _ _ _ _ _ => (C8.pe_c g_is_code hr (by decide) (by rfl) (pa_cons (pv 3) pa_nil)))) pa_nil))))))) (pss_one (ps_ret pe_bl)) pss_nil)
      (pss_one (ps_ret (pe_cmpR op_eq (pe_lenSetN (by rfl) T.len (by rfl) T.set (pv 0)) (pe_callB (call_lenK (K := K) rfl) (by rfl) T.len (by decide +kernel) (pa_cons (pv 0) pa_nil)) (nomark _))))), ?_⟩
    refine ⟨_, rfl, _, rfl, _, _, rfl, len_tup hT, _, _, rfl, rfl, _, rfl, iteS (by omega) ⟨_, rfl, _, _, rfl, rfl, _, rfl, iteNS (by omega) ?_⟩⟩
    refine ⟨_, rfl, a, rfl, ⟨_, hT⟩, fun Dn hD => lc_vals (w := walk_tup (xs := cs.map V.str)) (by omega) (fun _ => .bl true) hD (fun H' s => (Same.tups s).seq hT) (fun i x H2 H3 C hi s y k => ?_) fun H' s e => ⟨Dn, _, rfl, bl_trues e, ?_⟩⟩
    · obtain ⟨rfl, hx⟩ := y
      obtain ⟨c, hc, _, rfl⟩ := strs_get hx
      exact ⟨rfl, _, rfl, c, rfl, good.code c hc, k⟩
    · refine ⟨true, by rw [all_trues], iteF ?_⟩
      have hT' := (Same.tups s).seq hT
      refine ⟨_, rfl, a, cs, rfl, hT', good.nd, by have := good.hi; omega, _, rfl, _, _, rfl, len_tup hT', rfl, ?_⟩
      rw [show decide (V.int (cs.length : Nat) = V.int ((cs.map V.str).length : Nat)) = true by rw [List.length_map, decide_eq_true rfl]]
      exact q _ s

abbrev st_is_sort : Stmt := topS 19
theorem sc_is_sort : FnScope ["thing"] ["thing"] (defScope st_is_sort) := C8.fnScope_by (by decide +kernel)
def spIsSort (K : PySem.W.Frag) : Sp := fun vs H Q _ => ∃ (t : V) (s : PSort), vs = [t] ∧ IsSort K H t s ∧ GoodSort s ∧ ∀ H', Same H H' → Q (.bl true) H'
theorem ok_is_sort (T : Top mg) (D : At K mg "is_sort" st_is_sort) (g_is_word : C8.Cal P w K mg base 1 "is_word" spIsWord []) (g_are_unlike_codes : C8.Cal P w K mg base 3 "are_unlike_codes" (spUnlike K) []) : C8.Cal P w K mg base 4 "is_sort" (spIsSort K) [] := by
  refine cal_of D sc_is_sort ?len (fun _ _ _ _ _ _ us hl => match us, hl with | [_], _ => rfl) (fun f cdv A outer s H vs Q E hr h => ?body)
  case len =>
    intro vs H Q E ⟨i, cs, e, _⟩
    rw [e]; rfl
  case body =>
    obtain ⟨t, ⟨name, cs⟩, rfl, ⟨a, c, rfl, hT, hC⟩, good, q⟩ := h
    refine ⟨_, (pss_cons (ps_if (PW.pt (pw_or (pt_not (pt_val (pe_callB call_isi (by rfl) T.isinstance (by decide +kernel) (pa_cons (pv 0) (pa_cons (pe_bltn (v := .ty "tuple") (by rfl) T.tuple (by decide +kernel) rfl) pa_nil))))) (pw_or (pt_cmpR op_ne (pe_callB (call_lenK (K := K) rfl) (by rfl) T.len (by decide +kernel) (pa_cons (pv 0) pa_nil)) pe_int (nomark _)) (pw_or1 (pt_not (pt_val (C8.pe_c g_is_word hr (by decide) (by rfl) (pa_cons (pe_ix (ix_tupK (K := K) rfl) (pv 0) pe_int (fun _ _ => rfl)) (pa_cons (C8.pe_gc (by rfl) T.LONGEST_NAME) pa_nil))))))))) (pss_one (ps_ret pe_bl)) pss_nil)
      (pss_one (ps_ret (pe_and (pe_callB call_isi (by rfl) T.isinstance (by decide +kernel) (pa_cons (pe_ix (ix_tupK (K := K) rfl) (pv 0) pe_int (fun _ _ => rfl)) (pa_cons (pe_bltn (v := .ty "tuple") (by rfl) T.tuple (by decide +kernel) rfl) pa_nil))) (pe_one (C8.pe_c g_are_unlike_codes hr (by decide) (by rfl) (pa_cons (pe_ix (ix_tupK (K := K) rfl) (pv 0) pe_int (fun _ _ => rfl)) (pa_cons (C8.pe_gc (by rfl) T.LEAST_CODES) (pa_cons (C8.pe_gc (by rfl) T.MOST_CODES) pa_nil))))))))), ?_⟩
    refine ⟨_, rfl, _, _, _, _, true, rfl, .ty _, tyT hT, kit_ty (by decide +kernel), true, rfl, iteF ?_⟩
    refine ⟨_, rfl, _, _, rfl, len_tup hT, rfl, _, rfl, iteNS rfl ?_⟩
    refine ⟨_, rfl, a, _, 0, _, rfl, rfl, hT, atI_nat (j := 0) rfl, name, 8, rfl, good.name, by decide, fun H1 s1 => ⟨true, rfl, iteF ?_⟩⟩
    have hT1 := (Same.tups s1).seq hT
    obtain ⟨b, rfl, hB⟩ := hC
    have hB1 := (Same.tups s1).seq hB
    refine ⟨_, rfl, a, _, 1, _, rfl, rfl, hT1, atI_nat (j := 1) rfl, _, _, _, _, true, rfl, .ty _, tyT hB1, kit_ty (by decide +kernel), true, rfl, iteT ?_⟩
    exact ⟨_, rfl, a, _, 1, _, rfl, rfl, hT1, atI_nat (j := 1) rfl, .ref b, cs, rfl, ⟨b, rfl, hB1⟩, good.codes, fun H' s => q _ (s1.trans s)⟩

theorem getD_some {xs : List V} {i : Nat} {x : V} (h : xs[i]? = some x) : xs.getD i .non = x := by simp [List.getD_eq_getElem?_getD, h]

abbrev st_plan_wrong : Stmt := topS 20
theorem sc_plan_wrong : FnScope ["thing", "k", "sort", "other"] ["thing"] (defScope st_plan_wrong) := C8.fnScope_by (by decide +kernel)
def spPlanWrong (K : PySem.W.Frag) : Sp := fun vs H Q _ => ∃ (t : V) (P : List PSort), vs = [t] ∧ IsPlan K H t P ∧ GoodPlan P ∧ ∀ H', Same H H' → Q .non H'
theorem ok_plan_wrong (T : Top mg) (D : At K mg "plan_wrong" st_plan_wrong) (g_is_sort : C8.Cal P w K mg base 4 "is_sort" (spIsSort K) []) : C8.Cal P w K mg base 5 "plan_wrong" (spPlanWrong K) [] := by
  refine cal_of D sc_plan_wrong ?len (fun _ _ _ _ _ _ us hl => match us, hl with | [_], _ => rfl) (fun f cdv A outer s H vs Q E hr h => ?body)
  case len =>
    intro vs H Q E ⟨i, cs, e, _⟩
    rw [e]; rfl
  case body =>
    obtain ⟨t, Pl, rfl, ⟨a, xs, rfl, hT, hP⟩, good, q⟩ := h
    have hl : xs.length = Pl.length := paired_len hP
    refine ⟨_, (pss_cons (ps_if (PW.pt (pw_or (pt_not (pt_val (pe_callB call_isi (by rfl) T.isinstance (by decide +kernel) (pa_cons (pv 0) (pa_cons (pe_bltn (v := .ty "tuple") (by rfl) T.tuple (by decide +kernel) rfl) pa_nil))))) (pw_or1 (pt_not (pt_chain op_le op_le pe_int (pe_callB (call_lenK (K := K) rfl) (by rfl) T.len (by decide +kernel) (pa_cons (pv 0) pa_nil)) (C8.pe_gc (by rfl) T.MOST_SORTS)))))) (pss_one (ps_ret (pe_tup (pa_cons pe_str pa_nil)))) pss_nil)
      (pss_cons (ps_for PassesOwn.never rfl (pi_enumT (by rfl) T.enumerate (pa_cons (pv 0) pa_nil)) (pg_tup rfl (pgs_cons (pg_name (i := 1) sc_plan_wrong.nd rfl (by first | exact Or.inl rfl | exact Or.inr rfl)) (pgs_cons (pg_name (i := 2) sc_plan_wrong.nd rfl (by first | exact Or.inl rfl | exact Or.inr rfl)) pgs_nil)))
      (pss_one (ps_if (pt_not (pt_val (C8.pe_c g_is_sort hr (by decide) (by rfl) (pa_cons (pv 2) pa_nil)))) (pss_one (ps_ret (pe_tup (pa_cons pe_str (pa_cons (pv 1) pa_nil))))) pss_nil)))
      (pss_cons (ps_for PassesOwn.never rfl (pi_enumT (by rfl) T.enumerate (pa_cons (pv 0) pa_nil)) (pg_tup rfl (pgs_cons (pg_name (i := 1) sc_plan_wrong.nd rfl (by first | exact Or.inl rfl | exact Or.inr rfl)) (pgs_cons (pg_name (i := 2) sc_plan_wrong.nd rfl (by first | exact Or.inl rfl | exact Or.inr rfl)) pgs_nil)))
      (pss_one (ps_if (pt_cmpR (op_inK (K := K) rfl) (pe_ix (ix_tupK (K := K) rfl) (pv 2) pe_int (fun _ _ => rfl)) (pe_lc (own := [("other", 3)]) (g := (gName 3)) (tt := tYes) rfl sc_plan_wrong.nd (pi_tupK (K := K) rfl (pe_slice (sl_tupK (K := K) rfl) (pv 0) po_none (po_some (pv 1)))) (blkOk_by (own := [("other", 3)]) (N := ["thing", "k", "sort", "other"]) (sc := defScope st_plan_wrong) (by decide +kernel)) (fun _ _ _ _ _ => (pg_name (i := 3) sc_plan_wrong.nd rfl (by first | exact Or.inl rfl | exact Or.inr rfl))) (fun _ _ _ _ _ => pts_nil) (fun _ _ _ _ _ => (pe_ix (ix_tupK (K := K) rfl) (pv 3) pe_int (fun _ _ => rfl)))) (by rfl)) (pss_one (ps_ret (pe_tup (pa_cons pe_str (pa_cons (pv 1) pa_nil))))) pss_nil)))
      (pss_one (ps_ret pe_non))))), ?_⟩
    refine ⟨_, rfl, _, _, _, _, true, rfl, .ty _, tyT hT, kit_ty (by decide +kernel), true, rfl, iteF ?_⟩
    refine ⟨_, rfl, _, _, rfl, len_tup hT, _, _, rfl, rfl, _, rfl, iteS (by have := good.lo; omega) ⟨_, _, rfl, rfl, _, rfl, iteNS (by have := good.hi; omega) ?_⟩⟩
    -- the first loop
    refine ⟨_, rfl, a, xs, rfl, hT, for_it walk_itN (fun i σ H1 => Same H H1 ∧ ∃ y1 y2 y3, σ = [some (.ref a), y1, y2, y3]) ⟨Same.refl H, none, none, none, rfl⟩ (fun i σ H1 _ p => (Same.tups p.1).seq hT) (fun i x σ H1 H2 hi p y => ?_) fun σ H1 p => ?_⟩
    · obtain ⟨s1, y1, y2, y3, rfl⟩ := p
      obtain ⟨U, rfl, hU, rfl⟩ := y
      obtain ⟨so, hso, hs⟩ := paired_get hP (List.getElem?_eq_getElem hi)
      have s2 : Same H (upd H1 U (.tup (vEnum xs i))) := s1.trans (same_upd hU)
      refine ⟨U, _, rfl, sqT upd_same, rfl, _, _, rfl, _, _, rfl, rfl, ?_⟩
      refine ⟨_, rfl, _, so, rfl, ?_, good.sort so (List.mem_of_getElem? hso), fun H3 s3 => ⟨true, rfl, iteF ⟨s2.trans s3, _, _, _, rfl⟩⟩⟩
      rw [getD_lt hi]
      exact hs.mono (Same.tups s2)
    -- the second
    · obtain ⟨s1, y1, y2, y3, rfl⟩ := p
      have hT1 := (Same.tups s1).seq hT
      refine ⟨_, rfl, a, xs, rfl, hT1, for_it walk_itN (fun i σ H1 => Same H H1 ∧ ∃ y1 y2 y3, σ = [some (.ref a), y1, y2, y3]) ⟨s1, _, _, _, rfl⟩ (fun i σ H1 _ p => (Same.tups p.1).seq hT) (fun i x σ H1 H2 hi p y => ?_) fun σ H1 p => ?_⟩
      · obtain ⟨s1, y1, y2, y3, rfl⟩ := p
        obtain ⟨U, rfl, hU, rfl⟩ := y
        obtain ⟨so, hso, hs⟩ := paired_get hP (List.getElem?_eq_getElem hi)
        have s2 : Same H (upd H1 U (.tup (vEnum xs i))) := s1.trans (same_upd hU)
        refine ⟨U, _, rfl, sqT upd_same, rfl, _, _, rfl, _, _, rfl, rfl, ?_⟩
        obtain ⟨b, c, eb, hB, _⟩ := hs
        have ex : xs.getD i .non = .ref b := (getD_lt hi).trans eb
        have hB2 := (Same.tups s2).seq hB
        refine ⟨_, rfl, b, _, 0, _, by rw [ex], rfl, hB2, atI_nat (j := 0) rfl, ?_⟩
        have hT2 := (Same.tups s2).seq hT
        refine ⟨_, rfl, _, rfl, i, rfl, sl_to hT2 (Nat.le_of_lt hi) fun p H3 s3 hp => ?_⟩
        have s13 := s2.trans s3
        have hlen : (xs.take i).length = i := by rw [List.length_take]; omega
        refine ⟨p, rfl, ⟨_, hp⟩, fun Dn hD => lc_vals (w := walk_tup (xs := xs.take i)) (by rw [hlen]; have := good.hi; omega) (fun j => .str ((Pl.map (·.1)).getD j Str.empty)) hD (fun H' s => (Same.tups s).seq hp) (fun j x H4 H5 C hj s y k => ?_) fun H' s e => ?_⟩
        · obtain ⟨rfl, hx⟩ := y
          rw [hlen] at hj
          rw [List.getElem?_take, if_pos hj] at hx
          obtain ⟨so2, hso2, d, c2, rfl, hD2, _⟩ := paired_get hP hx
          refine ⟨rfl, _, rfl, d, _, 0, _, rfl, rfl, (Same.tups (s13.trans s)).seq hD2, atI_nat (j := 0) rfl, ?_⟩
          have en : (Pl.map (·.1)).getD j Str.empty = so2.1 := by simp [List.getD_eq_getElem?_getD, hso2]
          have := k H5 (Same.refl _)
          rw [en] at this
          exact this
        · rw [hlen] at e
          refine in_ok (b := false) (.inl (sqL e)) rfl ?_ ?_ ⟨false, rfl, iteF ⟨s13.trans s, _, _, _, rfl⟩⟩
          · rw [List.all_map]
            exact List.all_eq_true.mpr fun _ _ => rfl
          · have ee : (List.range i).map (fun j => V.str ((Pl.map (·.1)).getD j Str.empty)) = ((Pl.map (·.1)).take i).map V.str := by
              apply List.ext_getElem
              · simp; omega
              · intro j h1 h2
                have hj : j < i := by simpa using h1
                have hj2 : j < Pl.length := by omega
                simp [List.getD_eq_getElem?_getD, hj2]
            rw [ee, inV_strs]
            refine decide_eq_false fun hm => ?_
            obtain ⟨j, hj, e2⟩ := List.mem_iff_getElem.mp hm
            rw [List.length_take, List.length_map] at hj
            have hiP : i < Pl.length := by omega
            have esi : so = Pl[i] := by
              rw [List.getElem?_eq_getElem hiP] at hso
              exact (Option.some.inj hso).symm
            have e3 : (Pl.map (·.1))[j]'(by rw [List.length_map]; omega) = (Pl.map (·.1))[i]'(by rw [List.length_map]; omega) := by
              rw [List.getElem_take] at e2
              rw [e2, esi, List.getElem_map]
            have := (List.getElem_inj good.nd).mp e3
            omega
      · obtain ⟨s1, y1, y2, y3, rfl⟩ := p
        exact q _ s1

abbrev st_must_be_plan : Stmt := topS 21
theorem sc_must_be_plan : FnScope ["plan"] ["plan"] (defScope st_must_be_plan) := C8.fnScope_by (by decide +kernel)
def spMustPlan (K : PySem.W.Frag) : Sp := fun vs H Q _ => ∃ (t : V) (P : List PSort), vs = [t] ∧ IsPlan K H t P ∧ GoodPlan P ∧ ∀ H', Same H H' → Q .non H'
theorem ok_must_be_plan (D : At K mg "must_be_plan" st_must_be_plan) (g_plan_wrong : C8.Cal P w K mg base 5 "plan_wrong" (spPlanWrong K) []) : C8.Cal P w K mg base 6 "must_be_plan" (spMustPlan K) [] := by
  refine cal_of D sc_must_be_plan ?len (fun _ _ _ _ _ _ us hl => match us, hl with | [_], _ => rfl) (fun f cdv A outer s H vs Q E hr h => ?body)
  case len =>
    intro vs H Q E ⟨i, cs, e, _⟩
    rw [e]; rfl
  case body =>
    obtain ⟨t, Pl, rfl, hP, good, q⟩ := h
    refine ⟨_, (pss_one (ps_if (pt_cmpR op_notN (C8.pe_c g_plan_wrong hr (by decide) (by rfl) (pa_cons (pv 0) pa_nil)) pe_non (nomark _)) (pss_one ps_never) pss_nil)), ?_⟩
    exact ⟨_, rfl, t, Pl, rfl, hP, good, fun H1 s1 => ⟨rfl, _, rfl, iteNS rfl (q H1 s1)⟩⟩
end
end Cv

set_option maxRecDepth 100000
set_option maxHeartbeats 4000000
/-! records: is_answer, record_in, record_wrong, must_be_record. -/
namespace Cv
open PySem PySem.Spec PyProof.Rows L2
section
variable {P : Program} {w : World} {K : PySem.W.Frag} {mg : Str → Option Value} {base : Heap}

abbrev st_is_answer : Stmt := topS 24
theorem sc_is_answer : FnScope ["sort", "thing"] ["sort", "thing"] (defScope st_is_answer) := C8.fnScope_by (by decide +kernel)
def spIsAnswer (K : PySem.W.Frag) : Sp := fun vs H Q _ => ∃ (t : V) (s : PSort) (o : Option Str), vs = [t, oV o] ∧ IsSort K H t s ∧ (∀ c, o = some c → c ∈ s.2) ∧ ∀ H', Same H H' → Q (.bl true) H'
theorem ok_is_answer (T : Top mg) (D : At K mg "is_answer" st_is_answer) : C8.Cal P w K mg base 1 "is_answer" (spIsAnswer K) [] := by
  refine cal_of D sc_is_answer ?len (fun _ _ _ _ _ _ us hl => match us, hl with | [_, _], _ => rfl) (fun f cdv A outer s H vs Q E hr h => ?body)
  case len =>
    intro vs H Q E ⟨i, n, o, e, _⟩
    rw [e]; rfl
  case body =>
    obtain ⟨t, ⟨name, cs⟩, o, rfl, ⟨a, c, rfl, hT, b, rfl, hB⟩, hc, q⟩ := h
    refine ⟨_, (pss_one (ps_ret (pe_or (pe_cmpR op_isN (pv 1) pe_non (nomark _)) (pe_one (pe_and (pe_callB call_isi (by rfl) T.isinstance (by decide +kernel) (pa_cons (pv 1) (pa_cons (pe_bltn (v := .ty "str") (by rfl) T.str (by decide +kernel) rfl) pa_nil))) (pe_one (pe_cmpR (op_inK (K := K) rfl) (pv 1) (pe_ix (ix_tupK (K := K) rfl) (pv 0) pe_int (fun _ _ => rfl)) (by rfl)))))))), ?_⟩
    cases o with
    | none => exact ⟨_, rfl, rfl, _, rfl, iteS rfl (q _ (Same.refl _))⟩
    | some c =>
      refine ⟨_, rfl, rfl, _, rfl, iteSN (fun z => nomatch z) ⟨_, rfl, _, _, _, _, true, rfl, .ty _, .base (.str c), kit_ty (by decide +kernel), true, rfl, iteT ?_⟩⟩
      refine ⟨_, rfl, _, rfl, a, _, 1, _, rfl, rfl, hT, atI_nat (j := 1) rfl, in_ok (b := true) (.inr hB) rfl (flat_ts cs) ?_ (q _ (Same.refl _))⟩
      exact inV_strs.trans (decide_eq_true (hc c rfl))

theorem rec_get {cs : List (Option Str)} {m : Int} {i : Nat} {o : Option Str} (h : cs[i]? = some o) : (cs.map oV ++ [V.int m])[i]? = some (oV o) := by
  have hi := getE h
  rw [List.getElem?_append_left (by rw [List.length_map]; exact hi), List.getElem?_map, h]
  rfl

abbrev st_record_in : Stmt := topS 25
theorem sc_record_in : FnScope ["plan", "thing", "k", "sort"] ["plan", "thing"] (defScope st_record_in) := C8.fnScope_by (by decide +kernel)
def spRecIn (K : PySem.W.Frag) : Sp := fun vs H Q _ => ∃ (t r : V) (P : List PSort) (cs : List (Option Str)) (m : Int), vs = [t, r] ∧ IsPlan K H t P ∧ IsRec K H r cs m ∧ GoodPlan P ∧ GoodRec P cs m ∧ ∀ H', Same H H' → Q .non H'
theorem ok_record_in (T : Top mg) (D : At K mg "record_in" st_record_in) (g_is_answer : C8.Cal P w K mg base 1 "is_answer" (spIsAnswer K) []) (g_is_whole : C8.Cal P w K mg base 1 "is_whole" spIsWhole []) : C8.Cal P w K mg base 2 "record_in" (spRecIn K) [] := by
  refine cal_of D sc_record_in ?len (fun _ _ _ _ _ _ us hl => match us, hl with | [_, _], _ => rfl) (fun f cdv A outer s H vs Q E hr h => ?body)
  case len =>
    intro vs H Q E ⟨i, n, Pl, cs, m, e, _⟩
    rw [e]; rfl
  case body =>
    obtain ⟨t, r, Pl, cs, m, rfl, ⟨a, xs, rfl, hT, hP⟩, ⟨b, rfl, hB⟩, good, gr, q⟩ := h
    have hl : xs.length = Pl.length := paired_len hP
    have hcs := gr.row.len
    have hz : (cs.map oV ++ [V.int m]).length = xs.length + 1 := by simp [hl, hcs]
    refine ⟨_, (pss_cons (ps_if (PW.pt (pw_or (pt_not (pt_val (pe_callB call_isi (by rfl) T.isinstance (by decide +kernel) (pa_cons (pv 1) (pa_cons (pe_bltn (v := .ty "tuple") (by rfl) T.tuple (by decide +kernel) rfl) pa_nil))))) (pw_or1 (pt_cmpR op_ne (pe_callB (call_lenK (K := K) rfl) (by rfl) T.len (by decide +kernel) (pa_cons (pv 1) pa_nil)) (pe_op op_add (pe_callB (call_lenK (K := K) rfl) (by rfl) T.len (by decide +kernel) (pa_cons (pv 0) pa_nil)) pe_int) (nomark _))))) (pss_one (ps_ret (pe_tup (pa_cons pe_str pa_nil)))) pss_nil)
      (pss_cons (ps_for PassesOwn.never rfl (pi_enumT (by rfl) T.enumerate (pa_cons (pv 0) pa_nil)) (pg_tup rfl (pgs_cons (pg_name (i := 2) sc_record_in.nd rfl (by first | exact Or.inl rfl | exact Or.inr rfl)) (pgs_cons (pg_name (i := 3) sc_record_in.nd rfl (by first | exact Or.inl rfl | exact Or.inr rfl)) pgs_nil)))
      (pss_one (ps_if (pt_not (pt_val (C8.pe_c g_is_answer hr (by decide) (by rfl) (pa_cons (pv 3) (pa_cons (pe_ix (ix_tupK (K := K) rfl) (pv 1) (pv 2) (fun _ _ => rfl)) pa_nil))))) (pss_one (ps_ret (pe_tup (pa_cons pe_str (pa_cons (pv 2) pa_nil))))) pss_nil)))
      (pss_cons (ps_if (PW.pt (pw_or (pt_not (pt_val (C8.pe_c g_is_whole hr (by decide) (by rfl) (pa_cons (pe_ix (ix_tupK (K := K) rfl) (pv 1) (pe_un un_neg pe_int) (fun _ _ => rfl)) pa_nil)))) (pw_or1 (pt_not (pt_chain op_le op_le pe_int (pe_ix (ix_tupK (K := K) rfl) (pv 1) (pe_un un_neg pe_int) (fun _ _ => rfl)) (C8.pe_gc (by rfl) T.MOST_MEASURE)))))) (pss_one (ps_ret (pe_tup (pa_cons pe_str pa_nil)))) pss_nil)
      (pss_one (ps_ret pe_non))))), ?_⟩
    refine ⟨_, rfl, _, _, _, _, true, rfl, .ty _, tyT hB, kit_ty (by decide +kernel), true, rfl, iteF ?_⟩
    refine ⟨_, rfl, _, _, rfl, len_tup hB, _, rfl, _, _, rfl, len_tup hT, _, _, rfl, rfl, rfl, _, rfl, iteNS (by rw [hz]; rfl) ?_⟩
    refine ⟨_, rfl, a, xs, rfl, hT, for_it walk_itN (fun i σ H1 => Same H H1 ∧ ∃ y1 y2, σ = [some (.ref a), some (.ref b), y1, y2]) ⟨Same.refl H, none, none, rfl⟩ (fun i σ H1 _ p => (Same.tups p.1).seq hT) (fun i x σ H1 H2 hi p y => ?_) fun σ H1 p => ?_⟩
    · obtain ⟨s1, y1, y2, rfl⟩ := p
      obtain ⟨U, rfl, hU, rfl⟩ := y
      obtain ⟨so, hso, hs⟩ := paired_get hP (List.getElem?_eq_getElem hi)
      have s2 : Same H (upd H1 U (.tup (vEnum xs i))) := s1.trans (same_upd hU)
      refine ⟨U, _, rfl, sqT upd_same, rfl, _, _, rfl, _, _, rfl, rfl, ?_⟩
      have hic : i < cs.length := by omega
      refine ⟨_, rfl, _, rfl, _, rfl, b, _, _, _, rfl, rfl, (Same.tups s2).seq hB, atI_nat (j := i) (rec_get (List.getElem?_eq_getElem hic)), ?_⟩
      refine ⟨_, so, cs[i], rfl, ?_, fun c e => gr.row.each i so c hso (by rw [List.getElem?_eq_getElem hic, e]), fun H3 s3 => ⟨true, rfl, iteF ⟨s2.trans s3, _, _, rfl⟩⟩⟩
      rw [getD_lt hi]
      exact hs.mono (Same.tups s2)
    · obtain ⟨s1, y1, y2, rfl⟩ := p
      have hB1 := (Same.tups s1).seq hB
      refine ⟨_, rfl, 1, rfl, b, _, -1, _, rfl, rfl, hB1, atI_last _ _, m, rfl, true, rfl, iteF ?_⟩
      refine ⟨_, rfl, 1, rfl, b, _, -1, _, rfl, rfl, hB1, atI_last _ _, _, _, rfl, rfl, _, rfl, iteS gr.lo ⟨_, _, rfl, rfl, _, rfl, iteNS gr.hi (q _ s1)⟩⟩

abbrev st_record_wrong : Stmt := topS 26
theorem sc_record_wrong : FnScope ["plan", "thing"] ["plan", "thing"] (defScope st_record_wrong) := C8.fnScope_by (by decide +kernel)
theorem ok_record_wrong (D : At K mg "record_wrong" st_record_wrong) (g_must_be_plan : C8.Cal P w K mg base 6 "must_be_plan" (spMustPlan K) []) (g_record_in : C8.Cal P w K mg base 2 "record_in" (spRecIn K) []) : C8.Cal P w K mg base 7 "record_wrong" (spRecIn K) [] := by
  refine cal_of D sc_record_wrong ?len (fun _ _ _ _ _ _ us hl => match us, hl with | [_, _], _ => rfl) (fun f cdv A outer s H vs Q E hr h => ?body)
  case len =>
    intro vs H Q E ⟨i, n, Pl, cs, m, e, _⟩
    rw [e]; rfl
  case body =>
    obtain ⟨t, r, Pl, cs, m, rfl, hP, hR, good, gr, q⟩ := h
    refine ⟨_, (pss_cons (ps_expr (C8.pe_c g_must_be_plan hr (by decide) (by rfl) (pa_cons (pv 0) pa_nil)))
      (pss_one (ps_ret (C8.pe_c g_record_in hr (by decide) (by rfl) (pa_cons (pv 0) (pa_cons (pv 1) pa_nil)))))), ?_⟩
    exact ⟨_, rfl, t, Pl, rfl, hP, good, fun H1 s1 => ⟨_, rfl, _, rfl, t, r, Pl, cs, m, rfl, hP.mono (Same.tups s1), hR.mono (Same.tups s1), good, gr, fun H2 s2 => q _ (s1.trans s2)⟩⟩

abbrev st_must_be_record : Stmt := topS 27
theorem sc_must_be_record : FnScope ["plan", "record"] ["plan", "record"] (defScope st_must_be_record) := C8.fnScope_by (by decide +kernel)
theorem ok_must_be_record (D : At K mg "must_be_record" st_must_be_record) (g_record_wrong : C8.Cal P w K mg base 7 "record_wrong" (spRecIn K) []) : C8.Cal P w K mg base 8 "must_be_record" (spRecIn K) [] := by
  refine cal_of D sc_must_be_record ?len (fun _ _ _ _ _ _ us hl => match us, hl with | [_, _], _ => rfl) (fun f cdv A outer s H vs Q E hr h => ?body)
  case len =>
    intro vs H Q E ⟨i, n, Pl, cs, m, e, _⟩
    rw [e]; rfl
  case body =>
    obtain ⟨t, r, Pl, cs, m, rfl, hP, hR, good, gr, q⟩ := h
    refine ⟨_, (pss_one (ps_if (pt_cmpR op_notN (C8.pe_c g_record_wrong hr (by decide) (by rfl) (pa_cons (pv 0) (pa_cons (pv 1) pa_nil))) pe_non (nomark _)) (pss_one ps_never) pss_nil)), ?_⟩
    exact ⟨_, rfl, _, rfl, t, r, Pl, cs, m, rfl, hP, hR, good, gr, fun H1 s1 => ⟨rfl, _, rfl, iteNS rfl (q H1 s1)⟩⟩
end
end Cv

set_option maxRecDepth 100000
set_option maxHeartbeats 4000000
/-! rules: names_codes, is_rule, rules_wrong, must_be_rules, bars, first_bar, is_right, gives, barred_by. -/
namespace Cv
open PySem PySem.Spec PyProof.Rows L2
section
variable {P : Program} {w : World} {K : PySem.W.Frag} {mg : Str → Option Value} {base : Heap}

abbrev st_names_codes : Stmt := topS 30
theorem sc_names_codes : FnScope ["codes", "thing", "code"] ["codes", "thing"] (defScope st_names_codes) := C8.fnScope_by (by decide +kernel)
def spNames (K : PySem.W.Frag) : Sp := fun vs H Q _ => ∃ (t u : V) (cs : List Str) (n : Option (List Str)), vs = [t, u] ∧ IsTs K H t cs ∧ IsNamed K H u n ∧ GoodNamed cs n ∧ ∀ H', Same H H' → Q (.bl true) H'
theorem ok_names_codes (T : Top mg) (D : At K mg "names_codes" st_names_codes) : C8.Cal P w K mg base 1 "names_codes" (spNames K) [] := by
  refine cal_of D sc_names_codes ?len (fun _ _ _ _ _ _ us hl => match us, hl with | [_, _], _ => rfl) (fun f cdv A outer s H vs Q E hr h => ?body)
  case len =>
    intro vs H Q E ⟨i, n, o, m, e, _⟩
    rw [e]; rfl
  case body =>
    obtain ⟨t, u, cs, n, rfl, ⟨a, rfl, hT⟩, hn, good, q⟩ := h
    refine ⟨_, (pss_cons (ps_if (pt_cmpR op_isN (pv 1) pe_non (nomark _)) (pss_one (ps_ret pe_bl)) pss_nil)
      (pss_cons (ps_if (PW.pt (pw_or (pt_not (pt_val (pe_callB call_isi (by rfl) T.isinstance (by decide +kernel) (pa_cons (pv 1) (pa_cons (pe_bltn (v := .ty "tuple") (by rfl) T.tuple (by decide +kernel) rfl) pa_nil))))) (pw_or (pt_cmpR op_eq (pe_callB (call_lenK (K := K) rfl) (by rfl) T.len (by decide +kernel) (pa_cons (pv 1) pa_nil)) pe_int (nomark _)) (pw_or1 (pt_not (pt_val (pe_callB (cr_all rfl) (by rfl) T.all (by decide +kernel) (pa_cons (pe_lc (own := [("code", 2)]) (g := (gName 2)) (tt := tYes) rfl sc_names_codes.nd (pi_tupK (K := K) rfl (pv 1)) (blkOk_by (own := [("code", 2)]) (N := ["codes", "thing", "code"]) (sc := defScope st_names_codes) (by decide +kernel)) (fun _ _ _ _ _ => (pg_name (i := 2) sc_names_codes.nd rfl (by first | exact Or.inl rfl | exact Or.inr rfl))) (fun _ _ _ _ _ => pts_nil) (fun _ _ _ _ _ => (pe_cmpR (op_inK (K := K) rfl) (pv 2) (pv 0) (by rfl)))) pa_nil)))))))) (pss_one (ps_ret pe_bl)) pss_nil)
      (pss_one (ps_ret (pe_cmpR op_eq (pe_lenSetN (by rfl) T.len (by rfl) T.set (pv 1)) (pe_callB (call_lenK (K := K) rfl) (by rfl) T.len (by decide +kernel) (pa_cons (pv 1) pa_nil)) (nomark _)))))), ?_⟩
    cases n with
    | none =>
      obtain rfl : u = .non := hn
      exact ⟨_, rfl, rfl, _, rfl, iteS rfl (q _ (Same.refl _))⟩
    | some ns =>
      obtain ⟨b, rfl, hB⟩ : IsTs K H u ns := hn
      obtain ⟨g1, g2, g3, g4⟩ := good
      have hl : (ns.map V.str).length = ns.length := List.length_map _
      have hpos : 0 < ns.length := List.length_pos_iff.mpr g1
      refine ⟨_, rfl, rfl, _, rfl, iteSN (fun z => nomatch z) ?_⟩
      refine ⟨_, rfl, _, _, _, _, true, rfl, .ty _, tyT hB, kit_ty (by decide +kernel), true, rfl, iteF ?_⟩
      refine ⟨_, rfl, _, _, rfl, len_tup hB, rfl, _, rfl, iteSN (fun z => by injection z with z; omega) ?_⟩
      refine ⟨_, rfl, b, rfl, ⟨_, hB⟩, fun Dn hD => lc_vals (w := walk_tup (xs := ns.map V.str)) (by omega) (fun _ => .bl true) hD (fun H' s => (Same.tups s).seq hB) (fun i x H2 H3 C hi s y k => ?_) fun H' s e => ⟨Dn, _, rfl, bl_trues e, true, by rw [all_trues], iteF ?_⟩⟩
      · obtain ⟨rfl, hx⟩ := y
        obtain ⟨c, hc, _, rfl⟩ := strs_get hx
        exact ⟨rfl, _, rfl, _, rfl, in_ok (b := true) (.inr ((Same.tups s).seq hT)) rfl (flat_ts cs) (inV_strs.trans (decide_eq_true (g3 c hc))) (k _ (Same.refl _))⟩
      · have hB' := (Same.tups s).seq hB
        refine ⟨_, rfl, b, ns, rfl, hB', g2, by omega, _, rfl, _, _, rfl, len_tup hB', rfl, ?_⟩
        rw [show decide (V.int (ns.length : Nat) = V.int ((ns.map V.str).length : Nat)) = true by rw [hl, decide_eq_true rfl]]
        exact q _ s

theorem named_ne {u : V} : ∀ {n : Option (List Str)} {H : Hp}, IsNamed K H u n → decide (u = .non) = !n.isSome
  | none, _, h => by
    obtain rfl : u = .non := h
    rfl
  | some ns, H, h => by
    obtain ⟨b, rfl, _⟩ : IsTs K H u ns := h
    rfl

abbrev st_is_rule : Stmt := topS 31
theorem sc_is_rule : FnScope ["plan", "thing", "name", "codes", "named"] ["plan", "thing"] (defScope st_is_rule) := C8.fnScope_by (by decide +kernel)
def spIsRule (K : PySem.W.Frag) : Sp := fun vs H Q _ => ∃ (t u : V) (P : List PSort) (r : Rule), vs = [t, u] ∧ IsPlan K H t P ∧ IsRule K H u r ∧ GoodPlan P ∧ GoodRule P r ∧ ∀ H', Same H H' → Q (.bl true) H'
theorem ok_is_rule (T : Top mg) (D : At K mg "is_rule" st_is_rule) (g_names_codes : C8.Cal P w K mg base 1 "names_codes" (spNames K) []) : C8.Cal P w K mg base 2 "is_rule" (spIsRule K) [] := by
  refine cal_of D sc_is_rule ?len (fun _ _ _ _ _ _ us hl => match us, hl with | [_, _], _ => rfl) (fun f cdv A outer s H vs Q E hr h => ?body)
  case len =>
    intro vs H Q E ⟨i, n, o, m, e, _⟩
    rw [e]; rfl
  case body =>
    obtain ⟨t, u, Pl, r, rfl, ⟨a, xs, rfl, hT, hP⟩, ⟨b, ys, rfl, hB, hR⟩, good, gr, q⟩ := h
    have hl : xs.length = Pl.length := paired_len hP
    have hl2 : ys.length = r.length := paired_len hR
    have hlen : xs.length = ys.length := by rw [hl, hl2, gr.len]
    have h4 := good.hi
    refine ⟨_, (pss_cons (ps_if (PW.pt (pw_or (pt_not (pt_val (pe_callB call_isi (by rfl) T.isinstance (by decide +kernel) (pa_cons (pv 1) (pa_cons (pe_bltn (v := .ty "tuple") (by rfl) T.tuple (by decide +kernel) rfl) pa_nil))))) (pw_or1 (pt_cmpR op_ne (pe_callB (call_lenK (K := K) rfl) (by rfl) T.len (by decide +kernel) (pa_cons (pv 1) pa_nil)) (pe_callB (call_lenK (K := K) rfl) (by rfl) T.len (by decide +kernel) (pa_cons (pv 0) pa_nil)) (nomark _))))) (pss_one (ps_ret pe_bl)) pss_nil)
      (pss_cons (ps_if (pt_not (pt_val (pe_callB (cr_all rfl) (by rfl) T.all (by decide +kernel) (pa_cons (pe_lc (own := [("name", 2), ("codes", 3), ("named", 4)]) (g := (gTup K 2 (gCons (gTup K 2 (gCons (gName 2) (gCons (gName 3) gNil))) (gCons (gName 4) gNil)))) (tt := tYes) rfl sc_is_rule.nd (pi_zs (by rfl) T.zip (pa_cons (pv 0) (pa_cons (pv 1) pa_nil)) (pk_cons pe_bl pk_nil)) (blkOk_by (own := [("name", 2), ("codes", 3), ("named", 4)]) (N := ["plan", "thing", "name", "codes", "named"]) (sc := defScope st_is_rule) (by decide +kernel)) (fun _ _ _ _ _ => (pg_tup rfl (pgs_cons (pg_tup rfl (pgs_cons (pg_name (i := 2) sc_is_rule.nd rfl (by first | exact Or.inl rfl | exact Or.inr rfl)) (pgs_cons (pg_name (i := 3) sc_is_rule.nd rfl (by first | exact Or.inl rfl | exact Or.inr rfl)) pgs_nil))) (pgs_cons (pg_name (i := 4) sc_is_rule.nd rfl (by first | exact Or.inl rfl | exact Or.inr rfl)) pgs_nil)))) (fun _ _ _ _ _ => pts_nil) (fun _ _ _ _ _ => (C8.pe_c g_names_codes hr (by decide) (by rfl) (pa_cons (pv 3) (pa_cons (pv 4) pa_nil))))) pa_nil)))) (pss_one (ps_ret pe_bl)) pss_nil)
      (pss_one (ps_ret (pe_callB (cr_any rfl) (by rfl) T.any (by decide +kernel) (pa_cons (pe_lc (own := [("named", 4)]) (g := (gName 4)) (tt := tYes) rfl sc_is_rule.nd (pi_tupK (K := K) rfl (pv 1)) (blkOk_by (own := [("named", 4)]) (N := ["plan", "thing", "name", "codes", "named"]) (sc := defScope st_is_rule) (by decide +kernel)) (fun _ _ _ _ _ => (pg_name (i := 4) sc_is_rule.nd rfl (by first | exact Or.inl rfl | exact Or.inr rfl))) (fun _ _ _ _ _ => pts_nil) (fun _ _ _ _ _ => (pe_cmpR op_notN (pv 4) pe_non (nomark _)))) pa_nil)))))), ?_⟩
    refine ⟨_, rfl, _, _, _, _, true, rfl, .ty _, tyT hB, kit_ty (by decide +kernel), true, rfl, iteF ?_⟩
    refine ⟨_, rfl, _, _, rfl, len_tup hB, _, rfl, _, _, rfl, len_tup hT, rfl, _, rfl, iteNS (by rw [hlen]) ?_⟩
    refine ⟨_, rfl, _, rfl, a, b, xs, ys, rfl, rfl, hT, hB, hlen, fun Dn hD => lc_vals (w := walk_itN) (by omega) (fun _ => .bl true) hD (fun H' s => ⟨(Same.tups s).seq hT, (Same.tups s).seq hB⟩) (fun i x H2 H3 C hi s y k => ?_) fun H' s e => ⟨Dn, _, rfl, bl_trues e, true, by rw [all_trues], iteF ?_⟩⟩
    · obtain ⟨U, rfl, hU, rfl⟩ := y
      have hi2 : i < ys.length := by omega
      obtain ⟨so, hso, d, c, ed, hd, hc⟩ := paired_get hP (List.getElem?_eq_getElem hi)
      obtain ⟨n, hn, hnm⟩ := paired_get hR (List.getElem?_eq_getElem hi2)
      have s2 : Same H2 (upd H2 U (.tup (vZip2 xs ys i))) := same_upd hU
      have s02 := s.trans s2
      refine ⟨U, _, rfl, sqT upd_same, rfl, _, _, rfl, ⟨d, _, (getD_lt hi).trans ed, (Same.tups s02).seq hd, rfl, _, _, rfl, _, _, rfl, rfl, ?_⟩⟩
      refine ⟨_, _, rfl, rfl, rfl, _, rfl, _, rfl, _, _, so.2, n, rfl, hc.mono (Same.tups s02), ?_, gr.each i so n hso hn, fun H4 s4 => k H4 (s2.trans s4)⟩
      rw [getD_lt hi2]
      exact hnm.mono (Same.tups s02)
    · have hB' := (Same.tups s).seq hB
      refine ⟨_, rfl, b, rfl, ⟨_, hB'⟩, fun Dn2 hD2 => lc_vals (w := walk_tup (xs := ys)) (by omega) (fun i => .bl (r.getD i none).isSome) hD2 (fun H' s => (Same.tups s).seq hB') (fun i x H2 H3 C hi s3 y k => ?_) fun H2 s2 e2 => ⟨Dn2, _, rfl, bl_lst (f := fun i => (r.getD i none).isSome) e2, ?_⟩⟩
      · obtain ⟨rfl, hx⟩ := y
        obtain ⟨n, hn, hnm⟩ := paired_get hR hx
        refine ⟨rfl, _, rfl, rfl, ?_⟩
        rw [named_ne hnm, Bool.not_not]
        have := k _ (Same.refl _)
        rw [List.getD_eq_getElem?_getD, hn] at this
        exact this
      · rw [any_map_id, show ((List.range ys.length).any fun i => (r.getD i none).isSome) = true from ?_]
        · exact q _ (s.trans s2)
        · obtain ⟨n, hn, hne⟩ := gr.some
          obtain ⟨j, hj, e⟩ := List.mem_iff_getElem.mp hn
          refine List.any_eq_true.mpr ⟨j, List.mem_range.mpr (by omega), ?_⟩
          rw [getD_lt hj, e]
          cases n with
          | none => exact absurd rfl hne
          | some _ => rfl

abbrev st_rules_wrong : Stmt := topS 32
theorem sc_rules_wrong : FnScope ["plan", "thing", "k", "rule"] ["plan", "thing"] (defScope st_rules_wrong) := C8.fnScope_by (by decide +kernel)
def spRules (K : PySem.W.Frag) : Sp := fun vs H Q _ => ∃ (t u : V) (P : List PSort) (R : List Rule), vs = [t, u] ∧ IsPlan K H t P ∧ IsRules K H u R ∧ GoodPlan P ∧ GoodRules P R ∧ ∀ H', Same H H' → Q .non H'
theorem ok_rules_wrong (T : Top mg) (D : At K mg "rules_wrong" st_rules_wrong) (g_must_be_plan : C8.Cal P w K mg base 6 "must_be_plan" (spMustPlan K) []) (g_is_rule : C8.Cal P w K mg base 2 "is_rule" (spIsRule K) []) : C8.Cal P w K mg base 7 "rules_wrong" (spRules K) [] := by
  refine cal_of D sc_rules_wrong ?len (fun _ _ _ _ _ _ us hl => match us, hl with | [_, _], _ => rfl) (fun f cdv A outer s H vs Q E hr h => ?body)
  case len =>
    intro vs H Q E ⟨i, n, o, m, e, _⟩
    rw [e]; rfl
  case body =>
    obtain ⟨t, u, Pl, R, rfl, hP, ⟨b, ys, rfl, hB, hR⟩, good, gr, q⟩ := h
    have hl2 : ys.length = R.length := paired_len hR
    have hfew := gr.few
    refine ⟨_, (pss_cons (ps_expr (C8.pe_c g_must_be_plan hr (by decide) (by rfl) (pa_cons (pv 0) pa_nil)))
      (pss_cons (ps_if (PW.pt (pw_or (pt_not (pt_val (pe_callB call_isi (by rfl) T.isinstance (by decide +kernel) (pa_cons (pv 1) (pa_cons (pe_bltn (v := .ty "list") (by rfl) T.list (by decide +kernel) rfl) pa_nil))))) (pw_or1 (pt_cmpR op_gt (pe_callB (call_lenK (K := K) rfl) (by rfl) T.len (by decide +kernel) (pa_cons (pv 1) pa_nil)) (C8.pe_gc (by rfl) T.MOST_RULES) (nomark _))))) (pss_one (ps_ret (pe_tup (pa_cons pe_str pa_nil)))) pss_nil)
      (pss_cons (ps_for PassesOwn.never rfl (pi_enum (by rfl) T.enumerate (pa_cons (pv 1) pa_nil)) (pg_tup rfl (pgs_cons (pg_name (i := 2) sc_rules_wrong.nd rfl (by first | exact Or.inl rfl | exact Or.inr rfl)) (pgs_cons (pg_name (i := 3) sc_rules_wrong.nd rfl (by first | exact Or.inl rfl | exact Or.inr rfl)) pgs_nil)))
      (pss_one (ps_if (pt_not (pt_val (C8.pe_c g_is_rule hr (by decide) (by rfl) (pa_cons (pv 0) (pa_cons (pv 3) pa_nil))))) (pss_one (ps_ret (pe_tup (pa_cons pe_str (pa_cons (pv 2) pa_nil))))) pss_nil)))
      (pss_one (ps_ret pe_non))))), ?_⟩
    refine ⟨_, rfl, t, Pl, rfl, hP, good, fun H1 s1 => ?_⟩
    have hB1 := s1 _ _ hB
    refine ⟨_, rfl, _, _, _, _, true, rfl, .ty _, .base (.lst hB1), kit_ty (by decide +kernel), true, rfl, iteF ?_⟩
    refine ⟨_, rfl, _, _, rfl, len_lst (sqL hB1), _, _, rfl, rfl, _, rfl, iteSN (by omega) ?_⟩
    refine ⟨_, rfl, b, ys, rfl, sqL hB1, for_it (walk_enum (xs := ys)) (fun i σ H2 => Same H H2 ∧ ∃ y1 y2, σ = [some t, some (.ref b), y1, y2]) ⟨s1, none, none, rfl⟩ (fun i σ H2 _ p => sqL (p.1 _ _ hB)) (fun i x σ H2 H3 hi p y => ?_) fun σ H2 p => ?_⟩
    · obtain ⟨s2, y1, y2, rfl⟩ := p
      obtain ⟨U, x1, x2, rfl, hU, rfl, e1, e2⟩ := y
      obtain rfl : V.int (i : Nat) = x1 := Option.some.inj e1
      obtain ⟨r, hr, hrr⟩ := paired_get hR e2
      have s3 : Same H (upd H2 U (.tup [V.int (i : Nat), x2])) := s2.trans (same_upd hU)
      refine ⟨U, _, rfl, sqT upd_same, rfl, _, _, rfl, _, _, rfl, rfl, ?_⟩
      exact ⟨_, rfl, _, rfl, t, x2, Pl, r, rfl, hP.mono (Same.tups s3), hrr.mono (Same.tups s3), good, gr.each r (List.mem_of_getElem? hr), fun H4 s4 => ⟨true, rfl, iteF ⟨s3.trans s4, _, _, rfl⟩⟩⟩
    · obtain ⟨s2, y1, y2, rfl⟩ := p
      exact q _ s2

abbrev st_must_be_rules : Stmt := topS 33
theorem sc_must_be_rules : FnScope ["plan", "rules"] ["plan", "rules"] (defScope st_must_be_rules) := C8.fnScope_by (by decide +kernel)
theorem ok_must_be_rules (D : At K mg "must_be_rules" st_must_be_rules) (g_rules_wrong : C8.Cal P w K mg base 7 "rules_wrong" (spRules K) []) : C8.Cal P w K mg base 8 "must_be_rules" (spRules K) [] := by
  refine cal_of D sc_must_be_rules ?len (fun _ _ _ _ _ _ us hl => match us, hl with | [_, _], _ => rfl) (fun f cdv A outer s H vs Q E hr h => ?body)
  case len =>
    intro vs H Q E ⟨i, n, o, m, e, _⟩
    rw [e]; rfl
  case body =>
    obtain ⟨t, u, Pl, R, rfl, hP, hR, good, gr, q⟩ := h
    refine ⟨_, (pss_one (ps_if (pt_cmpR op_notN (C8.pe_c g_rules_wrong hr (by decide) (by rfl) (pa_cons (pv 0) (pa_cons (pv 1) pa_nil))) pe_non (nomark _)) (pss_one ps_never) pss_nil)), ?_⟩
    exact ⟨_, rfl, _, rfl, t, u, Pl, R, rfl, hP, hR, good, gr, fun H1 s1 => ⟨rfl, _, rfl, iteNS rfl (q H1 s1)⟩⟩
end
end Cv

set_option maxRecDepth 100000
set_option maxHeartbeats 4000000
/-! rules: bars, first_bar, is_right, gives, barred_by. -/
namespace Cv
open PySem PySem.Spec PyProof.Rows L2

theorem barsM_range {r : Rule} {cs : List (Option Str)} (h : r.length = cs.length) : barsM r cs = (List.range cs.length).all fun i => hits (r.getD i none) (cs.getD i none) := by
  rw [← barsM_map, ← as_map none r h, ← as_map none cs rfl]
theorem inV_hits {ns : List Str} : ∀ {c : Option Str}, inV (oV c) (ns.map V.str) = hits (some ns) c
  | none => inV_non
  | some c => inV_strs
theorem oV_flat (c : Option Str) : flatV (oV c) = true := by cases c <;> rfl
theorem row_flat (cs : List (Option Str)) : (cs.map oV).all flatV = true := by
  rw [List.all_map]
  exact List.all_eq_true.mpr fun c _ => oV_flat c
theorem row_get {cs : List (Option Str)} {i : Nat} (h : i < cs.length) : (cs.map oV).getD i .non = oV (cs.getD i none) := by
  rw [getD_lt (by rw [List.length_map]; exact h), getD_lt h, List.getElem_map]
theorem paired_getD {F : V → Option (List Str) → Prop} {ys : List V} {r : Rule} {i : Nat} (h : Paired F ys r) (hi : i < ys.length) : F (ys.getD i .non) (r.getD i none) := by
  obtain ⟨n, hn, f⟩ := paired_get h (List.getElem?_eq_getElem hi)
  rw [getD_lt hi, List.getD_eq_getElem?_getD, hn]
  exact f
/-- the numbers of the rules that bar -/
def barNs (R : List Rule) (cs : List (Option Str)) : List Nat := (List.range R.length).filter fun i => barsM (R.getD i []) cs
theorem barNs_nil {R : List Rule} {cs : List (Option Str)} : barNs R cs = [] ↔ anyBar R cs = false := by
  unfold barNs anyBar
  rw [List.filter_eq_nil_iff, List.any_eq_false]
  constructor
  · intro h r hr
    obtain ⟨j, hj, e⟩ := List.mem_iff_getElem.mp hr
    have := h j (List.mem_range.mpr hj)
    rw [getD_lt hj, e] at this
    exact this
  · intro h j hj
    have hj := List.mem_range.mp hj
    rw [getD_lt hj]
    exact h _ (List.getElem_mem hj)
theorem ints_of {l : List Nat} : l.map (fun i : Nat => V.int (i : Nat)) = (l.map (fun i : Nat => (i : Int))).map V.int := by rw [List.map_map]; rfl

section
variable {P : Program} {w : World} {K : PySem.W.Frag} {mg : Str → Option Value} {base : Heap}

abbrev st_bars : Stmt := topS 34
theorem sc_bars : FnScope ["rule", "codes", "code", "named"] ["rule", "codes"] (defScope st_bars) := C8.fnScope_by (by decide +kernel)
def spBars (K : PySem.W.Frag) : Sp := fun vs H Q _ => ∃ (t u : V) (r : Rule) (cs : List (Option Str)), vs = [t, u] ∧ IsRule K H t r ∧ IsRow K H u cs ∧ r.length = cs.length ∧ cs.length ≤ 4 ∧ ∀ H', Same H H' → Q (.bl (barsM r cs)) H'
theorem ok_bars (T : Top mg) (D : At K mg "bars" st_bars) : C8.Cal P w K mg base 1 "bars" (spBars K) [] := by
  refine cal_of D sc_bars ?len (fun _ _ _ _ _ _ us hl => match us, hl with | [_, _], _ => rfl) (fun f cdv A outer s H vs Q E hr h => ?body)
  case len =>
    intro vs H Q E ⟨i, n, o, m, e, _⟩
    rw [e]; rfl
  case body =>
    obtain ⟨t, u, r, cs, rfl, ⟨a, xs, rfl, hT, hR⟩, ⟨b, rfl, hB⟩, hl, h4, q⟩ := h
    have hlx : xs.length = r.length := paired_len hR
    have hlm : (cs.map oV).length = cs.length := List.length_map _
    refine ⟨_, (pss_one (ps_ret (pe_callB (cr_all rfl) (by rfl) T.all (by decide +kernel) (pa_cons (pe_lc (own := [("code", 2), ("named", 3)]) (g := (gTup K 2 (gCons (gName 2) (gCons (gName 3) gNil)))) (tt := tYes) rfl sc_bars.nd (pi_zs (by rfl) T.zip (pa_cons (pv 1) (pa_cons (pv 0) pa_nil)) (pk_cons pe_bl pk_nil)) (blkOk_by (own := [("code", 2), ("named", 3)]) (N := ["rule", "codes", "code", "named"]) (sc := defScope st_bars) (by decide +kernel)) (fun _ _ _ _ _ => (pg_tup rfl (pgs_cons (pg_name (i := 2) sc_bars.nd rfl (by first | exact Or.inl rfl | exact Or.inr rfl)) (pgs_cons (pg_name (i := 3) sc_bars.nd rfl (by first | exact Or.inl rfl | exact Or.inr rfl)) pgs_nil)))) (fun _ _ _ _ _ => pts_nil) (fun _ _ _ _ _ => (pe_or (pe_cmpR op_isN (pv 3) pe_non (nomark _)) (pe_one (pe_cmpR (op_inK (K := K) rfl) (pv 2) (pv 3) (by rfl)))))) pa_nil)))), ?_⟩
    refine ⟨_, rfl, _, rfl, b, a, _, xs, rfl, rfl, hB, hT, by omega, fun Dn hD => lc_vals (w := walk_itN) (by omega) (fun i => .bl (hits (r.getD i none) (cs.getD i none))) hD (fun H' s => ⟨(Same.tups s).seq hB, (Same.tups s).seq hT⟩) (fun i x H2 H3 C hi s y k => ?_) fun H' s e => ?_⟩
    · obtain ⟨U, rfl, hU, rfl⟩ := y
      rw [hlm] at hi
      have s2 : Same H2 (upd H2 U (.tup (vZip2 (cs.map oV) xs i))) := same_upd hU
      have s02 := s.trans s2
      refine ⟨U, _, rfl, sqT upd_same, rfl, _, _, rfl, _, _, rfl, rfl, rfl, ?_⟩
      have hnm := (paired_getD hR (i := i) (by omega)).mono (Same.tups s02)
      have hc := row_get hi
      generalize xs.getD i .non = v at hnm
      generalize r.getD i none = n at hnm k
      cases n with
      | none =>
        obtain rfl : v = .non := hnm
        exact ⟨_, rfl, rfl, _, rfl, iteS rfl (k _ s2)⟩
      | some ns =>
        obtain ⟨d, rfl, hd⟩ : IsTs K _ v ns := hnm
        refine ⟨_, rfl, rfl, _, rfl, iteSN (fun z => nomatch z) ⟨_, rfl, _, rfl, ?_⟩⟩
        rw [hc]
        exact in_ok (.inr hd) (oV_flat _) (flat_ts ns) inV_hits (k _ s2)
    · rw [hlm] at e
      refine ⟨Dn, _, rfl, bl_lst (f := fun i => hits (r.getD i none) (cs.getD i none)) e, ?_⟩
      rw [all_map_id, ← barsM_range hl]
      exact q _ s

abbrev st_first_bar : Stmt := topS 35
theorem sc_first_bar : FnScope ["rules", "codes", "k", "rule"] ["rules", "codes"] (defScope st_first_bar) := C8.fnScope_by (by decide +kernel)
structure BarPre (R : List Rule) (cs : List (Option Str)) : Prop where
  len : ∀ r ∈ R, r.length = cs.length
  four : cs.length ≤ 4
  few : R.length ≤ 20
def spFirst (K : PySem.W.Frag) : Sp := fun vs H Q _ => ∃ (t u : V) (R : List Rule) (cs : List (Option Str)), vs = [t, u] ∧ IsRules K H t R ∧ IsRow K H u cs ∧ BarPre R cs ∧
  (anyBar R cs = false → ∀ H', Same H H' → Q .non H') ∧ (anyBar R cs = true → ∀ k H', Same H H' → Q (.int k) H')
theorem ok_first_bar (T : Top mg) (D : At K mg "first_bar" st_first_bar) (g_bars : C8.Cal P w K mg base 1 "bars" (spBars K) []) : C8.Cal P w K mg base 2 "first_bar" (spFirst K) [] := by
  refine cal_of D sc_first_bar ?len (fun _ _ _ _ _ _ us hl => match us, hl with | [_, _], _ => rfl) (fun f cdv A outer s H vs Q E hr h => ?body)
  case len =>
    intro vs H Q E ⟨i, n, o, m, e, _⟩
    rw [e]; rfl
  case body =>
    obtain ⟨t, u, R, cs, rfl, ⟨a, xs, rfl, hT, hR⟩, hrow, pre, q0, q1⟩ := h
    have hlx : xs.length = R.length := paired_len hR
    have hfew := pre.few
    refine ⟨_, (pss_one (ps_ret (pe_callBK (cr_minN rfl hr.units) (by rfl) T.min (by decide +kernel) (pa_cons (pe_lc (own := [("k", 2), ("rule", 3)]) (g := (gTup K 2 (gCons (gName 2) (gCons (gName 3) gNil)))) (tt := _) rfl sc_first_bar.nd (pi_enum (by rfl) T.enumerate (pa_cons (pv 0) pa_nil)) (blkOk_by (own := [("k", 2), ("rule", 3)]) (N := ["rules", "codes", "k", "rule"]) (sc := defScope st_first_bar) (by decide +kernel)) (fun _ _ _ _ _ => (pg_tup rfl (pgs_cons (pg_name (i := 2) sc_first_bar.nd rfl (by first | exact Or.inl rfl | exact Or.inr rfl)) (pgs_cons (pg_name (i := 3) sc_first_bar.nd rfl (by first | exact Or.inl rfl | exact Or.inr rfl)) pgs_nil)))) (fun _ _ _ _ _ => (pts_one (pt_val (C8.pe_c g_bars hr (by decide) (by rfl) (pa_cons (pv 3) (pa_cons (pv 1) pa_nil)))))) (fun _ _ _ _ _ => (pv 2))) pa_nil) (pk_cons pe_non pk_nil)))), ?_⟩
    refine ⟨_, rfl, a, xs, rfl, sqL hT, fun Dn hD => lc_test (w := walk_enum (xs := xs)) (by omega) (fun i => barsM (R.getD i []) cs) (fun i => .int (i : Nat)) hD (fun H' s => sqL (s _ _ hT)) (fun i x H2 H3 C C' hi s y k k' => ?_) fun H' s e => ?_⟩
    · obtain ⟨U, x1, x2, rfl, hU, rfl, e1, e2⟩ := y
      obtain rfl : V.int (i : Nat) = x1 := Option.some.inj e1
      obtain ⟨r, hr, hrr⟩ := paired_get hR e2
      have s2 : Same H2 (upd H2 U (.tup [V.int (i : Nat), x2])) := same_upd hU
      have s02 := s.trans s2
      have er : R.getD i [] = r := by rw [List.getD_eq_getElem?_getD, hr]; rfl
      refine ⟨U, _, rfl, sqT upd_same, rfl, _, _, rfl, _, _, rfl, rfl, rfl, ?_⟩
      refine ⟨_, rfl, _, rfl, _, _, r, cs, rfl, hrr.mono (Same.tups s02), hrow.mono (Same.tups s02), pre.len r (List.mem_of_getElem? hr), pre.four, fun H4 s4 => ⟨_, rfl, ?_⟩⟩
      rw [er] at k k'
      cases hb : barsM r cs with
      | true => exact iteT ⟨_, rfl, k hb _ (s2.trans s4)⟩
      | false => exact iteF (k' hb _ (s2.trans s4))
    · rw [hlx] at e
      refine ⟨Dn, (barNs R cs).map (fun i : Nat => (i : Int)), rfl, rfl, sqL (by rw [e]; exact congrArg (fun l => some (HO.lst l)) ints_of), fun h0 => ?_, fun h0 m => ?_⟩
      · exact q0 (barNs_nil.mp (by simpa using h0)) _ s
      · refine q1 ?_ m _ s
        cases hb : anyBar R cs with
        | true => rfl
        | false => rw [barNs_nil.mpr hb] at h0; exact absurd rfl h0

abbrev st_is_right : Stmt := topS 36
theorem sc_is_right : FnScope ["rules", "record"] ["rules", "record"] (defScope st_is_right) := C8.fnScope_by (by decide +kernel)
def spRight (K : PySem.W.Frag) : Sp := fun vs H Q _ => ∃ (t u : V) (R : List Rule) (cs : List (Option Str)) (m : Int), vs = [t, u] ∧ IsRules K H t R ∧ IsRec K H u cs m ∧ BarPre R cs ∧ ∀ H', Same H H' → Q (.bl (!anyBar R cs)) H'
theorem ok_is_right (D : At K mg "is_right" st_is_right) (g_first_bar : C8.Cal P w K mg base 2 "first_bar" (spFirst K) []) : C8.Cal P w K mg base 3 "is_right" (spRight K) [] := by
  refine cal_of D sc_is_right ?len (fun _ _ _ _ _ _ us hl => match us, hl with | [_, _], _ => rfl) (fun f cdv A outer s H vs Q E hr h => ?body)
  case len =>
    intro vs H Q E ⟨i, n, o, m, u, e, _⟩
    rw [e]; rfl
  case body =>
    obtain ⟨t, u, R, cs, m, rfl, hR, ⟨a, rfl, hT⟩, pre, q⟩ := h
    refine ⟨_, (pss_one (ps_ret (pe_cmpR op_isN (C8.pe_c g_first_bar hr (by decide) (by rfl) (pa_cons (pv 0) (pa_cons (pe_slice (sl_tupK (K := K) rfl) (pv 1) po_none (po_some (pe_un un_neg pe_int))) pa_nil))) pe_non (nomark _)))), ?_⟩
    refine ⟨_, rfl, _, rfl, 1, rfl, -1, rfl, sl_init hT fun p H1 s1 hp => ?_⟩
    refine ⟨t, .ref p, R, cs, rfl, hR.mono s1, ⟨p, rfl, hp⟩, pre, fun hb H2 s2 => ⟨rfl, ?_⟩, fun hb k H2 s2 => ⟨rfl, ?_⟩⟩
    · have := q _ (s1.trans s2)
      rw [hb] at this
      exact this
    · have := q _ (s1.trans s2)
      rw [hb] at this
      exact this

abbrev st_gives : Stmt := topS 37
theorem sc_gives : FnScope ["rules", "record"] ["rules", "record"] (defScope st_gives) := C8.fnScope_by (by decide +kernel)
def spGives (K : PySem.W.Frag) : Sp := fun vs H Q _ => ∃ (t u : V) (R : List Rule) (row : List Str) (m : Int), vs = [t, u] ∧ IsRules K H t R ∧ IsRec K H u (row.map some) m ∧ BarPre R (row.map some) ∧ ∀ H', Same H H' → Q (.bl (!anyBar R (row.map some))) H'
theorem ok_gives (D : At K mg "gives" st_gives) (g_is_right : C8.Cal P w K mg base 3 "is_right" (spRight K) []) : C8.Cal P w K mg base 4 "gives" (spGives K) [] := by
  refine cal_of D sc_gives ?len (fun _ _ _ _ _ _ us hl => match us, hl with | [_, _], _ => rfl) (fun f cdv A outer s H vs Q E hr h => ?body)
  case len =>
    intro vs H Q E ⟨i, n, o, m, u, e, _⟩
    rw [e]; rfl
  case body =>
    obtain ⟨t, u, R, row, m, rfl, hR, ⟨a, rfl, hT⟩, pre, q⟩ := h
    refine ⟨_, (pss_one (ps_ret (pe_and (pe_cmpR (op_notInK (K := K) rfl) pe_non (pv 1) (by rfl)) (pe_one (C8.pe_c g_is_right hr (by decide) (by rfl) (pa_cons (pv 0) (pa_cons (pv 1) pa_nil))))))), ?_⟩
    have fl : ((row.map some).map oV ++ [V.int m]).all flatV = true := by
      rw [List.all_append, row_flat]
      rfl
    have no : inV .non ((row.map some).map oV ++ [V.int m]) = false := by
      unfold inV
      refine List.any_eq_false.mpr fun x hx e => ?_
      rcases List.mem_append.mp hx with hx | hx
      · rw [List.map_map] at hx
        obtain ⟨c, _, rfl⟩ := List.mem_map.mp hx
        cases e
      · rw [List.mem_singleton.mp hx] at e
        cases e
    exact ⟨_, rfl, notIn_ok (b := false) (.inr hT) rfl fl no ⟨true, rfl, iteT ⟨_, rfl, _, rfl, t, _, R, _, m, rfl, hR, ⟨a, rfl, hT⟩, pre, q⟩⟩⟩

abbrev st_barred_by : Stmt := topS 38
theorem sc_barred_by : FnScope ["plan", "rules", "record", "k", "rule"] ["plan", "rules", "record"] (defScope st_barred_by) := C8.fnScope_by (by decide +kernel)
def spBarred (K : PySem.W.Frag) : Sp := fun vs H Q _ => ∃ (t u v : V) (P : List PSort) (R : List Rule) (cs : List (Option Str)) (m : Int), vs = [t, u, v] ∧ IsPlan K H t P ∧ IsRules K H u R ∧ IsRec K H v cs m ∧ GoodPlan P ∧ GoodRules P R ∧ GoodRec P cs m ∧
  ∀ H' p ns, Same H H' → H p = none → H' p = some (.lst (ns.map V.int)) → (ns = [] ↔ anyBar R cs = false) → Q (.ref p) H'
theorem barPre_of {P : List PSort} {R : List Rule} {cs : List (Option Str)} (gp : GoodPlan P) (gr : GoodRules P R) (hl : cs.length = P.length) : BarPre R cs := ⟨fun r hr => by rw [(gr.each r hr).len, hl], by rw [hl]; exact gp.hi, gr.few⟩
theorem ok_barred_by (T : Top mg) (D : At K mg "barred_by" st_barred_by) (g_must_be_rules : C8.Cal P w K mg base 8 "must_be_rules" (spRules K) []) (g_must_be_record : C8.Cal P w K mg base 8 "must_be_record" (spRecIn K) []) (g_bars : C8.Cal P w K mg base 1 "bars" (spBars K) []) : C8.Cal P w K mg base 9 "barred_by" (spBarred K) [] := by
  refine cal_of D sc_barred_by ?len (fun _ _ _ _ _ _ us hl => match us, hl with | [_, _, _], _ => rfl) (fun f cdv A outer s H vs Q E hr h => ?body)
  case len =>
    intro vs H Q E ⟨i, n, o, m, u, p, r, e, _⟩
    rw [e]; rfl
  case body =>
    obtain ⟨t, u, v, Pl, R, cs, m, rfl, hP, hRs, hrec, gp, gr, grec, q⟩ := h
    have pre := barPre_of gp gr grec.row.len
    have hfew := pre.few
    refine ⟨_, (pss_cons (ps_expr (C8.pe_c g_must_be_rules hr (by decide) (by rfl) (pa_cons (pv 0) (pa_cons (pv 1) pa_nil))))
      (pss_cons (ps_expr (C8.pe_c g_must_be_record hr (by decide) (by rfl) (pa_cons (pv 0) (pa_cons (pv 2) pa_nil))))
      (pss_one (ps_ret (pe_lc (own := [("k", 3), ("rule", 4)]) (g := (gTup K 2 (gCons (gName 3) (gCons (gName 4) gNil)))) (tt := _) rfl sc_barred_by.nd (pi_enum (by rfl) T.enumerate (pa_cons (pv 1) pa_nil)) (blkOk_by (own := [("k", 3), ("rule", 4)]) (N := ["plan", "rules", "record", "k", "rule"]) (sc := defScope st_barred_by) (by decide +kernel)) (fun _ _ _ _ _ => (pg_tup rfl (pgs_cons (pg_name (i := 3) sc_barred_by.nd rfl (by first | exact Or.inl rfl | exact Or.inr rfl)) (pgs_cons (pg_name (i := 4) sc_barred_by.nd rfl (by first | exact Or.inl rfl | exact Or.inr rfl)) pgs_nil)))) (fun _ _ _ _ _ => (pts_one (pt_val (C8.pe_c g_bars hr (by decide) (by rfl) (pa_cons (pv 4) (pa_cons (pe_slice (sl_tupK (K := K) rfl) (pv 2) po_none (po_some (pe_un un_neg pe_int))) pa_nil)))))) (fun _ _ _ _ _ => (pv 3))))))), ?_⟩
    refine ⟨_, rfl, _, rfl, t, u, Pl, R, rfl, hP, hRs, gp, gr, fun H1 s1 => ?_⟩
    refine ⟨_, rfl, _, rfl, t, v, Pl, cs, m, rfl, hP.mono (Same.tups s1), hrec.mono (Same.tups s1), gp, grec, fun H2 s2 => ?_⟩
    have s02 := s1.trans s2
    obtain ⟨a, xs, rfl, hT, hR⟩ := hRs
    obtain ⟨b, rfl, hB⟩ := hrec
    have hlx : xs.length = R.length := paired_len hR
    refine ⟨_, rfl, a, xs, rfl, sqL (s02 _ _ hT), fun Dn hD => lc_test (w := walk_enum (xs := xs)) (by omega) (fun i => barsM (R.getD i []) cs) (fun i => .int (i : Nat)) hD (fun H' s => sqL (s _ _ (s02 _ _ hT))) (fun i x H3 H4 C C' hi s y k k' => ?_) fun H' s e => ?_⟩
    · obtain ⟨U, x1, x2, rfl, hU, rfl, e1, e2⟩ := y
      obtain rfl : V.int (i : Nat) = x1 := Option.some.inj e1
      obtain ⟨r, hr, hrr⟩ := paired_get hR e2
      have s4 : Same H3 (upd H3 U (.tup [V.int (i : Nat), x2])) := same_upd hU
      have s04 := (s02.trans s).trans s4
      have er : R.getD i [] = r := by rw [List.getD_eq_getElem?_getD, hr]; rfl
      refine ⟨U, _, rfl, sqT upd_same, rfl, _, _, rfl, _, _, rfl, rfl, rfl, ?_⟩
      refine ⟨_, rfl, _, rfl, 1, rfl, -1, rfl, sl_init ((Same.tups s04).seq hB) fun p H5 s5 hp => ?_⟩
      refine ⟨_, _, r, cs, rfl, hrr.mono (Same.tups (s04.trans s5)), ⟨p, rfl, hp⟩, pre.len r (List.mem_of_getElem? hr), pre.four, fun H6 s6 => ⟨_, rfl, ?_⟩⟩
      have s36 := (s4.trans s5).trans s6
      rw [er] at k k'
      cases hb : barsM r cs with
      | true => exact iteT ⟨_, rfl, k hb _ s36⟩
      | false => exact iteF (k' hb _ s36)
    · rw [hlx] at e
      exact q H' Dn ((barNs R cs).map (fun i : Nat => (i : Int))) (s02.trans s) (s02.free hD) (by rw [e]; exact congrArg (fun l => some (HO.lst l)) ints_of) (by rw [List.map_eq_nil_iff]; exact barNs_nil)
end
end Cv

set_option maxRecDepth 100000
set_option maxHeartbeats 4000000
/-! mends: must_be_costs, must_be_asked, beside, full_codes, cheapest. -/
namespace Cv
open PySem PySem.Spec PyProof.Rows L2

/-! ### two clauses -/
section
variable {J : It} {n : Nat} {G : Hp → Prop} {Y : Nat → Hp → V → Hp → Prop} {H1 : Hp} {Qd : Hp → Prop}
theorem lc2_it (w : Walk J n G Y) (Pv : Nat → Hp → Prop) (T : (Nat → Hp → Prop) → Nat → V → Hp → Prop) (h0 : Pv 0 H1) (hG : ∀ i H, i ≤ n → Pv i H → G H)
    (hs : ∀ i x H H', i < n → Pv i H → Y i H x H' → T Pv i x H') (hd : ∀ H, Pv n H → Qd H) :
    ∃ W : Nat → Nat → Hp → Prop, (∃ m, W 0 m H1) ∧ ∀ i m H, W i m H → (J.stop i H ∧ Qd H) ∨ (J.go i H ∧ (∀ H', Pv (i + 1) H' → ∃ m', m' < m ∧ W (i + 1) m' H') ∧ ∀ x H', J.yld i H x H' → T Pv i x H') := by
  refine ⟨fun i m H => m = n - i ∧ i ≤ n ∧ Pv i H, ⟨n, by simp, Nat.zero_le _, h0⟩, ?_⟩
  rintro i m H ⟨rfl, hi, p⟩
  have q := hG i H hi p
  by_cases hlt : i < n
  · exact .inr ⟨w.goes i H hlt q, fun H' p' => ⟨n - (i + 1), by omega, rfl, hlt, p'⟩, fun x H' y => hs i x H H' hlt p (w.yields i H x H' hlt q y)⟩
  · have e : i = n := by omega
    subst e
    exact .inl ⟨w.stops H q, hd H p⟩
end

theorem yes_ok {σ : L2.St} {H : Hp} {f g : Hp → Prop} (h : f H) : tYes σ H (fun b H3 => if b = true then f H3 else g H3) := by
  show if true = true then f H else g H
  exact iteT h
/-! ### plain -/
theorem sum_filter_range {n : Nat} {b : Nat → Bool} {f : Nat → Int} : (((List.range (n + 1)).filter b).map f).sum = (if b 0 then f 0 else 0) + (((List.range n).filter fun i => b (i + 1)).map fun i => f (i + 1)).sum := by
  rw [List.range_succ_eq_map, List.filter_cons]
  have e : List.filter b (List.map Nat.succ (List.range n)) = ((List.range n).filter fun i => b (i + 1)).map Nat.succ := by rw [List.filter_map]; rfl
  rw [e]
  split
  · rw [List.map_cons, List.sum_cons, List.map_map]; rfl
  · rw [List.map_map, Int.zero_add]; rfl
theorem besideM_range {α : Type} [DecidableEq α] : ∀ {n : Nat} {C : List Int} {xs ys : List (Option α)}, C.length = n → xs.length = n → ys.length = n →
    besideM C xs ys = (((List.range n).filter fun i => !decide (xs.getD i none = ys.getD i none)).map fun i => C.getD i 0).sum
  | 0, C, xs, ys, h1, h2, h3 => by
    rw [List.eq_nil_of_length_eq_zero h1]
    rfl
  | n + 1, [], _, _, h1, _, _ => by simp at h1
  | n + 1, _ :: _, [], _, _, h2, _ => by simp at h2
  | n + 1, _ :: _, _ :: _, [], _, _, h3 => by simp at h3
  | n + 1, c :: C, x :: xs, y :: ys, h1, h2, h3 => by
    rw [besideM_cons, sum_filter_range, besideM_range (n := n) (C := C) (xs := xs) (ys := ys) (by simpa using h1) (by simpa using h2) (by simpa using h3)]
    congr 1
    by_cases e : x = y
    · subst e; simp
    · simp [e]
theorem oV_eq {a b : Option Str} : decide (oV a = oV b) = decide (a = b) := by
  cases a <;> cases b <;> simp [oV]
theorem oV_scal (a b : Option Str) : scal (oV a) (oV b) = true := by cases a <;> cases b <;> rfl
theorem grow_len {S : List (List Str)} {cs : List Str} : (grow S cs).length = S.length * cs.length := by
  unfold grow
  induction S with
  | nil => simp
  | cons a S ih => rw [List.flatMap_cons, List.length_append, ih, List.length_map, List.length_cons, Nat.add_mul]; omega
theorem fold_len : ∀ (P : List (List Str)) (S : List (List Str)) (k : Nat), (∀ cs ∈ P, cs.length ≤ 6) → P.length ≤ k → S.length ≤ 6 ^ (4 - k) → k ≤ 4 → (P.foldl grow S).length ≤ 1296
  | [], S, k, _, _, hS, hk => Nat.le_trans hS (by
    have : 6 ^ (4 - k) ≤ 6 ^ 4 := Nat.pow_le_pow_right (by decide) (by omega)
    exact this)
  | cs :: P, S, 0, _, h, _, _ => by simp at h
  | cs :: P, S, k + 1, h, hl, hS, hk => by
    rw [List.foldl_cons]
    refine fold_len P _ k (fun c hc => h c (List.mem_cons_of_mem _ hc)) (by simpa using hl) ?_ (by omega)
    rw [grow_len, show 4 - k = (4 - (k + 1)) + 1 by omega, Nat.pow_succ]
    exact Nat.mul_le_mul hS (h cs List.mem_cons_self)
theorem grow_take_succ {S : List (List Str)} {cs : List Str} {i : Nat} {row : List Str} (h : S[i]? = some row) : grow (S.take (i + 1)) cs = grow (S.take i) cs ++ cs.map fun c => row ++ [c] := by
  unfold grow
  rw [List.take_add_one, h, List.flatMap_append]
  simp
theorem pre_succ {P : List (List Str)} {i : Nat} {cs : List Str} (h : P[i]? = some cs) : (P.take (i + 1)).foldl grow [[]] = grow ((P.take i).foldl grow [[]]) cs := by
  rw [List.take_add_one, h, List.foldl_append]
  rfl
theorem ts_app {K : PySem.W.Frag} {H : Hp} {p : Addr} {row : List Str} {c : Str} (h : SqT K H p (row.map V.str ++ [.str c])) : IsTs K H (.ref p) (row ++ [c]) := ⟨p, rfl, by rw [List.map_append]; exact h⟩

section
variable {P : Program} {w : World} {K : PySem.W.Frag} {mg : Str → Option Value} {base : Heap}

abbrev st_must_be_costs : Stmt := topS 41
theorem sc_must_be_costs : FnScope ["plan", "costs", "cost"] ["plan", "costs"] (defScope st_must_be_costs) := C8.fnScope_by (by decide +kernel)
def spCosts (K : PySem.W.Frag) : Sp := fun vs H Q _ => ∃ (t u : V) (P : List PSort) (C : List Int), vs = [t, u] ∧ IsPlan K H t P ∧ IsCosts K H u C ∧ GoodPlan P ∧ GoodCosts P C ∧ ∀ H', Same H H' → Q .non H'
theorem ok_must_be_costs (T : Top mg) (D : At K mg "must_be_costs" st_must_be_costs) (g_is_whole : C8.Cal P w K mg base 1 "is_whole" spIsWhole []) : C8.Cal P w K mg base 2 "must_be_costs" (spCosts K) [] := by
  refine cal_of D sc_must_be_costs ?len (fun _ _ _ _ _ _ us hl => match us, hl with | [_, _], _ => rfl) (fun f cdv A outer s H vs Q E hr h => ?body)
  case len =>
    intro vs H Q E ⟨i, n, o, m, e, _⟩
    rw [e]; rfl
  case body =>
    obtain ⟨t, u, Pl, C, rfl, ⟨a, xs, rfl, hT, hP⟩, ⟨b, rfl, hB⟩, gp, gc, q⟩ := h
    have hl : xs.length = Pl.length := paired_len hP
    have hlc : (C.map V.int).length = C.length := List.length_map _
    have hi := gp.hi
    have hcl := gc.len
    refine ⟨_, (pss_cons (ps_if (PW.pt (pw_or (pt_not (pt_val (pe_callB call_isi (by rfl) T.isinstance (by decide +kernel) (pa_cons (pv 1) (pa_cons (pe_bltn (v := .ty "tuple") (by rfl) T.tuple (by decide +kernel) rfl) pa_nil))))) (pw_or1 (pt_cmpR op_ne (pe_callB (call_lenK (K := K) rfl) (by rfl) T.len (by decide +kernel) (pa_cons (pv 1) pa_nil)) (pe_callB (call_lenK (K := K) rfl) (by rfl) T.len (by decide +kernel) (pa_cons (pv 0) pa_nil)) (nomark _))))) (pss_one ps_never) pss_nil)
      (pss_one (ps_if (pt_not (pt_val (pe_callB (cr_all rfl) (by rfl) T.all (by decide +kernel) (pa_cons (pe_lc (own := [("cost", 2)]) (g := (gName 2)) (tt := tYes) rfl sc_must_be_costs.nd (pi_tupK (K := K) rfl (pv 1)) (blkOk_by (own := [("cost", 2)]) (N := ["plan", "costs", "cost"]) (sc := defScope st_must_be_costs) (by decide +kernel)) (fun _ _ _ _ _ => (pg_name (i := 2) sc_must_be_costs.nd rfl (by first | exact Or.inl rfl | exact Or.inr rfl))) (fun _ _ _ _ _ => pts_nil) (fun _ _ _ _ _ => (pe_and (C8.pe_c g_is_whole hr (by decide) (by rfl) (pa_cons (pv 2) pa_nil)) (pe_one (pe_chain op_le op_le pe_int (pv 2) (C8.pe_gc (by rfl) T.MOST_COST)))))) pa_nil)))) (pss_one ps_never) pss_nil))), ?_⟩
    refine ⟨_, rfl, _, _, _, _, true, rfl, .ty _, tyT hB, kit_ty (by decide +kernel), true, rfl, iteF ?_⟩
    refine ⟨_, rfl, _, _, rfl, len_tup hB, _, rfl, _, _, rfl, len_tup hT, rfl, _, rfl, iteNS (by rw [hlc, hl, hcl]) ?_⟩
    refine ⟨_, rfl, b, rfl, ⟨_, hB⟩, fun Dn hD => lc_vals (w := walk_tup (xs := C.map V.int)) (by omega) (fun _ => .bl true) hD (fun H' s => (Same.tups s).seq hB) (fun i x H2 H3 CC hi s y k => ?_) fun H' s e => ⟨Dn, _, rfl, bl_trues e, true, by rw [all_trues], iteF (q _ s)⟩⟩
    obtain ⟨rfl, hx⟩ := y
    rw [List.getElem?_map] at hx
    obtain ⟨c, hc, rfl⟩ := Option.map_eq_some_iff.mp hx
    have g := gc.each c (List.mem_of_getElem? hc)
    refine ⟨rfl, _, rfl, c, rfl, true, rfl, iteT ⟨_, rfl, _, _, rfl, rfl, _, rfl, iteS g.1 ⟨_, _, rfl, rfl, ?_⟩⟩⟩
    show CC (.bl (decide (c ≤ 1000))) H3
    rw [decide_eq_true g.2]
    exact k _ (Same.refl _)

abbrev st_must_be_asked : Stmt := topS 47
theorem sc_must_be_asked : FnScope ["plan", "rules", "costs"] ["plan", "rules", "costs"] (defScope st_must_be_asked) := C8.fnScope_by (by decide +kernel)
def spAsked (K : PySem.W.Frag) : Sp := fun vs H Q _ => ∃ (t u v : V) (P : List PSort) (R : List Rule) (C : List Int), vs = [t, u, v] ∧ IsPlan K H t P ∧ IsRules K H u R ∧ IsCosts K H v C ∧ GoodPlan P ∧ GoodRules P R ∧ GoodCosts P C ∧ ∀ H', Same H H' → Q .non H'
theorem ok_must_be_asked (D : At K mg "must_be_asked" st_must_be_asked) (g_must_be_rules : C8.Cal P w K mg base 8 "must_be_rules" (spRules K) []) (g_must_be_costs : C8.Cal P w K mg base 2 "must_be_costs" (spCosts K) []) : C8.Cal P w K mg base 9 "must_be_asked" (spAsked K) [] := by
  refine cal_of D sc_must_be_asked ?len (fun _ _ _ _ _ _ us hl => match us, hl with | [_, _, _], _ => rfl) (fun f cdv A outer s H vs Q E hr h => ?body)
  case len =>
    intro vs H Q E ⟨i, n, o, m, p, r, e, _⟩
    rw [e]; rfl
  case body =>
    obtain ⟨t, u, v, Pl, R, C, rfl, hP, hR, hC, gp, gr, gc, q⟩ := h
    refine ⟨_, (pss_cons (ps_expr (C8.pe_c g_must_be_rules hr (by decide) (by rfl) (pa_cons (pv 0) (pa_cons (pv 1) pa_nil))))
      (pss_one (ps_expr (C8.pe_c g_must_be_costs hr (by decide) (by rfl) (pa_cons (pv 0) (pa_cons (pv 2) pa_nil)))))), ?_⟩
    refine ⟨_, rfl, _, rfl, t, u, Pl, R, rfl, hP, hR, gp, gr, fun H1 s1 => ?_⟩
    exact ⟨_, rfl, _, rfl, t, v, Pl, C, rfl, hP.mono (Same.tups s1), hC.mono (Same.tups s1), gp, gc, fun H2 s2 => q _ (s1.trans s2)⟩

abbrev st_beside : Stmt := topS 42
theorem sc_beside : FnScope ["costs", "one", "other", "cost", "code", "beyond"] ["costs", "one", "other"] (defScope st_beside) := C8.fnScope_by (by decide +kernel)
def spBeside (K : PySem.W.Frag) : Sp := fun vs H Q _ => ∃ (t u v : V) (C : List Int) (xs ys : List (Option Str)) (m : Int), vs = [t, u, v] ∧ IsCosts K H t C ∧ IsRow K H u xs ∧ IsRec K H v ys m ∧ xs.length = C.length ∧ ys.length = C.length ∧ C.length ≤ 4 ∧ ∀ H', Same H H' → Q (.int (besideM C xs ys)) H'
theorem ok_beside (T : Top mg) (D : At K mg "beside" st_beside) : C8.Cal P w K mg base 1 "beside" (spBeside K) [] := by
  refine cal_of D sc_beside ?len (fun _ _ _ _ _ _ us hl => match us, hl with | [_, _, _], _ => rfl) (fun f cdv A outer s H vs Q E hr h => ?body)
  case len =>
    intro vs H Q E ⟨i, n, o, m, p, r, z, e, _⟩
    rw [e]; rfl
  case body =>
    obtain ⟨t, u, v, C, xs, ys, m, rfl, ⟨a, rfl, hA⟩, ⟨b, rfl, hB⟩, ⟨c, rfl, hC⟩, h1, h2, h4, q⟩ := h
    have l1 : (C.map V.int).length = C.length := List.length_map _
    have l2 : (xs.map oV).length = C.length := (List.length_map _).trans h1
    have l3 : (ys.map oV ++ [V.int m]).length = C.length + 1 := by simp [h2]
    refine ⟨_, (pss_one (ps_ret (pe_callB (cr_sum rfl) (by rfl) T.sum (by decide +kernel) (pa_cons (pe_lc (own := [("cost", 3), ("code", 4), ("beyond", 5)]) (g := (gTup K 3 (gCons (gName 3) (gCons (gName 4) (gCons (gName 5) gNil))))) (tt := _) rfl sc_beside.nd (pi_zip3 (by rfl) T.zip (pa_cons (pv 0) (pa_cons (pv 1) (pa_cons (pv 2) pa_nil)))) (blkOk_by (own := [("cost", 3), ("code", 4), ("beyond", 5)]) (N := ["costs", "one", "other", "cost", "code", "beyond"]) (sc := defScope st_beside) (by decide +kernel)) (fun _ _ _ _ _ => (pg_tup rfl (pgs_cons (pg_name (i := 3) sc_beside.nd rfl (by first | exact Or.inl rfl | exact Or.inr rfl)) (pgs_cons (pg_name (i := 4) sc_beside.nd rfl (by first | exact Or.inl rfl | exact Or.inr rfl)) (pgs_cons (pg_name (i := 5) sc_beside.nd rfl (by first | exact Or.inl rfl | exact Or.inr rfl)) pgs_nil))))) (fun _ _ _ _ _ => (pts_one (pt_cmpR op_ne (pv 4) (pv 5) (nomark _)))) (fun _ _ _ _ _ => (pv 3))) pa_nil)))), ?_⟩
    refine ⟨_, rfl, _, rfl, _, rfl, a, b, c, _, _, _, rfl, hA, hB, hC, ?_⟩
    have e3 : min3 (C.map V.int).length (xs.map oV).length (ys.map oV ++ [V.int m]).length = C.length := by unfold min3; omega
    refine fun Dn hD => lc_test (w := walk_itN) (by omega) (fun i => !decide (xs.getD i none = ys.getD i none)) (fun i => .int (C.getD i 0)) hD (fun H' s => ⟨(Same.tups s).seq hA, (Same.tups s).seq hB, (Same.tups s).seq hC⟩) (fun i x H2 H3 CC C' hi s y k k' => ?_) fun H' s e => ?_
    · obtain ⟨U, rfl, hU, rfl⟩ := y
      have hi : i < C.length := by omega
      have s2 : Same H2 (upd H2 U (.tup (vZip3 (C.map V.int) (xs.map oV) (ys.map oV ++ [V.int m]) i))) := same_upd hU
      have e1 : (C.map V.int).getD i .non = .int (C.getD i 0) := by
        rw [getD_lt (by omega), getD_lt hi, List.getElem_map]
      have e2 : (xs.map oV).getD i .non = oV (xs.getD i none) := row_get (by omega)
      have e4 : (ys.map oV ++ [V.int m]).getD i .non = oV (ys.getD i none) := by
        rw [getD_lt (by omega), List.getElem_append_left (by rw [List.length_map]; omega), getD_lt (by omega), List.getElem_map]
      refine ⟨U, _, rfl, sqT upd_same, rfl, _, _, rfl, _, _, rfl, _, _, rfl, rfl, rfl, ?_⟩
      refine ⟨_, rfl, _, rfl, ?_⟩
      rw [e2, e4]
      refine ⟨oV_scal _ _, _, rfl, ?_⟩
      rw [oV_eq]
      cases hb : decide (xs.getD i none = ys.getD i none) with
      | true => exact iteF (k' (by rw [hb]; rfl) _ s2)
      | false =>
        refine iteT ⟨_, rfl, ?_⟩
        rw [e1]
        exact k (by rw [hb]; rfl) _ s2
    · rw [e3] at e
      refine ⟨Dn, ((List.range C.length).filter fun i => !decide (xs.getD i none = ys.getD i none)).map fun i => C.getD i 0, rfl, sqL (by rw [e, List.map_map]; rfl), ?_⟩
      rw [← besideM_range rfl h1 h2]
      exact q _ s

abbrev st_full_codes : Stmt := topS 43
theorem sc_full_codes : FnScope ["plan", "found", "name", "codes", "row", "code"] ["plan"] (defScope st_full_codes) := C8.fnScope_by (by decide +kernel)
def spFull (K : PySem.W.Frag) : Sp := fun vs H Q _ => ∃ (t : V) (P : List PSort), vs = [t] ∧ IsPlan K H t P ∧ GoodPlan P ∧ ∀ H' p xs, Same H H' → H' p = some (.lst xs) → Paired (IsTs K H') xs (fullM (P.map (·.2))) → xs.length ≤ 1296 → Q (.ref p) H'
theorem ok_full_codes (T : Top mg) (D : At K mg "full_codes" st_full_codes) : C8.Cal P w K mg base 1 "full_codes" (spFull K) [] := by
  refine cal_of D sc_full_codes ?len (fun _ _ _ _ _ _ us hl => match us, hl with | [_], _ => rfl) (fun f cdv A outer s H vs Q E hr h => ?body)
  case len =>
    intro vs H Q E ⟨i, n, e, _⟩
    rw [e]; rfl
  case body =>
    obtain ⟨t, Pl, rfl, ⟨a, xs, rfl, hT, hP⟩, gp, q⟩ := h
    have hl : xs.length = Pl.length := paired_len hP
    have hhi := gp.hi
    have h6 : ∀ cs ∈ Pl.map (·.2), cs.length ≤ 6 := fun cs hc => by
      obtain ⟨s, hs, rfl⟩ := List.mem_map.mp hc
      exact (gp.sort s hs).codes.hi
    have hpre : ∀ i, (((Pl.map (·.2)).take i).foldl grow [[]]).length ≤ 1296 := fun i => fold_len _ _ 4 (fun cs hc => h6 cs (List.mem_of_mem_take hc)) (by rw [List.length_take, List.length_map]; omega) (by decide) (by decide)
    refine ⟨_, (pss_cons (ps_set (i := 1) sc_full_codes.nd rfl (by first | exact Or.inl rfl | exact Or.inr rfl) (pe_lst (pa_cons (pe_tup pa_nil) pa_nil)))
      (pss_cons (ps_for PassesOwn.never rfl (pi_tupK (K := K) rfl (pv 0)) (pg_tup rfl (pgs_cons (pg_name (i := 2) sc_full_codes.nd rfl (by first | exact Or.inl rfl | exact Or.inr rfl)) (pgs_cons (pg_name (i := 3) sc_full_codes.nd rfl (by first | exact Or.inl rfl | exact Or.inr rfl)) pgs_nil)))
      (pss_one (ps_setLc2 (i := 1) (own := [("row", 4), ("code", 5)]) (g := (gName 4)) (tt := tYes) rfl sc_full_codes.nd rfl rfl (sw_true rfl rfl rfl (by decide +kernel)) (pi_listK (K := K) rfl (pv 1)) (blkOk_by (own := [("row", 4), ("code", 5)]) (N := ["plan", "found", "name", "codes", "row", "code"]) (sc := defScope st_full_codes) (by decide +kernel)) (vs1 := [5]) (by decide) (fun _ _ _ _ _ => (pg_name (i := 4) sc_full_codes.nd rfl (by first | exact Or.inl rfl | exact Or.inr rfl))) (fun _ _ _ _ _ => pts_nil) (fun _ _ _ _ _ => (pi_tupK (K := K) rfl (pv 3))) (fun _ _ _ _ _ => (pg_name (i := 5) sc_full_codes.nd rfl (by first | exact Or.inl rfl | exact Or.inr rfl))) (fun _ _ _ _ _ => pts_nil) (fun _ _ _ _ _ => (pe_op (op_catK (K := K) rfl) (pv 4) (pe_tup (pa_cons (pv 5) pa_nil)))))))
      (pss_one (ps_ret (pv 1))))), ?_⟩
    refine ⟨by decide, fun p0 hp0 => ⟨(by decide : 1 ≤ sizeLine), fun p1 hp1 => ?_⟩⟩
    have s0 : Same H (upd (upd H p0 (.tup [])) p1 (.lst [.ref p0])) := (same_upd hp0).trans (same_upd hp1)
    refine ⟨_, rfl, a, rfl, ⟨xs, (Same.tups s0).seq hT⟩, for_it (walk_tup (xs := xs)) (fun i σ H1 => Same H H1 ∧ ∃ p ys y2 y3, σ = [some (.ref a), some (.ref p), y2, y3, none, none] ∧ H1 p = some (.lst ys) ∧ Paired (IsTs K H1) ys (((Pl.map (·.2)).take i).foldl grow [[]])) ?_ (fun i σ H1 _ p => (Same.tups p.1).seq hT) (fun i x σ H9 H1 hi p y => ?_) fun σ H1 p => ?_⟩
    · exact ⟨s0, p1, _, none, none, rfl, upd_same, .cons ⟨p0, rfl, sqT (by rw [upd_ne (ne_of_none (upd_same : (upd H p0 (.tup [])) p0 = _) hp1)]; exact upd_same)⟩ .nil⟩
    · obtain ⟨s1, p, ys, y2, y3, rfl, hp, hys⟩ := p
      obtain ⟨rfl, hx⟩ := y
      obtain ⟨so, hso, b, c, rfl, hB, d, rfl, hD⟩ := paired_get hP hx
      have hcs : so.2.length ≤ 6 := h6 so.2 (List.mem_map.mpr ⟨so, List.mem_of_getElem? hso, rfl⟩)
      have hcl : (so.2.map V.str).length = so.2.length := List.length_map _
      have hyl := paired_len hys
      have hy := hpre i
      have hpc : (Pl.map (·.2))[i]? = some so.2 := by rw [List.getElem?_map, hso]; rfl
      have hSl : ∀ row ∈ ((Pl.map (·.2)).take i).foldl grow [[]], row.length ≤ 4 := fun row hr => by
        have := (mem_fullM.mp (show row ∈ fullM ((Pl.map (·.2)).take i) from hr)).length
        rw [this, List.length_take, List.length_map]
        omega
      generalize hS : ((Pl.map (·.2)).take i).foldl grow [[]] = S at hys hyl hy hSl
      refine ⟨b, _, rfl, (Same.tups s1).seq hB, rfl, _, _, rfl, _, _, rfl, rfl, ?_⟩
      refine ⟨_, rfl, p, rfl, ⟨ys, sqL hp⟩, fun Dn hD0 => ?_⟩
      have back : ∀ {H : Hp} {o : HO}, Same H1 H → Same H1 (upd H Dn o) := fun s b u e => by rw [upd_ne (ne_of_none e hD0)]; exact s _ _ e
      obtain ⟨W, w0, ws⟩ := lc2_it (walk_list (K := K) (a := p) (xs := ys)) (fun j H2 => Same H1 H2 ∧ ∃ acc, H2 Dn = some (.lst acc) ∧ Paired (IsTs K H2) acc (grow (S.take j) so.2))
        (fun Pv j x H2 => ∃ row, S[j]? = some row ∧ IsTs K H2 x row ∧ Pv j H2) (H1 := upd H1 Dn (.lst []))
        (Qd := fun H2 => Same H1 H2 ∧ ∃ acc, H2 Dn = some (.lst acc) ∧ Paired (IsTs K H2) acc (grow S so.2))
        ⟨back (Same.refl _), [], upd_same, .nil⟩ (fun j H2 _ p2 => sqL (p2.1 _ _ hp)) (fun j x H2 H3 hj p2 y => by
          obtain ⟨rfl, hx2⟩ := y
          obtain ⟨row, hr, ht⟩ := paired_get hys hx2
          exact ⟨row, hr, ht.mono (Same.tups p2.1), p2⟩) (fun H2 p2 => by
          rw [hyl, List.take_length] at p2
          exact p2)
      refine ⟨W, w0, fun j m H2 hw => ?_⟩
      rcases ws j m H2 hw with ⟨k1, s2, acc, ha, hpa⟩ | ⟨k1, k2, k3⟩
      · refine .inl ⟨k1, s1.trans s2, Dn, acc, _, _, rfl, ha, ?_⟩
        rw [pre_succ hpc, hS]
        exact hpa
      · refine .inr ⟨k1, _, k2, fun x H3 hy3 => ?_⟩
        obtain ⟨row, hrow, ⟨rp, rfl, hrp⟩, s2, acc, ha, hpa⟩ := k3 x H3 hy3
        have hjS := getE hrow
        have hrl : row.length ≤ 4 := hSl row (List.mem_of_getElem? hrow)
        refine ⟨rfl, yes_ok ?_⟩
        have hD3 : SqT K H3 d (so.2.map V.str) := (Same.tups (s1.trans s2)).seq hD
        refine ⟨_, rfl, d, rfl, ⟨_, hD3⟩, ?_⟩
        obtain ⟨W1, w10, ws1⟩ := lc2_it (walk_tup (K := K) (a := d) (xs := so.2.map V.str)) (fun k H4 => Same H1 H4 ∧ SqT K H4 rp (row.map V.str) ∧ ∃ acc, H4 Dn = some (.lst acc) ∧ Paired (IsTs K H4) acc (grow (S.take j) so.2 ++ (so.2.take k).map fun c => row ++ [c]))
          (fun Pv k x H4 => ∃ c, so.2[k]? = some c ∧ x = .str c ∧ Pv k H4) (H1 := H3)
          (Qd := fun H4 => Same H1 H4 ∧ ∃ acc, H4 Dn = some (.lst acc) ∧ Paired (IsTs K H4) acc (grow (S.take (j + 1)) so.2))
          ⟨s2, hrp, acc, ha, by simpa using hpa⟩ (fun k H4 _ p4 => (Same.tups (s1.trans p4.1)).seq hD) (fun k x H4 H5 hk p4 y => by
            obtain ⟨rfl, hx4⟩ := y
            obtain ⟨c, _, hc, rfl⟩ := strs_get hx4
            exact ⟨c, hc, rfl, p4⟩) (fun H4 p4 => by
            obtain ⟨s4, _, acc4, ha4, hp4⟩ := p4
            rw [hcl, List.take_length] at hp4
            exact ⟨s4, acc4, ha4, by rw [grow_take_succ hrow]; exact hp4⟩)
        refine ⟨W1, w10, fun k m1 H4 hw4 => ?_⟩
        rcases ws1 k m1 H4 hw4 with ⟨n1, n2⟩ | ⟨n1, n2, n3⟩
        · exact .inl ⟨n1, n2⟩
        · refine .inr ⟨n1, _, n2, fun x H5 hy5 => ?_⟩
          obtain ⟨c, hc, rfl, s5, hrp5, acc5, ha5, hpa5⟩ := n3 x H5 hy5
          have hk := getE hc
          refine ⟨rfl, yes_ok ⟨_, rfl, _, rfl, (by decide : 1 ≤ sizeLine), fun u hu => ?_⟩⟩
          have s6 : Same H5 (upd H5 u (.tup [.str c])) := same_upd hu
          refine cat_ok (ha := (Same.tups s6).seq hrp5) (hb := sqT upd_same) (by simp; omega) fun z H7 s7 hz => ?_
          have s57 := s6.trans s7
          have ha7 := s57 _ _ ha5
          refine ⟨acc5, ha7, small20k ?_, back (s5.trans s57), ?_, acc5 ++ [.ref z], upd_same, ?_⟩
          · rw [paired_len hpa5, List.length_append, grow_len, List.length_take, List.length_map, List.length_take]
            have : min j S.length * so.2.length ≤ 1296 * 6 := Nat.mul_le_mul (by omega) hcs
            omega
          · exact (tups_lst ha7).seq ((Same.tups s57).seq hrp5)
          · have t7 : Tups H5 (upd H7 Dn (.lst (acc5 ++ [.ref z]))) := (Same.tups s57).trans (tups_lst ha7)
            have e7 : grow (S.take j) so.2 ++ (so.2.take (k + 1)).map (fun c => row ++ [c]) = (grow (S.take j) so.2 ++ (so.2.take k).map fun c => row ++ [c]) ++ [row ++ [c]] := by
              rw [List.take_add_one, hc, List.map_append, List.append_assoc]
              rfl
            rw [e7]
            exact paired_snoc (paired_imp hpa5 fun _ _ => IsTs.mono t7) (ts_app ((tups_lst ha7).seq hz))
    · obtain ⟨s1, p, ys, y2, y3, rfl, hp, hys⟩ := p
      rw [hl, List.take_of_length_le (by rw [List.length_map]; exact Nat.le_refl _)] at hys
      refine ⟨_, rfl, q _ p ys s1 hp hys ?_⟩
      rw [paired_len hys]
      have := hpre Pl.length
      rw [List.take_of_length_le (by rw [List.length_map]; exact Nat.le_refl _)] at this
      exact this
end
end Cv

set_option maxRecDepth 100000
set_option maxHeartbeats 4000000
/-! mends: cheapest; Shower: __init__, is_dear. -/
namespace Cv
open PySem PySem.Spec PyProof.Rows L2
theorem two_le : 2 ≤ sizeLine := by decide
theorem three_le : 3 ≤ sizeLine := by decide
theorem one_le : 1 ≤ sizeLine := by decide

theorem np_ok {σ : L2.St} {H : Hp} {Q : Option Int → Hp → Prop} (h : Q none H) : tNoPart σ H Q := h
/-- what the search gives -/
def IsFound (K : PySem.W.Frag) (H : Hp) (m : Int) : Option (Int × List Str) → V → V → Prop
  | none, x, y => x = .non ∧ y = .non
  | some f, x, y => x = .int f.1 ∧ IsRec K H y (f.2.map some) m
theorem IsFound.mono {K : PySem.W.Frag} {H H' : Hp} {m : Int} (t : Tups H H') : ∀ {o : Option (Int × List Str)} {x y : V}, IsFound K H m o x y → IsFound K H' m o x y
  | none, _, _, h => h
  | some _, _, _, ⟨h1, h2⟩ => ⟨h1, h2.mono t⟩
theorem row_of_ts {K : PySem.W.Frag} {H : Hp} {v : V} {row : List Str} (h : IsTs K H v row) : IsRow K H v (row.map some) := by
  obtain ⟨a, e, h⟩ := h
  refine ⟨a, e, ?_⟩
  rw [List.map_map]
  exact h
theorem rec_cat {K : PySem.W.Frag} {H : Hp} {p : Addr} {row : List Str} {m : Int} (h : SqT K H p (row.map V.str ++ [.int m])) : IsRec K H (.ref p) (row.map some) m := by
  refine ⟨p, rfl, ?_⟩
  rw [List.map_map]
  exact h

section
variable {P : Program} {w : World} {K : PySem.W.Frag} {mg : Str → Option Value} {base : Heap}

abbrev st_cheapest : Stmt := topS 44
theorem sc_cheapest : FnScope ["plan", "rules", "costs", "record", "found", "codes", "cost"] ["plan", "rules", "costs", "record"] (defScope st_cheapest) := C8.fnScope_by (by decide +kernel)
def spCheapest (K : PySem.W.Frag) : Sp := fun vs H Q _ => ∃ (t u v z : V) (P : List PSort) (R : List Rule) (C : List Int) (cs : List (Option Str)) (m : Int), vs = [t, u, v, z] ∧ IsPlan K H t P ∧ IsRules K H u R ∧ IsCosts K H v C ∧ IsRec K H z cs m ∧ GoodPlan P ∧ GoodRules P R ∧ GoodCosts P C ∧ GoodRec P cs m ∧
  ∀ H' p x y, Same H H' → SqT K H' p [x, y] → IsFound K H' m (cheapestM (P.map (·.2)) R C cs) x y → Q (.ref p) H'
theorem ok_cheapest (D : At K mg "cheapest" st_cheapest) (g_full_codes : C8.Cal P w K mg base 1 "full_codes" (spFull K) []) (g_beside : C8.Cal P w K mg base 1 "beside" (spBeside K) []) (g_gives : C8.Cal P w K mg base 4 "gives" (spGives K) []) : C8.Cal P w K mg base 5 "cheapest" (spCheapest K) [] := by
  refine cal_of D sc_cheapest ?len (fun _ _ _ _ _ _ us hl => match us, hl with | [_, _, _, _], _ => rfl) (fun f cdv A outer s H vs Q E hr h => ?body)
  case len =>
    intro vs H Q E ⟨i, n, o, m, p, r, z, z1, z2, e, _⟩
    rw [e]; rfl
  case body =>
    obtain ⟨t, u, v, z, Pl, R, C, cs, m, rfl, hP, hR, hC, hz, gp, gr, gc, grec, q⟩ := h
    have hhi := gp.hi
    have hcl := gc.len
    have hrl := grec.row.len
    refine ⟨_, (pss_cons (ps_set (i := 4) sc_cheapest.nd rfl (by first | exact Or.inl rfl | exact Or.inr rfl) (pe_tup (pa_cons pe_non (pa_cons pe_non pa_nil))))
      (pss_cons (ps_for PassesOwn.never rfl (pi_listK (K := K) rfl (C8.pe_c g_full_codes hr (by decide) (by rfl) (pa_cons (pv 0) pa_nil))) (pg_name (i := 5) sc_cheapest.nd rfl (by first | exact Or.inl rfl | exact Or.inr rfl))
      (pss_cons (ps_set (i := 6) sc_cheapest.nd rfl (by first | exact Or.inl rfl | exact Or.inr rfl) (C8.pe_c g_beside hr (by decide) (by rfl) (pa_cons (pv 2) (pa_cons (pv 5) (pa_cons (pv 3) pa_nil)))))
      (pss_one (ps_if (PW.pt (pw_and (pt_val (C8.pe_c g_gives hr (by decide) (by rfl) (pa_cons (pv 1) (pa_cons (pe_op (op_catK (K := K) rfl) (pv 5) (pe_slice (sl_tupK (K := K) rfl) (pv 3) (po_some (pe_un un_neg pe_int)) po_none)) pa_nil)))) (pw_and1 (PW.pt (pw_or (pt_cmpR op_isN (pe_ix (ix_tupK (K := K) rfl) (pv 4) pe_int (fun _ _ => rfl)) pe_non (nomark _)) (pw_or1 (pt_cmpR op_lt (pv 6) (pe_ix (ix_tupK (K := K) rfl) (pv 4) pe_int (fun _ _ => rfl)) (nomark _)))))))) (pss_one (ps_set (i := 4) sc_cheapest.nd rfl (by first | exact Or.inl rfl | exact Or.inr rfl) (pe_tup (pa_cons (pv 6) (pa_cons (pe_op (op_catK (K := K) rfl) (pv 5) (pe_slice (sl_tupK (K := K) rfl) (pv 3) (po_some (pe_un un_neg pe_int)) po_none)) pa_nil))))) pss_nil))))
      (pss_one (ps_ret (pv 4))))), ?_⟩
    refine ⟨two_le, fun p0 hp0 => ?_⟩
    have s0 : Same H (upd H p0 (.tup [.non, .non])) := same_upd hp0
    refine ⟨_, rfl, t, Pl, rfl, hP.mono (Same.tups s0), gp, fun H1 fl xs s1 hfl hxs hx1296 => ?_⟩
    have hxl := paired_len hxs
    have s01 := s0.trans s1
    refine ⟨fl, rfl, ⟨xs, sqL hfl⟩, for_it (walk_list (xs := xs)) (fun i σ H2 => Same H H2 ∧ Same H1 H2 ∧ ∃ fa y5 y6 x y, σ = [some t, some u, some v, some z, some (.ref fa), y5, y6] ∧ SqT K H2 fa [x, y] ∧ IsFound K H2 m (((fullM (Pl.map (·.2))).take i).foldl (cheapStep R C cs) none) x y) ?_ (fun i σ H2 _ p => sqL (p.2.1 _ _ hfl)) (fun i x σ H9 H2 hi p y => ?_) fun σ H2 p => ?_⟩
    · exact ⟨s01, Same.refl _, p0, none, none, .non, .non, rfl, (Same.tups s1).seq (sqT upd_same), rfl, rfl⟩
    · obtain ⟨s2, s12, fa, y5, y6, x0, y0, rfl, hfa, hfo⟩ := p
      obtain ⟨e9, hx⟩ := y
      subst e9
      obtain ⟨row, hrow, hts⟩ := paired_get hxs hx
      have hts2 := hts.mono (Same.tups s12)
      have hrr : RowR (Pl.map (·.2)) row := mem_fullM.mp (List.mem_of_getElem? hrow)
      have hrlen : row.length = Pl.length := by rw [hrr.length, List.length_map]
      have hpre : BarPre R (row.map some) := barPre_of gp gr (by rw [List.length_map, hrlen])
      have est : ((fullM (Pl.map (·.2))).take (i + 1)).foldl (cheapStep R C cs) none = cheapStep R C cs (((fullM (Pl.map (·.2))).take i).foldl (cheapStep R C cs) none) row := by
        rw [List.take_add_one, hrow, List.foldl_append]
        rfl
      rw [est]
      generalize ((fullM (Pl.map (·.2))).take i).foldl (cheapStep R C cs) none = o at hfo
      refine ⟨_, rfl, _, rfl, _, rfl, v, x, z, C, row.map some, cs, m, rfl, hC.mono (Same.tups s2), row_of_ts hts2, hz.mono (Same.tups s2), by rw [List.length_map]; omega, by omega, by omega, fun H3 s3 => ?_⟩
      obtain ⟨xa, rfl, hxa⟩ := hts2
      obtain ⟨za, rfl, hza⟩ := hz
      have s03 := s2.trans s3
      have hza3 := (Same.tups s03).seq hza
      have hxa3 := (Same.tups s3).seq hxa
      refine ⟨_, rfl, _, rfl, _, rfl, 1, rfl, -1, rfl, np_ok (sl_last hza3 fun p4 H4 s4 hp4 => ?_)⟩
      refine cat_ok ((Same.tups s4).seq hxa3) hp4 (by rw [List.length_map, hrlen]; simp; omega) fun p5 H5 s5 hp5 => ?_
      have s35 := s4.trans s5
      have s05 := s03.trans s35
      refine ⟨u, .ref p5, R, row, m, rfl, hR.mono s05, rec_cat hp5, hpre, fun H6 s6 => ⟨_, rfl, ?_⟩⟩
      have s36 := s35.trans s6
      have s06 := s03.trans s36
      have t26 := Same.tups (s3.trans s36)
      have hfa6 := t26.seq hfa
      have take : cheapStep R C cs o row = some (besideM C (row.map some) cs, row) → ∀ (De : Ends) (σ6 : L2.St), σ6 = [some t, some u, some v, some (.ref za), some (.ref fa), some (.ref xa), some (.int (besideM C (row.map some) cs))] →
          (∀ σ H', (Same H H' ∧ Same H1 H' ∧ ∃ fa y5 y6 x y, σ = [some t, some u, some v, some (.ref za), some (.ref fa), y5, y6] ∧ SqT K H' fa [x, y] ∧ IsFound K H' m (cheapStep R C cs o row) x y) → De.nx σ H') →
          tAsg (tTup (tCons (tVar 6) (tCons (tOp (rCatA K) (tVar 5) (tSl (rSlA K) (tVar 3) (tPart (tUn (rU fun i => .int (-i)) (tC (.int 1)))) tNoPart)) tNil))) (gName 4) De σ6 H6 := by
        rintro es De σ6 rfl hq
        refine ⟨_, rfl, _, rfl, _, rfl, 1, rfl, -1, rfl, np_ok (sl_last ((Same.tups s36).seq hza3) fun p7 H7 s7 hp7 => ?_)⟩
        refine cat_ok ((Same.tups (s36.trans s7)).seq hxa3) hp7 (by rw [List.length_map, hrlen]; simp; omega) fun p8 H8 s8 hp8 => ⟨two_le, fun p9 hp9 => ?_⟩
        have s9 : Same H8 (upd H8 p9 (.tup [.int (besideM C (row.map some) cs), .ref p8])) := same_upd hp9
        have s69 := (s7.trans s8).trans s9
        refine hq _ _ ⟨s06.trans s69, ((s12.trans s3).trans s36).trans s69, p9, _, _, _, _, rfl, sqT upd_same, ?_⟩
        rw [es]
        exact ⟨rfl, rec_cat ((Same.tups s9).seq hp8)⟩
      cases hb : anyBar R (row.map some) with
      | true =>
        refine iteF (iteF ⟨s06, (s12.trans s3).trans s36, fa, _, _, x0, y0, rfl, hfa6, ?_⟩)
        rw [cheapStep_bar hb]
        exact hfo.mono t26
      | false =>
        refine iteT ⟨_, rfl, fa, _, 0, _, rfl, rfl, hfa6, atI_nat (j := 0) rfl, rfl, _, rfl, ?_⟩
        cases o with
        | none =>
          obtain ⟨rfl, rfl⟩ := hfo
          exact iteS rfl (iteT (take (cheapStep_take hb fun f q => nomatch q) _ _ rfl fun _ _ h => h))
        | some f =>
          obtain ⟨rfl, hr0⟩ := hfo
          refine iteSN (fun z => nomatch z) ⟨_, rfl, _, rfl, fa, _, 0, _, rfl, rfl, hfa6, atI_nat (j := 0) rfl, _, _, rfl, rfl, _, rfl, ?_⟩
          by_cases hlt : besideM C (row.map some) cs < f.1
          · rw [decide_eq_true hlt]
            exact iteT (take (cheapStep_take hb fun g q => by injection q with q; subst q; exact hlt) _ _ rfl fun _ _ h => h)
          · rw [decide_eq_false hlt]
            refine iteF ⟨s06, (s12.trans s3).trans s36, fa, _, _, _, _, rfl, hfa6, ?_⟩
            rw [cheapStep_dear hlt]
            exact ⟨rfl, hr0.mono t26⟩
    · obtain ⟨s2, s12, fa, y5, y6, x0, y0, rfl, hfa, hfo⟩ := p
      rw [hxl, List.take_length] at hfo
      exact ⟨_, rfl, q _ fa x0 y0 s2 hfa hfo⟩
end
end Cv

set_option maxRecDepth 100000
set_option maxHeartbeats 4000000
/-! mends: Shower (made, is_dear, tree), mend. -/
namespace Cv
open PySem PySem.Spec PyProof.Rows L2

/-! ### t * n of (None,) -/
def rRepN (K : PySem.W.Frag) : R2 := fun x y H Q => ∃ (l : Addr) (n : Nat), x = .ref l ∧ y = .int (n : Nat) ∧ SqT K H l [.non] ∧ 1 ≤ n ∧ n ≤ 1000 ∧ ∀ p H', Same H H' → SqT K H' p (List.replicate n .non) → Q (.ref p) H'
theorem flat_rep (n : Nat) : (List.replicate n [V.non]).flatten = List.replicate n .non := by
  induction n with
  | zero => rfl
  | succ n ih => rw [List.replicate_succ, List.flatten_cons, ih, List.replicate_succ]; rfl
theorem op_repNone {X : Cx} {K : PySem.W.Frag} (hK : X.K = K) : OpR X (binaryOp .Mult) (rRepN K) := by
  subst hK
  intro pins s σ H x y v u Q I rx ry h
  obtain ⟨l, n, rfl, rfl, hT, h1, h2, q⟩ := h
  by_cases e : n = 1
  · subst e
    exact op_repOne pins s σ H _ _ v u Q I rx ry ⟨l, _, rfl, rfl, hT, q l H (Same.refl H) hT⟩
  · refine op_repT pins s σ H _ _ v u Q I rx ry ⟨l, _, _, rfl, rfl, hT, by simp, by omega, by omega, by decide, fun p hp => q p _ (same_upd hp) (sqT ?_)⟩
    rw [upd_same, Int.toNat_natCast, flat_rep]

/-! ### an object's fields -/
theorem putF_len (f : Str) (v : V) : ∀ fs : List (Str × V), (putF f v fs).length ≤ fs.length + 1
  | [] => Nat.le_refl _
  | (g, x) :: r => by
    rw [putF]
    split
    · simp
    · have := putF_len f v r
      simp only [List.length_cons]
      omega
theorem lk_hit {f : Str} {v : V} {fs : List (Str × V)} : (putF f v fs).lookup f = some v := by rw [lookup_putF, if_pos rfl]
theorem lk_miss {f g : Str} {v : V} {fs : List (Str × V)} {o : Option V} (h : g ≠ f) (e : fs.lookup g = o) : (putF f v fs).lookup g = o := by rw [lookup_putF, if_neg h, e]

/-- a Shower with these fields -/
def IsSh (H : Hp) (C a : Addr) (tp tr tc trec tcost : V) : Prop := ∃ dx fs, H a = some (.ins C dx fs) ∧ fs.lookup ("plan" : Str) = some tp ∧ fs.lookup ("rules" : Str) = some tr ∧ fs.lookup ("costs" : Str) = some tc ∧ fs.lookup ("record" : Str) = some trec ∧ fs.lookup ("cost" : Str) = some tcost ∧ fs.lookup ("is_dear" : Str) = none ∧ fs.lookup ("tree" : Str) = none
theorem IsSh.mono {H H' : Hp} {C a : Addr} {tp tr tc trec tcost : V} (s : Same H H') : IsSh H C a tp tr tc trec tcost → IsSh H' C a tp tr tc trec tcost := fun ⟨dx, fs, h, r⟩ => ⟨dx, fs, s _ _ h, r⟩
def oI : Option Int → V
  | none => .non
  | some c => .int c

/-! ### plain -/
def dearM (o : Option Int) (C : List Int) (ks rec : List (Option Str)) : Bool := match o with
  | none => false
  | some c => decide (c ≤ (((List.range ks.length).filter fun s => (ks.getD s none).isSome && !decide (ks.getD s none = rec.getD s none)).map fun s => C.getD s 0).sum)
/-- every whole row is barred, or no cheaper -/
def Done (P : List (List Str)) (R : List Rule) (C : List Int) (rec : List (Option Str)) (o : Option Int) : Prop := ∀ row, RowR P row → anyBar R (row.map some) = true ∨ ∃ c, o = some c ∧ c ≤ besideM C (row.map some) rec
theorem done_cheapest (P : List (List Str)) (R : List Rule) (C : List Int) (rec : List (Option Str)) : Done P R C rec ((cheapestM P R C rec).map (·.1)) := by
  intro row hr
  have L := cheapest_least P R C rec
  cases h : cheapestM P R C rec with
  | none => exact .inl (L.no h row hr)
  | some f =>
    obtain ⟨c, x⟩ := f
    cases hb : anyBar R (row.map some) with
    | true => exact .inl rfl
    | false => exact .inr ⟨c, rfl, (L.yes c x h).2.2.2 row hr hb⟩
theorem dear_full {o : Option Int} {c : Int} {C : List Int} {row : List Str} {rec : List (Option Str)} (h1 : row.length = C.length) (h2 : rec.length = C.length) (ho : o = some c) (hc : c ≤ besideM C (row.map some) rec) : dearM o C (row.map some) rec = true := by
  subst ho
  have hl : (row.map some).length = C.length := by rw [List.length_map, h1]
  unfold dearM
  simp only
  rw [decide_eq_true_eq, hl]
  rw [besideM_range rfl hl h2] at hc
  have e : (List.range C.length).filter (fun s => ((row.map some).getD s none).isSome && !decide ((row.map some).getD s none = rec.getD s none)) = (List.range C.length).filter fun s => !decide ((row.map some).getD s none = rec.getD s none) := by
    apply List.filter_congr
    intro s hs
    have hs := List.mem_range.mp hs
    have : ((row.map some).getD s none).isSome = true := by
      rw [getD_lt (by omega), List.getElem_map]
      rfl
    rw [this, Bool.true_and]
  rw [e]
  exact hc
theorem none_mem {P : List PSort} {R : List Rule} {C : List Int} {ks rec : List (Option Str)} {o : Option Int} (hd : Done (P.map (·.2)) R C rec o) (hk : GoodRow P ks) (h1 : C.length = P.length) (h2 : rec.length = P.length)
    (nd : dearM o C ks rec = false) (nb : anyBar R ks = false) : none ∈ ks := by
  refine Classical.byContradiction fun hn => ?_
  have e : ks = (ks.filterMap id).map some := by
    have : ∀ l : List (Option Str), none ∉ l → l = (l.filterMap id).map some := fun l => by
      induction l with
      | nil => intro _; rfl
      | cons a l ih =>
        intro h
        cases a with
        | none => exact absurd List.mem_cons_self h
        | some c =>
          rw [List.filterMap_cons]
          simp only [id]
          rw [List.map_cons, ← ih fun z => h (List.mem_cons_of_mem _ z)]
    exact this ks hn
  generalize ks.filterMap id = row at e
  subst e
  have hl : row.length = P.length := by have := hk.len; rwa [List.length_map] at this
  have hr : RowR (P.map (·.2)) row := by
    rw [rowR_iff]
    refine ⟨by rw [List.length_map, hl], fun i cs hi => ?_⟩
    rw [List.getElem?_map] at hi
    obtain ⟨s, hs, rfl⟩ := Option.map_eq_some_iff.mp hi
    have hi2 : i < row.length := by rw [hl]; exact getE hs
    refine ⟨row[i], List.getElem?_eq_getElem hi2, hk.each i s _ hs ?_⟩
    rw [List.getElem?_map, List.getElem?_eq_getElem hi2]
    rfl
  rcases hd row hr with h | ⟨c, ho, hc⟩
  · rw [h] at nb; cases nb
  · rw [dear_full (by omega) (by omega) ho hc] at nd; cases nd
theorem map_getD {α β : Type} (g : α → β) (d : α) (l : List α) : (List.range l.length).map (fun j => g (l.getD j d)) = l.map g := by
  have e := congrArg (List.map g) (as_map d l rfl)
  rw [List.map_map] at e
  exact e.symm
theorem goodRow_set {P : List PSort} {ks : List (Option Str)} {i : Nat} {s : PSort} {c : Str} (h : GoodRow P ks) (hs : P[i]? = some s) (hc : c ∈ s.2) : GoodRow P (ks.set i (some c)) := by
  refine ⟨by rw [List.length_set]; exact h.len, fun j s' c' hs' hc' => ?_⟩
  rw [List.getElem?_set] at hc'
  by_cases e : i = j
  · subst e
    rw [if_pos rfl] at hc'
    split at hc'
    · rw [hs] at hs'
      obtain rfl : s = s' := Option.some.inj hs'
      obtain rfl : c = c' := Option.some.inj (Option.some.inj hc')
      exact hc
    · cases hc'
  · rw [if_neg e] at hc'
    exact h.each j s' c' hs' hc'
theorem oV_non {a : Option Str} (h : oV a = .non) : a = none := by
  cases a with
  | none => rfl
  | some _ => cases h

section
variable {P : Program} {w : World} {K : PySem.W.Frag} {mg : Str → Option Value} {base : Heap}
abbrev st_init : Stmt := inClass (topS 45) 0
theorem sc_init : FnScope ["self", "plan", "rules", "costs", "record", "cost"] ["self", "plan", "rules", "costs", "record", "cost"] (defScope st_init) := C8.fnScope_by (by decide +kernel)
abbrev st_is_dear : Stmt := inClass (topS 45) 1
theorem sc_is_dear : FnScope ["self", "known", "s", "code", "unlike"] ["self", "known"] (defScope st_is_dear) := C8.fnScope_by (by decide +kernel)
abbrev st_tree : Stmt := inClass (topS 45) 2
theorem sc_tree : FnScope ["self", "known", "k", "s", "code"] ["self", "known"] (defScope st_tree) := C8.fnScope_by (by decide +kernel)
/-- the class -/
structure ShC (K : PySem.W.Frag) (mg : Str → Option Value) (C : Addr) : Prop where
  cl : Cls K C
  mg : mg "Shower" = some (.ref C)
  init : ∃ f fd, Mk K C f ∧ L2.Fun K "__init__" "Shower.__init__" st_init f fd
  dear : ∃ f fd, Meth K C "is_dear" f ∧ L2.Fun K "is_dear" "Shower.is_dear" st_is_dear f fd
  tree : ∃ f fd, Meth K C "tree" f ∧ L2.Fun K "tree" "Shower.tree" st_tree f fd
  plan : NoAttr K C "plan"
  rules : NoAttr K C "rules"
  costs : NoAttr K C "costs"
  record : NoAttr K C "record"
  cost : NoAttr K C "cost"

def spInit (C : Addr) : Sp := fun vs H Q _ => ∃ (a dx : Addr) (tp tr tc trec tcost : V), vs = [.ref a, tp, tr, tc, trec, tcost] ∧ H a = some (.ins C dx []) ∧ ∀ H', (∀ b, b ≠ a → H' b = H b) → IsSh H' C a tp tr tc trec tcost → Q .non H'
theorem ok_Shower {C : Addr} (S : ShC K mg C) : C8.Mak P w K mg base 1 "Shower" C (spInit C) [] := by
  obtain ⟨f, fd, hM, hF⟩ := S.init
  refine ⟨f, fd, _, [], hM, hF.ok sc_init ?len (fun cdv A outer s H vs Q E hr h => ?body), S.mg, hF.binds (fun _ _ _ _ _ _ us hl => match us, hl with | [_, _, _, _, _, _], _ => rfl), .nil⟩
  case len =>
    intro vs H Q E ⟨i, n, o, m, p, r, z, e, _⟩
    rw [e]; rfl
  case body =>
    obtain ⟨a, dx, tp, tr, tc, trec, tcost, rfl, ha, q⟩ := h
    refine ⟨_, (pss_cons (ps_fld (pv 0) (pv 1) rfl)
      (pss_cons (ps_fld (pv 0) (pv 2) rfl)
      (pss_cons (ps_fld (pv 0) (pv 3) rfl)
      (pss_cons (ps_fld (pv 0) (pv 4) rfl)
      (pss_one (ps_fld (pv 0) (pv 5) rfl)))))), ?_⟩
    have L : ∀ {f : Str} {v : V} {fs : List (Str × V)} {n : Nat}, fs.length ≤ n → (putF f v fs).length ≤ n + 1 := fun h => Nat.le_trans (putF_len _ _ _) (Nat.succ_le_succ h)
    refine ⟨_, rfl, _, rfl, a, C, dx, _, rfl, ha, S.cl, S.plan, by decide, ?_⟩
    refine ⟨_, rfl, _, rfl, a, C, dx, _, rfl, upd_same, S.cl, S.rules, Nat.lt_of_le_of_lt (L (Nat.zero_le 0)) (by decide), ?_⟩
    refine ⟨_, rfl, _, rfl, a, C, dx, _, rfl, upd_same, S.cl, S.costs, Nat.lt_of_le_of_lt (L (L (Nat.zero_le 0))) (by decide), ?_⟩
    refine ⟨_, rfl, _, rfl, a, C, dx, _, rfl, upd_same, S.cl, S.record, Nat.lt_of_le_of_lt (L (L (L (Nat.zero_le 0)))) (by decide), ?_⟩
    refine ⟨_, rfl, _, rfl, a, C, dx, _, rfl, upd_same, S.cl, S.cost, Nat.lt_of_le_of_lt (L (L (L (L (Nat.zero_le 0))))) (by decide), ?_⟩
    refine q _ (fun b hb => ?_) ⟨dx, _, upd_same, ?_, ?_, ?_, ?_, ?_, ?_, ?_⟩
    · rw [upd_ne hb, upd_ne hb, upd_ne hb, upd_ne hb, upd_ne hb]
    · exact lk_miss (by decide) (lk_miss (by decide) (lk_miss (by decide) (lk_miss (by decide) lk_hit)))
    · exact lk_miss (by decide) (lk_miss (by decide) (lk_miss (by decide) lk_hit))
    · exact lk_miss (by decide) (lk_miss (by decide) lk_hit)
    · exact lk_miss (by decide) lk_hit
    · exact lk_hit
    · exact lk_miss (by decide) (lk_miss (by decide) (lk_miss (by decide) (lk_miss (by decide) (lk_miss (by decide) rfl))))
    · exact lk_miss (by decide) (lk_miss (by decide) (lk_miss (by decide) (lk_miss (by decide) (lk_miss (by decide) rfl))))

def spDear (K : PySem.W.Frag) (C : Addr) : Sp := fun vs H Q _ => ∃ (a : Addr) (kn tp tr tc trec tcost : V) (o : Option Int) (Cs : List Int) (ks rec : List (Option Str)) (m : Int), vs = [.ref a, kn] ∧ IsSh H C a tp tr tc trec tcost ∧ tcost = oI o ∧ IsCosts K H tc Cs ∧ IsRec K H trec rec m ∧ IsRow K H kn ks ∧
  Cs.length = ks.length ∧ rec.length = ks.length ∧ ks.length ≤ 4 ∧ ∀ H', Same H H' → Q (.bl (dearM o Cs ks rec)) H'
theorem ok_is_dear {C : Addr} (T : Top mg) (S : ShC K mg C) : C8.Met P w K mg base 1 C "is_dear" (spDear K C) [] := by
  obtain ⟨f, fd, hM, hF⟩ := S.dear
  refine ⟨f, fd, _, [], S.cl, hM, hF.ok sc_is_dear ?len (fun cdv A outer s H vs Q E hr h => ?body), hF.binds (fun _ _ _ _ _ _ us hl => match us, hl with | [_, _], _ => rfl), .nil⟩
  case len =>
    intro vs H Q E ⟨i, n, o, m, p, r, z, z1, z2, z3, z4, z5, e, _⟩
    rw [e]; rfl
  case body =>
    obtain ⟨a, kn, tp, tr, tc, trec, tcost, o, Cs, ks, rec, m, rfl, hSh, rfl, ⟨ca, rfl, hC⟩, ⟨ra, rfl, hR⟩, ⟨ka, rfl, hK⟩, h1, h2, h4, q⟩ := h
    have hSh0 := hSh
    obtain ⟨dx, fs, hI, _, _, lc, lr, lo, _, _⟩ := hSh
    have hkl : (ks.map oV).length = ks.length := List.length_map _
    refine ⟨_, (pss_cons (ps_if (pt_cmpR op_isN (pe_fldK (K := K) rfl (pv 0) rfl) pe_non (nomark _)) (pss_one (ps_ret pe_bl)) pss_nil)
      (pss_cons (ps_setLc (i := 4) (own := [("s", 2), ("code", 3)]) (g := (gTup K 2 (gCons (gName 2) (gCons (gName 3) gNil)))) (tt := _) rfl sc_is_dear.nd rfl rfl (sw_true rfl rfl rfl (by decide +kernel)) (pi_enumT (by rfl) T.enumerate (pa_cons (pv 1) pa_nil)) (blkOk_by (own := [("s", 2), ("code", 3)]) (N := ["self", "known", "s", "code", "unlike"]) (sc := defScope st_is_dear) (by decide +kernel)) (fun _ _ _ _ _ => (pg_tup rfl (pgs_cons (pg_name (i := 2) sc_is_dear.nd rfl (by first | exact Or.inl rfl | exact Or.inr rfl)) (pgs_cons (pg_name (i := 3) sc_is_dear.nd rfl (by first | exact Or.inl rfl | exact Or.inr rfl)) pgs_nil)))) (fun _ _ _ _ _ => (pts_one (PW.pt (pw_and (pt_cmpR op_notN (pv 3) pe_non (nomark _)) (pw_and1 (pt_cmpR op_ne (pv 3) (pe_ix (ix_tupK (K := K) rfl) (pe_fldK (K := K) rfl (pv 0) rfl) (pv 2) (fun _ _ => rfl)) (nomark _))))))) (fun _ _ _ _ _ => (pv 2)))
      (pss_one (ps_ret (pe_cmpR op_ge (pe_callB (cr_sum rfl) (by rfl) T.sum (by decide +kernel) (pa_cons (pe_lc (own := [("s", 2)]) (g := (gName 2)) (tt := tYes) rfl sc_is_dear.nd (pi_listK (K := K) rfl (pv 4)) (blkOk_by (own := [("s", 2)]) (N := ["self", "known", "s", "code", "unlike"]) (sc := defScope st_is_dear) (by decide +kernel)) (fun _ _ _ _ _ => (pg_name (i := 2) sc_is_dear.nd rfl (by first | exact Or.inl rfl | exact Or.inr rfl))) (fun _ _ _ _ _ => pts_nil) (fun _ _ _ _ _ => (pe_ix (ix_tupK (K := K) rfl) (pe_fldK (K := K) rfl (pv 0) rfl) (pv 2) (fun _ _ => rfl)))) pa_nil)) (pe_fldK (K := K) rfl (pv 0) rfl) (nomark _)))))), ?_⟩
    refine ⟨_, rfl, a, C, dx, fs, _, rfl, hI, S.cl, S.cost, lo, rfl, _, rfl, ?_⟩
    cases o with
    | none => exact iteS rfl (q _ (Same.refl _))
    | some c =>
      refine iteSN (fun z => nomatch z) ?_
      refine ⟨_, rfl, ka, _, rfl, hK, fun Dn hD => lc_test (w := walk_itN) (by omega) (fun s => (ks.getD s none).isSome && !decide (ks.getD s none = rec.getD s none)) (fun i => .int (i : Nat)) hD (fun H' s => (Same.tups s).seq hK) (fun i x H2 H3 CC C' hi s y k k' => ?_) fun H' s e => ?_⟩
      · obtain ⟨U, rfl, hU, rfl⟩ := y
        rw [hkl] at hi
        have s2 : Same H2 (upd H2 U (.tup (vEnum (ks.map oV) i))) := same_upd hU
        have s02 := s.trans s2
        refine ⟨U, _, rfl, sqT upd_same, rfl, _, _, rfl, _, _, rfl, rfl, rfl, ?_⟩
        have e1 : (ks.map oV).getD i .non = oV (ks.getD i none) := row_get hi
        refine ⟨_, rfl, rfl, _, rfl, ?_⟩
        rw [e1]
        cases hk : ks.getD i none with
        | none =>
          rw [hk] at k k'
          exact iteNS rfl (k' rfl _ s2)
        | some x =>
          rw [hk] at k k'
          refine iteN1 (fun z => nomatch z) ⟨_, rfl, _, rfl, a, C, dx, fs, _, rfl, s02 _ _ hI, S.cl, S.record, lr, _, rfl, ra, _, i, _, rfl, rfl, (Same.tups s02).seq hR, atI_nat (v := oV (rec.getD i none)) ?_, ?_⟩
          · rw [List.getElem?_append_left (by rw [List.length_map]; omega), List.getElem?_map, List.getElem?_eq_getElem (by omega), getD_lt (by omega)]
            rfl
          · refine ⟨oV_scal (some x) _, _, rfl, ?_⟩
            rw [oV_eq]
            cases hb : decide (some x = rec.getD i none) with
            | true => exact iteF (k' (by rw [hb]; rfl) _ s2)
            | false => exact iteT ⟨_, rfl, k (by rw [hb]; rfl) _ s2⟩
      · rw [hkl] at e
        generalize hss : (List.range ks.length).filter (fun s => (ks.getD s none).isSome && !decide (ks.getD s none = rec.getD s none)) = ss at e
        have hsl : ∀ s ∈ ss, s < ks.length := fun s hs => by
          rw [← hss] at hs
          exact List.mem_range.mp (List.mem_filter.mp hs).1
        have hl4 : ss.length ≤ 4 := by
          rw [← hss]
          exact Nat.le_trans (List.length_filter_le _ _) (by rw [List.length_range]; exact h4)
        have hml : (ss.map fun i : Nat => V.int (i : Nat)).length = ss.length := List.length_map _
        refine ⟨_, rfl, Dn, rfl, ⟨_, sqL e⟩, fun D2 hD2 => lc_vals (w := walk_list (xs := ss.map fun i : Nat => V.int (i : Nat))) (by omega) (fun j => .int (Cs.getD (ss.getD j 0) 0)) hD2 (fun H2 s2 => sqL (s2 _ _ e)) (fun j x H2 H3 CC hj s2 y k => ?_) fun H2 s2 e2 => ?_⟩
        · obtain ⟨rfl, hx⟩ := y
          rw [hml] at hj
          rw [List.getElem?_map, List.getElem?_eq_getElem hj] at hx
          obtain rfl := Option.some.inj hx
          have hlt := hsl _ (List.getElem_mem hj)
          have sH := s.trans s2
          refine ⟨rfl, _, rfl, a, C, dx, fs, _, rfl, sH _ _ hI, S.cl, S.costs, lc, _, rfl, ca, _, ss[j], _, rfl, rfl, (Same.tups sH).seq hC, atI_nat (v := .int (Cs.getD (ss.getD j 0) 0)) ?_, k _ (Same.refl _)⟩
          rw [List.getElem?_map, List.getElem?_eq_getElem (by omega), getD_lt hj, getD_lt (by omega)]
          rfl
        · rw [hml] at e2
          have sH := s.trans s2
          refine ⟨D2, ss.map fun s => Cs.getD s 0, rfl, sqL ?_, _, rfl, a, C, dx, fs, _, rfl, sH _ _ hI, S.cl, S.cost, lo, _, _, rfl, rfl, ?_⟩
          · rw [e2, map_getD (fun s => V.int (Cs.getD s 0)) 0 ss, List.map_map]
            rfl
          · rw [← hss]
            exact q _ sH
end
end Cv

set_option maxRecDepth 100000
set_option maxHeartbeats 4000000
/-! Tuples that are known to bear no dict (a method of theirs may be called): made by (..), +, * . -/
namespace Cv
open PySem PySem.Spec PyProof.Rows L2
def GdT (H : Hp) (p : Addr) (xs : List V) : Prop := ∃ o : Obj, H p = some (.frz o (.tup xs)) ∧ o.cls = .type "tuple" ∧ o.dict = none
theorem GdT.mono {H H' : Hp} {p : Addr} {xs : List V} (s : Same H H') : GdT H p xs → GdT H' p xs := fun ⟨o, h, r⟩ => ⟨o, s _ _ h, r⟩
theorem GdT.sq {K : PySem.W.Frag} {H : Hp} {p : Addr} {xs : List V} : GdT H p xs → SqT K H p xs := fun ⟨o, h, _⟩ => .inl (.inr ⟨o, h⟩)
section
variable {X : Cx}
def tTupF (t : TA) : TE := fun σ H Q => t σ H fun xs H1 => xs.length ≤ sizeLine ∧ ∀ p H', Same H1 H' → GdT H' p xs → Q (.ref p) H'
theorem pe_tupF {es : List Expr} {pos : Pos} {t : TA} {x1} (h : PA X es t) : PE X (.Tuple es x1 pos) (tTupF t) := by
  refine ⟨fun pins s σ H Q I hq => ?_⟩
  refine wpAny_Tuple_spliced (thn (h.run pos pins s σ H _ I hq) fun us s1 ⟨xs, H1, I1, r, z, q⟩ => ⟨by rw [← r.length]; exact z, ?_⟩)
  have hf : H1 s1.heap.objs.size = none := I1.hok.fresh (Nat.le_refl _)
  refine ⟨.ref s1.heap.objs.size, upd H1 s1.heap.objs.size (.frz _ (.tup xs)), I1.laid (t' := s1.toks) (fun b u e => Heap.get?_push_of_some _ e) (Nat.le_refl _) ⟨Heap.get?_push_size _ rfl, z, us, r, ⟨_, Heap.get?_push_size _ rfl, rfl, _, rfl⟩⟩, rfl, q _ _ (same_upd hf) ⟨_, upd_same, rfl, rfl⟩⟩
def rCatF (K : PySem.W.Frag) : R2 := fun x y H Q => ∃ a b xs ys, x = .ref a ∧ y = .ref b ∧ SqT K H a xs ∧ SqT K H b ys ∧ xs.length + ys.length ≤ 1000 ∧ (xs = [] → GdT H b ys) ∧ (ys = [] → GdT H a xs) ∧ ∀ p H', Same H H' → GdT H' p (xs ++ ys) → Q (.ref p) H'
theorem op_catF {K : PySem.W.Frag} (hK : X.K = K) : OpR X (binaryOp .Add) (rCatF K) := by
  subst hK
  intro pins s σ H x y v u Q I rx ry h
  obtain ⟨a, b, xs, ys, rfl, rfl, ha, hb, hz, g1, g2, q⟩ := h
  have hz := Nat.le_of_lt (small1000 hz)
  by_cases hx : xs = []
  · subst hx
    exact op_catA pins s σ H _ _ v u Q I rx ry ⟨a, b, [], ys, rfl, rfl, ha, hb, hz, fun _ => q b H (Same.refl H) (g1 rfl), fun z => absurd rfl z, fun z => absurd rfl z⟩
  · by_cases hy : ys = []
    · subst hy
      refine op_catA pins s σ H _ _ v u Q I rx ry ⟨a, b, xs, [], rfl, rfl, ha, hb, hz, fun z => absurd z hx, fun _ _ => q a H (Same.refl H) ?_, fun _ z => absurd rfl z⟩
      rw [List.append_nil]
      exact g2 rfl
    · cases rx
      cases ry
      obtain ⟨its, r1, p1, _⟩ := I.tuple ha
      obtain ⟨its2, r2, p2, _⟩ := I.tuple hb
      refine HT.cat_tup p1 p2 (fun z => hx (r1.nil_iff.mp z)) (fun z => absurd (r2.nil_iff.mp z) hy) (fun z => ?_) (by rw [← r1.length, ← r2.length]; exact hz)
      have hf : H s.heap.objs.size = none := I.hok.fresh (Nat.le_refl _)
      exact ⟨.ref s.heap.objs.size, _, I.laid (t' := s.toks) (o := .frz _ (.tup (xs ++ ys))) (fun b ob q => Heap.get?_push_of_some _ q) (Nat.le_refl _) ⟨Heap.get?_push_size _ rfl, by rw [List.length_append]; exact hz, _, r1.append r2, IsTup.new _ _⟩, rfl, q _ _ (same_upd hf) ⟨_, upd_same, rfl, rfl⟩⟩
/-- (None,) * n -/
def rRepF (K : PySem.W.Frag) : R2 := fun x y H Q => ∃ (l : Addr) (n : Nat), x = .ref l ∧ y = .int (n : Nat) ∧ GdT H l [.non] ∧ 1 ≤ n ∧ n ≤ 1000 ∧ ∀ p H', Same H H' → GdT H' p (List.replicate n .non) → Q (.ref p) H'
theorem op_repF {K : PySem.W.Frag} (hK : X.K = K) : OpR X (binaryOp .Mult) (rRepF K) := by
  subst hK
  intro pins s σ H x y v u Q I rx ry h
  obtain ⟨l, n, rfl, rfl, hG, h1, h2, q⟩ := h
  by_cases e : n = 1
  · subst e
    exact op_repOne pins s σ H _ _ v u Q I rx ry ⟨l, _, rfl, rfl, hG.sq, q l H (Same.refl H) hG⟩
  · cases rx
    obtain ⟨t, rfl⟩ := ry
    obtain ⟨its, r, ⟨⟨cls, dd, data, sl⟩, ho, hc, m, hd⟩, _⟩ := I.tuple (hG.sq (K := X.K))
    simp only at hc hd
    subst hc hd
    obtain ⟨w1, rfl, rw1⟩ := vals1 r
    have c0 : (decide ((n : Int) < -(2 ^ 63)) || decide ((n : Int) ≥ 2 ^ 63)) = false := by
      rw [decide_eq_false (by omega), decide_eq_false (by omega)] <;> rfl
    have c1 : ([w1].toArray.isEmpty || (n : Int) == 1) = false := by
      rw [show [w1].toArray.isEmpty = false from rfl, Bool.false_or]
      exact beq_eq_false_iff_ne.mpr (by omega)
    have c2 : (decide ((n : Int) ≤ 0) || [w1].toArray.isEmpty) = false := by
      rw [show [w1].toArray.isEmpty = false from rfl, Bool.or_false]
      exact decide_eq_false (by omega)
    have e1 : (([w1].toArray.size : Nat) : Int) = 1 := rfl
    have c4 : Builtin.Tuple.tupleTooMany ((([w1].toArray.size : Nat) : Int) * (n : Int)) = false := by
      unfold Builtin.Tuple.tupleTooMany
      rw [sizeLine_eq, e1]
      exact decide_eq_false (by omega)
    have flen : (List.replicate ((n : Int).toNat) [w1]).flatten.length ≤ sizeLine := by
      rw [PyProof.Rows.lm_len_rep_flat, sizeLine_eq]
      simp
      omega
    refine wpAny_binaryOp_repeat_ref (T := "tuple") (U := "int") (by decide) ⟨_, ho, rfl⟩ (fun s' => typeIs_int s' n t) noFill_tuple_mul F.fills_int_mul F.slot_int_rmul repeat_tuple F.slot_int_index.lookup
      (call_meets F.slot_int_rmul (typeIs_int s n t) F.entry_int_rmul (F.args_int_rmul_2 _ _) (int_rmul_tuple n t l [w1].toArray m dd sl)
        ⟨ho, rfl, ⟨_, ho, rfl⟩, call_meets F.slot_tuple_mul ⟨_, ho, rfl⟩ F.entry_tuple_mul (F.args_tuple_mul_2 _ _) (tuple_mulW l [w1].toArray m dd sl n t c0 c1 c2 (by rw [e1]; omega) c4 (by rw [size_rep, List.size_toArray]; exact flen)) ⟨ho, ?_⟩⟩)
    rw [size_rep]
    have hf : H s.heap.objs.size = none := I.hok.fresh (Nat.le_refl _)
    have hr : Vals (List.replicate n V.non) (List.replicate ((n : Int).toNat) [w1]).flatten := by
      rw [← flat_rep]
      exact r.rep n
    exact ⟨.ref s.heap.objs.size, _, I.laid (t' := s.toks) (o := .frz _ (.tup (List.replicate n .non))) (fun b ob q => Heap.get?_push_of_some _ q) (Nat.le_refl _) ⟨Heap.get?_push_size _ rfl, by rw [List.length_replicate, sizeLine_eq]; omega, _, hr, IsTup.new _ _⟩, rfl, q _ _ (same_upd hf) ⟨_, upd_same, rfl, rfl⟩⟩
/-- t.m(..) of such a tuple -/
def tBMT (r : V → List V → Hp → VK → Prop) (to : TE) (t : TA) : TE := fun σ H Q => to σ H fun x H1 => (∃ p xs, x = .ref p ∧ GdT H1 p xs) ∧ t σ H1 fun xs H2 => r x xs H2 Q
theorem pe_bmT {o e : Expr} {es : List Expr} {to : TE} {t : TA} {name : Str} {apos cpos : Pos} {id : String} {r : V → List V → Hp → VK → Prop} (pa : PlainAttrs "tuple") (slot : Slot "tuple" name id) (hty : typeOf (.builtin id) = pure (.type "method_descriptor")) (hm : MtR X id r) (ho : PE X o to) (ha : PA X (e :: es) t)
    (hbase : attributeBase o name X.env (eval o X.env) = eval o X.env := by rfl)
    (hfew : ((backTo cpos (starEach (e :: es) X.env)).all (fun x => !x.1) && (backToKw cpos (keywordEach [] X.env)).all (fun x => x.1.isSome)
      && decide ((e :: es).length + ([] : List Keyword).length + (if ([] : List Keyword).isEmpty then 0 else 1) < 30)) = true := by rfl)
    (hline : (apos.endLine == cpos.line) = true := by rfl) (hs : starEach (e :: es) X.env = (false, eval e X.env) :: starEach es X.env := by rfl) (hplain : (backTo cpos (starEach es X.env)).any (·.1) = false := by rfl) :
    PE X (.Call (.Attribute o name apos) (e :: es) [] cpos) (tBMT r to t) := by
  refine ⟨fun pins s σ H Q I h => ?_⟩
  refine wpAny_Call_method_late hbase hfew hline rfl (thn (ho.run pins s σ H _ I h) fun v s1 ⟨x, H1, I1, r1, ⟨p, xs, ex, ob, hp, hc, hd⟩, q1⟩ => ?_)
  subst ex
  cases r1
  have hob : s1.heap.get? p = some ob := (I1.hok p _ hp).1
  refine ⟨"tuple", id, pa, slot, hty, ⟨ob, hob, hc⟩, fun a ea => ?_, ?_⟩
  · cases ea
    exact ⟨ob, hob, hd⟩
  · have hA := ha.run cpos pins s1 σ H1 _ I1 q1
    rw [hs] at hA ⊢
    refine Calls.callWith_builtin (by show (false || (backTo cpos (starEach es X.env)).any (·.1)) = false; rw [hplain] <;> rfl) (Calls.evalArgs_plain ?_)
    exact thn hA fun us s2 ⟨vs, H2, I2, r2, q2⟩ => hm pins s2 σ H2 (.ref p) vs _ us Q I2 (show RelV (.ref p) (.ref p) from rfl) r2 q2
end
def IsRowG (H : Hp) (v : V) (cs : List (Option Str)) : Prop := ∃ a, v = .ref a ∧ GdT H a (cs.map oV)
theorem IsRowG.mono {H H' : Hp} {v : V} {cs : List (Option Str)} (s : Same H H') : IsRowG H v cs → IsRowG H' v cs := fun ⟨a, e, h⟩ => ⟨a, e, h.mono s⟩
theorem IsRowG.row {K : PySem.W.Frag} {H : Hp} {v : V} {cs : List (Option Str)} : IsRowG H v cs → IsRow K H v cs := fun ⟨a, e, h⟩ => ⟨a, e, h.sq⟩
end Cv

set_option maxRecDepth 100000
set_option maxHeartbeats 4000000
/-! mends: Shower.tree, mend. -/
namespace Cv
open PySem PySem.Spec PyProof.Rows L2
section
variable {P : Program} {w : World} {K : PySem.W.Frag} {mg : Str → Option Value} {base : Heap}

structure TreePre (K : PySem.W.Frag) (H : Hp) (C a : Addr) (kn tp tr tc trec tcost : V) (Pl : List PSort) (R : List Rule) (Cs : List Int) (ks rec : List (Option Str)) (m : Int) (o : Option Int) : Prop where
  sh : IsSh H C a tp tr tc trec tcost
  oc : tcost = oI o
  ip : IsPlan K H tp Pl
  ir : IsRules K H tr R
  ic : IsCosts K H tc Cs
  irec : IsRec K H trec rec m
  ik : IsRowG H kn ks
  gp : GoodPlan Pl
  gr : GoodRules Pl R
  cl : Cs.length = Pl.length
  rl : rec.length = Pl.length
  gk : GoodRow Pl ks
  dn : Done (Pl.map (·.2)) R Cs rec o
def spTree (K : PySem.W.Frag) (C : Addr) (n : Nat) : Sp := fun vs H Q _ => ∃ (a : Addr) (kn tp tr tc trec tcost : V) (Pl : List PSort) (R : List Rule) (Cs : List Int) (ks rec : List (Option Str)) (m : Int) (o : Option Int), vs = [.ref a, kn] ∧
  TreePre K H C a kn tp tr tc trec tcost Pl R Cs ks rec m o ∧ ks.count none < n ∧ ∀ v H', Same H H' → Q v H'
theorem tree_base2 {C : Addr} (S : ShC K mg C) : C8.Met P w K mg base 2 C "tree" (spTree K C 0) [] := by
  obtain ⟨f, fd, hM, hF⟩ := S.tree
  refine ⟨f, fd, _, [], S.cl, hM, hF.ok sc_tree ?len (fun cdv A outer s H vs Q E hr h => ?body), hF.binds (fun _ _ _ _ _ _ us hl => match us, hl with | [_, _], _ => rfl), .nil⟩
  case len =>
    intro vs H Q E ⟨i, n, o, m, p, r, z, z1, z2, z3, z4, z5, z6, z7, e, _⟩
    rw [e]; rfl
  case body =>
    obtain ⟨_, _, _, _, _, _, _, _, _, _, _, _, _, _, _, _, h, _⟩ := h
    exact absurd h (Nat.not_lt_zero _)
theorem tree_step {C : Addr} {k n : Nat} (T : Top mg) (S : ShC K mg C) (g_is_dear : C8.Met P w K mg base 1 C "is_dear" (spDear K C) []) (g_first_bar : C8.Cal P w K mg base 2 "first_bar" (spFirst K) []) (g_tree : C8.Met P w K mg base (k + 2) C "tree" (spTree K C n) []) :
    C8.Met P w K mg base (k + 3) C "tree" (spTree K C (n + 1)) [] := by
  obtain ⟨f, fd, hM, hF⟩ := S.tree
  refine ⟨f, fd, _, [], S.cl, hM, hF.ok sc_tree ?len (fun cdv A outer s H vs Q E hr h => ?body), hF.binds (fun _ _ _ _ _ _ us hl => match us, hl with | [_, _], _ => rfl), .nil⟩
  case len =>
    intro vs H Q E ⟨i, n, o, m, p, r, z, z1, z2, z3, z4, z5, z6, z7, e, _⟩
    rw [e]; rfl
  case body =>
    obtain ⟨a, kn, tp, tr, tc, trec, tcost, Pl, R, Cs, ks, rec, m, o, rfl, pre, hcn, q⟩ := h
    have hhi := pre.gp.hi
    have hkl := pre.gk.len
    have hcl := pre.cl
    have hrl := pre.rl
    have hsh := pre.sh
    obtain ⟨dx, fs, hI, lp, lru, lc, lr, lo, ld, lt⟩ := hsh
    have hmk : (ks.map oV).length = Pl.length := by rw [List.length_map, hkl]
    refine ⟨_, (pss_cons (ps_if (pt_val (C8.pe_mt g_is_dear hr (by omega) (pv 0) (pa_cons (pv 1) pa_nil))) (pss_one (ps_ret (pe_tup (pa_cons pe_str pa_nil)))) pss_nil)
      (pss_cons (ps_set (i := 2) sc_tree.nd rfl (by first | exact Or.inl rfl | exact Or.inr rfl) (C8.pe_c g_first_bar hr (by omega) (by rfl) (pa_cons (pe_fldK (K := K) rfl (pv 0) rfl) (pa_cons (pv 1) pa_nil))))
      (pss_cons (ps_if (pt_cmpR op_notN (pv 2) pe_non (nomark _)) (pss_one (ps_ret (pe_tup (pa_cons pe_str (pa_cons (pv 2) pa_nil))))) pss_nil)
      (pss_cons (ps_set (i := 3) sc_tree.nd rfl (by first | exact Or.inl rfl | exact Or.inr rfl) (pe_bmT PySem.F.plainAttrs_tuple PySem.F.slot_tuple_index PySem.F.type_tuple_index mt_idxN (pv 1) (pa_cons pe_non pa_nil)))
      (pss_one (ps_ret (pe_tup (pa_cons pe_str (pa_cons (pv 3) (pa_cons (pe_lc (own := [("code", 4)]) (g := (gName 4)) (tt := tYes) rfl sc_tree.nd (pi_tupK (K := K) rfl (pe_ix (ix_tupK (K := K) rfl) (pe_ix (ix_tupK (K := K) rfl) (pe_fldK (K := K) rfl (pv 0) rfl) (pv 3) (fun _ _ => rfl)) pe_int (fun _ _ => rfl))) (blkOk_by (own := [("code", 4)]) (N := ["self", "known", "k", "s", "code"]) (sc := defScope st_tree) (by decide +kernel)) (fun _ _ _ _ _ => (pg_name (i := 4) sc_tree.nd rfl (by first | exact Or.inl rfl | exact Or.inr rfl))) (fun _ _ _ _ _ => pts_nil) (fun _ _ _ _ _ => (C8.pe_mt g_tree hr (by omega) (pv 0) (pa_cons (pe_op (op_catF (K := K) rfl) (pe_op (op_catF (K := K) rfl) (pe_slice (sl_tupK (K := K) rfl) (pv 1) po_none (po_some (pv 3))) (pe_tupF (pa_cons (pv 4) pa_nil))) (pe_slice (sl_tupK (K := K) rfl) (pv 1) (po_some (pe_op op_add (pv 3) pe_int)) po_none)) pa_nil)))) pa_nil)))))))))), ?_⟩
    refine ⟨_, rfl, a, dx, fs, rfl, hI, ld, _, rfl, a, kn, tp, tr, tc, trec, tcost, o, Cs, ks, rec, m, rfl, pre.sh, pre.oc, pre.ic, pre.irec, pre.ik.row, by omega, by omega, by omega, fun H1 s1 => ⟨_, rfl, ?_⟩⟩
    cases hd : dearM o Cs ks rec with
    | true => exact iteT ⟨one_le, fun p hp => q _ _ (s1.trans (same_upd hp))⟩
    | false =>
      refine iteF ⟨_, rfl, a, C, dx, fs, _, rfl, s1 _ _ hI, S.cl, S.rules, lru, _, rfl, tr, kn, R, ks, rfl, pre.ir.mono s1, (pre.ik.mono s1).row, barPre_of pre.gp pre.gr hkl, fun hb H2 s2 => ?_, fun hb k H2 s2 => ?_⟩
      · refine ⟨_, rfl, rfl, _, rfl, iteNS rfl ?_⟩
        have s02 := s1.trans s2
        obtain ⟨ka, rfl, hKG⟩ := pre.ik
        have hK : SqT K H ka (ks.map oV) := hKG.sq
        have hmem := none_mem pre.dn pre.gk hcl hrl hd hb
        have hmemV : V.non ∈ ks.map oV := List.mem_map.mpr ⟨none, hmem, rfl⟩
        refine ⟨_, rfl, ⟨ka, _, rfl, hKG.mono s02⟩, ka, ks.map oV, rfl, rfl, (Same.tups s02).seq hK, row_flat ks, hmemV, ?_⟩
        have hidx : (ks.map oV).idxOf V.non < (ks.map oV).length := List.idxOf_lt_length_of_mem hmemV
        have hget : (ks.map oV)[(ks.map oV).idxOf V.non] = V.non := List.getElem_idxOf hidx
        generalize (ks.map oV).idxOf V.non = i at hidx hget
        have hi : i < ks.length := by omega
        have hki : ks[i] = none := by
          rw [List.getElem_map] at hget
          exact oV_non hget
        have hip := pre.ip
        obtain ⟨pa, ps, rfl, hP, hPs⟩ := hip
        have hpl := paired_len hPs
        have hip2 : i < ps.length := by omega
        obtain ⟨so, hso, sa, ca, esa, hSa, cc, rfl, hCa⟩ := paired_get hPs (List.getElem?_eq_getElem hip2)
        have gs := pre.gp.sort so (List.mem_of_getElem? hso)
        refine ⟨_, rfl, _, rfl, a, C, dx, fs, _, rfl, s02 _ _ hI, S.cl, S.plan, lp, _, rfl, pa, _, i, _, rfl, rfl, (Same.tups s02).seq hP, atI_nat (List.getElem?_eq_getElem hip2), sa, _, 1, _, esa, rfl, (Same.tups s02).seq hSa, atI_nat (j := 1) rfl, cc, rfl, ⟨_, (Same.tups s02).seq hCa⟩, fun Dn hD => lc_rel (w := walk_tup (xs := so.2.map V.str)) (by have := gs.codes.hi; rw [List.length_map]; omega) (fun _ _ _ => True) (fun _ _ _ _ _ _ => trivial) hD (fun H' s => (Same.tups (s02.trans s)).seq hCa) (fun j x H3 H4 CC hj s y kk => ?_) fun H' ys s e hyl _ => ?_⟩
        · obtain ⟨rfl, hx⟩ := y
          obtain ⟨c, hc, _, rfl⟩ := strs_get hx
          have sH := s02.trans s
          refine ⟨rfl, _, rfl, a, dx, fs, rfl, sH _ _ hI, lt, _, rfl, _, rfl, i, rfl, sl_to ((Same.tups sH).seq hK) (by omega) fun p1 H5 s5 hp1 => ⟨_, rfl, one_le, fun p2 H6 s6 hp2 => ?_⟩⟩
          have hz2 : ((ks.map oV).take i).length = i := by rw [List.length_take]; omega
          refine ⟨p1, p2, _, _, rfl, rfl, (Same.tups s6).seq hp1, hp2.sq, by rw [hz2]; simp; omega, fun _ => hp2, fun z => (by cases z), fun p3 H7 s7 hp3 => ?_⟩
          have s57 := s6.trans s7
          have s47 := s5.trans s57
          refine ⟨_, rfl, _, rfl, (i : Nat), 1, rfl, rfl, ((i + 1 : Nat) : Int), congrArg V.int (by simp), np_ok (sl_from ((Same.tups (sH.trans s47)).seq hK) (by omega) fun p4 H8 s8 hp4 => ?_)⟩
          refine ⟨p3, p4, _, _, rfl, rfl, (hp3.mono s8).sq, hp4, by rw [List.length_append, hz2, List.length_drop]; simp; omega, fun z => (by simp at z), fun _ => hp3.mono s8, fun p5 H9 s9 hp5 => ?_⟩
          have s49 := (s47.trans s8).trans s9
          have s09 := sH.trans s49
          have t09 := Same.tups s09
          have hset : (ks.map oV).take i ++ [V.str c] ++ (ks.map oV).drop (i + 1) = (ks.set i (some c)).map oV := by
            rw [List.set_eq_take_append_cons_drop, if_pos hi, List.map_append, List.map_cons, List.map_take, List.map_drop, List.append_assoc]
            rfl
          rw [hset] at hp5
          refine ⟨a, .ref p5, .ref pa, tr, tc, trec, tcost, Pl, R, Cs, ks.set i (some c), rec, m, o, rfl, ⟨pre.sh.mono s09, pre.oc, pre.ip.mono t09, pre.ir.mono s09, pre.ic.mono t09, pre.irec.mono t09, ⟨p5, rfl, hp5⟩, pre.gp, pre.gr, pre.cl, pre.rl, goodRow_set pre.gk hso hc, pre.dn⟩, ?_, fun v H' s' => kk v H' (s49.trans s') trivial⟩
          rw [List.count_set hi, hki]
          have : 0 < ks.count none := List.count_pos_iff.mpr hmem
          simp
          omega
        · exact ⟨three_le, fun p hp => q _ _ ((s02.trans s).trans (same_upd hp))⟩
      · exact ⟨_, rfl, rfl, _, rfl, iteN1 (fun z => nomatch z) ⟨_, rfl, two_le, fun p hp => q _ _ ((s1.trans s2).trans (same_upd hp))⟩⟩

theorem tree_of {C : Addr} (T : Top mg) (S : ShC K mg C) (g_is_dear : C8.Met P w K mg base 1 C "is_dear" (spDear K C) []) (g_first_bar : C8.Cal P w K mg base 2 "first_bar" (spFirst K) []) : C8.Met P w K mg base 7 C "tree" (spTree K C 5) [] := by
  have b : C8.Met P w K mg base 2 C "tree" (spTree K C 0) [] := tree_base2 S
  exact tree_step (k := 4) T S g_is_dear g_first_bar (tree_step (k := 3) T S g_is_dear g_first_bar (tree_step (k := 2) T S g_is_dear g_first_bar (tree_step (k := 1) T S g_is_dear g_first_bar (tree_step (k := 0) T S g_is_dear g_first_bar b))))

abbrev st_mend : Stmt := topS 46
theorem sc_mend : FnScope ["plan", "rules", "costs", "record", "cost", "found"] ["plan", "rules", "costs", "record"] (defScope st_mend) := C8.fnScope_by (by decide +kernel)
def spMend (K : PySem.W.Frag) : Sp := fun vs H Q _ => ∃ (t u v z : V) (P : List PSort) (R : List Rule) (C : List Int) (cs : List (Option Str)) (m : Int), vs = [t, u, v, z] ∧ IsPlan K H t P ∧ IsRules K H u R ∧ IsCosts K H v C ∧ IsRec K H z cs m ∧ GoodPlan P ∧ GoodRules P R ∧ GoodCosts P C ∧ GoodRec P cs m ∧
  ∀ H' p x y tr, Same H H' → SqT K H' p [x, y, tr] → IsFound K H' m (cheapestM (P.map (·.2)) R C cs) x y → Q (.ref p) H'
theorem ok_mend {C : Addr} (T : Top mg) (S : ShC K mg C) (D : At K mg "mend" st_mend) (g_must_be_asked : C8.Cal P w K mg base 9 "must_be_asked" (spAsked K) []) (g_must_be_record : C8.Cal P w K mg base 8 "must_be_record" (spRecIn K) []) (g_cheapest : C8.Cal P w K mg base 5 "cheapest" (spCheapest K) [])
    (g_Shower : C8.Mak P w K mg base 1 "Shower" C (spInit C) []) (g_tree : C8.Met P w K mg base 7 C "tree" (spTree K C 5) []) : C8.Cal P w K mg base 10 "mend" (spMend K) [] := by
  refine cal_of D sc_mend ?len (fun _ _ _ _ _ _ us hl => match us, hl with | [_, _, _, _], _ => rfl) (fun f cdv A outer s H vs Q E hr h => ?body)
  case len =>
    intro vs H Q E ⟨i, n, o, m, p, r, z, z1, z2, e, _⟩
    rw [e]; rfl
  case body =>
    obtain ⟨t, u, v, z, Pl, R, Cs, cs, m, rfl, hP, hR, hC, hz, gp, gr, gc, grec, q⟩ := h
    have hhi := gp.hi
    have hlo := gp.lo
    refine ⟨_, (pss_cons (ps_expr (C8.pe_c g_must_be_asked hr (by decide) (by rfl) (pa_cons (pv 0) (pa_cons (pv 1) (pa_cons (pv 2) pa_nil)))))
      (pss_cons (ps_expr (C8.pe_c g_must_be_record hr (by decide) (by rfl) (pa_cons (pv 0) (pa_cons (pv 3) pa_nil))))
      (pss_cons (ps_asg (C8.pe_c g_cheapest hr (by decide) (by rfl) (pa_cons (pv 0) (pa_cons (pv 1) (pa_cons (pv 2) (pa_cons (pv 3) pa_nil))))) (pg_tup rfl (pgs_cons (pg_name (i := 4) sc_mend.nd rfl (by first | exact Or.inl rfl | exact Or.inr rfl)) (pgs_cons (pg_name (i := 5) sc_mend.nd rfl (by first | exact Or.inl rfl | exact Or.inr rfl)) pgs_nil))))
      (pss_one (ps_ret (pe_tup (pa_cons (pv 4) (pa_cons (pv 5) (pa_cons (C8.pe_mt g_tree hr (by decide) (C8.pe_mk g_Shower hr (by decide) (by rfl) (pa_cons (pv 0) (pa_cons (pv 1) (pa_cons (pv 2) (pa_cons (pv 3) (pa_cons (pv 4) pa_nil)))))) (pa_cons (pe_op (op_repF (K := K) rfl) (pe_tupF (pa_cons pe_non pa_nil)) (pe_callB (call_lenK (K := K) rfl) (by rfl) T.len (by decide +kernel) (pa_cons (pv 0) pa_nil))) pa_nil)) pa_nil))))))))), ?_⟩
    refine ⟨_, rfl, _, rfl, _, rfl, t, u, v, Pl, R, Cs, rfl, hP, hR, hC, gp, gr, gc, fun H1 s1 => ?_⟩
    refine ⟨_, rfl, _, rfl, t, z, Pl, cs, m, rfl, hP.mono (Same.tups s1), hz.mono (Same.tups s1), gp, grec, fun H2 s2 => ?_⟩
    have s02 := s1.trans s2
    have t02 := Same.tups s02
    refine ⟨_, rfl, _, rfl, _, rfl, _, rfl, t, u, v, z, Pl, R, Cs, cs, m, rfl, hP.mono t02, hR.mono s02, hC.mono t02, hz.mono t02, gp, gr, gc, grec, fun H3 p x y s3 hp hf => ?_⟩
    have s03 := s02.trans s3
    refine ⟨p, _, rfl, hp, rfl, _, _, rfl, _, _, rfl, rfl, ?_⟩
    refine ⟨_, rfl, _, rfl, _, rfl, _, rfl, _, rfl, _, rfl, _, rfl, fun a dx ha hdx hne => ?_⟩
    refine ⟨a, dx, t, u, v, z, x, rfl, upd_same, fun H4 h4 hsh => ⟨rfl, ?_⟩⟩
    have s4 : Same H3 H4 := fun b o e => by
      have hb : b ≠ a := ne_of_none e ha
      have hb2 : b ≠ dx := ne_of_none e hdx
      rw [h4 b hb, upd_ne hb, upd_ne hb2]
      exact e
    have hsh0 := hsh
    obtain ⟨dx2, fs, hI, _, _, _, _, _, _, lt⟩ := hsh
    refine ⟨a, dx2, fs, rfl, hI, lt, one_le, fun pn H5 s5 hpn => ?_⟩
    have s05 := (s03.trans s4).trans s5
    have hP0 := hP
    obtain ⟨pa, ps, rfl, hPa, hPs⟩ := hP
    have hpl := paired_len hPs
    refine ⟨_, rfl, _, _, rfl, len_tup ((Same.tups s05).seq hPa), pn, ps.length, rfl, rfl, hpn, by omega, by omega, fun p6 H6 s6 hp6 => ?_⟩
    have s56 := s5.trans s6
    have s06 := (s03.trans s4).trans s56
    have t06 := Same.tups s06
    have hrep : (List.replicate ps.length V.non) = (List.replicate Pl.length (none : Option Str)).map oV := by rw [List.map_replicate, hpl]; rfl
    rw [hrep] at hp6
    refine ⟨a, .ref p6, .ref pa, u, v, z, x, Pl, R, Cs, List.replicate Pl.length none, cs, m, (cheapestM (Pl.map (·.2)) R Cs cs).map (·.1), rfl, ⟨hsh0.mono s56, ?_, hP0.mono t06, hR.mono s06, hC.mono t06, hz.mono t06, ⟨p6, rfl, hp6⟩, gp, gr, gc.len, grec.row.len, ⟨List.length_replicate, fun i s c hs hc => ?_⟩, done_cheapest _ _ _ _⟩, ?_, fun v7 H7 s7 => ?_⟩
    · cases ho : cheapestM (Pl.map (·.2)) R Cs cs with
      | none => rw [ho] at hf; exact hf.1
      | some f => rw [ho] at hf; exact hf.1
    · rw [List.getElem?_replicate] at hc
      split at hc
      · cases hc
      · cases hc
    · rw [List.count_replicate]
      split <;> omega
    · refine ⟨three_le, fun pr hpr => ?_⟩
      have s8 : Same H7 (upd H7 pr (.tup [x, y, v7])) := same_upd hpr
      refine q _ pr x y v7 ((s06.trans s7).trans s8) (sqT upd_same) (hf.mono (Same.tups (((s4.trans s56).trans s7).trans s8)))
end
end Cv

set_option maxRecDepth 100000
set_option maxHeartbeats 4000000
/-! The law's purse: _law_purse_by, _law_draw, _law_pick, _law_shuffled. -/
namespace Cv
open PySem PySem.Spec PyProof.Rows L2

/-! ### a source that is a list or a tuple -/
section
variable {X : Cx} {K : PySem.W.Frag} (hK : X.K = K)
include hK
theorem pi_seqK {tg l : Expr} {tl : TE} (hl : PE X l tl) : PI X tg l (fun σ H R => iList K tl σ H R ∨ iTup K tl σ H R) := by
  refine ⟨fun pins s σ H R I h => ?_⟩
  rcases h with h | h
  · exact (pi_listK hK hl).run pins s σ H R I h
  · exact (pi_tupK hK hl).run pins s σ H R I h
end

/-! ### small -/
theorem ixN_nat {n j : Nat} (h : j < n) : ixN n (j : Int) = some j := by
  unfold ixN
  rw [if_pos (by omega), if_pos (by omega)]
  simp
theorem cut_upto {xs : List V} {i : Nat} : cutV xs none (some (i : Int)) = xs.take i := by
  unfold cutV
  rw [HT.sIx_none, HT.sIx_nat, List.drop_zero, Nat.sub_zero]
  by_cases h : i ≤ xs.length
  · rw [Nat.min_eq_left h]
  · rw [Nat.min_eq_right (by omega), List.take_of_length_le (Nat.le_refl _), List.take_of_length_le (by omega)]
theorem mod_nat {x : Int} {k : Nat} (h : 1 ≤ k) : ∃ d : Nat, x % (k : Int) = (d : Int) ∧ d < k := by
  have h1 : 0 ≤ x % (k : Int) := Int.emod_nonneg x (by omega)
  have h2 : x % (k : Int) < (k : Int) := Int.emod_lt_of_pos x (by omega)
  exact ⟨(x % (k : Int)).toNat, (Int.toNat_of_nonneg h1).symm, by omega⟩

/-! ### the purse -/
/-- a purse at p, its cells at c, no more than n drawn -/
def Pu (H : Hp) (p c : Addr) (n : Nat) : Prop := ∃ (cells : List Int) (went : Nat), H p = some (.lst [.ref c, .int (went : Nat)]) ∧ H c = some (.lst (cells.map V.int)) ∧ 1 ≤ cells.length ∧ cells.length ≤ 63 ∧ went ≤ n
/-- all but the purse stays -/
def Go (p c : Addr) (H H' : Hp) : Prop := ∀ b o, b ≠ p → b ≠ c → H b = some o → H' b = some o
section
variable {p c : Addr} {H H1 H' : Hp} {n m : Nat}
theorem Same.go (s : Same H H') : Go p c H H' := fun b o _ _ e => s b o e
theorem Go.refl : Go p c H H := fun _ _ _ _ e => e
theorem Go.trans (a : Go p c H H1) (b : Go p c H1 H') : Go p c H H' := fun x o h1 h2 e => b x o h1 h2 (a x o h1 h2 e)
theorem Pu.same (s : Same H H') : Pu H p c n → Pu H' p c n := fun ⟨cells, went, h1, h2, r⟩ => ⟨cells, went, s _ _ h1, s _ _ h2, r⟩
theorem Pu.le (h : n ≤ m) : Pu H p c n → Pu H p c m := fun ⟨cells, went, h1, h2, h3, h4, h5⟩ => ⟨cells, went, h1, h2, h3, h4, Nat.le_trans h5 h⟩
theorem Pu.ne (h : Pu H p c n) : p ≠ c := by
  obtain ⟨cells, went, h1, h2, _⟩ := h
  intro e
  subst e
  rw [h1] at h2
  injection h2 with h2
  injection h2 with h2
  cases cells with
  | nil => cases h2
  | cons a l => injection h2 with h2 _; cases h2
theorem Pu.fresh {b : Addr} (h : Pu H p c n) (e : H b = none) : b ≠ p ∧ b ≠ c := by
  obtain ⟨cells, went, h1, h2, _⟩ := h
  exact ⟨(ne_of_none h1 e).symm, (ne_of_none h2 e).symm⟩
theorem Pu.tup {b : Addr} {xs : List V} (h : Pu H p c n) (e : H b = some (.tup xs)) : b ≠ p ∧ b ≠ c := by
  obtain ⟨cells, went, h1, h2, _⟩ := h
  exact ⟨ne_of e h1 fun z => (by cases z), ne_of e h2 fun z => (by cases z)⟩
theorem Go.tups (h : Pu H p c n) (g : Go p c H H') : Tups H H' := by
  obtain ⟨cells, went, h1, h2, _⟩ := h
  exact ⟨fun a xs e => g a _ (ne_of e h1 fun z => (by cases z)) (ne_of e h2 fun z => (by cases z)) e, fun a o u e => g a _ (ne_of e h1 fun z => (by cases z)) (ne_of e h2 fun z => (by cases z)) e⟩
/-- a new thing at b, changed -/
theorem Go.upd {b : Addr} {o : HO} (hb : H b = none) (g : Go p c H H') : Go p c H (upd H' b o) := fun x u h1 h2 e => by
  rw [upd_ne (ne_of_none e hb)]
  exact g x u h1 h2 e
theorem Pu.upd {b : Addr} {o : HO} (h1 : b ≠ p) (h2 : b ≠ c) : Pu H p c n → Pu (upd H b o) p c n := fun ⟨cells, went, e1, e2, r⟩ => ⟨cells, went, by rw [upd_ne h1.symm]; exact e1, by rw [upd_ne h2.symm]; exact e2, r⟩
end
theorem mod_ok {x : Int} {k : Nat} {H : Hp} {Q : VK} (h : 1 ≤ k) (q : ∀ d : Nat, d < k → Q (.int (d : Nat)) H) : Q (.int (x % (k : Int))) H := by
  obtain ⟨d, e, hd⟩ := mod_nat (x := x) h
  rw [e]
  exact q d hd
theorem n10_18 : ((10 : Int) ^ (18 : Int).toNat) = 1000000000000000000 := by decide +kernel

section
variable {P : Program} {w : World} {K : PySem.W.Frag} {mg : Str → Option Value} {base : Heap}
abbrev st_law_draw : Stmt := topS 50
theorem sc_law_draw : FnScope ["_law_purse", "_law_out_of", "_law_cells", "_law_went", "_law_where", "_law_cell", "_law_figure"] ["_law_purse", "_law_out_of"] (defScope st_law_draw) := C8.fnScope_by (by decide +kernel)
def spDraw : Sp := fun vs H Q _ => ∃ (p c : Addr) (n k : Nat), vs = [.ref p, .int (k : Nat)] ∧ Pu H p c n ∧ n ≤ 1000000000 ∧ 1 ≤ k ∧ k ≤ 1000000 ∧ ∀ (d : Nat) H', d < k → Go p c H H' → Pu H' p c (n + 1) → Q (.int (d : Nat)) H'
theorem ok_draw (T : Top mg) (D : At K mg "_law_draw" st_law_draw) : C8.Cal P w K mg base 1 "_law_draw" spDraw [] := by
  refine cal_of D sc_law_draw ?len (fun _ _ _ _ _ _ us hl => match us, hl with | [_, _], _ => rfl) (fun f cdv A outer s H vs Q E hr h => ?body)
  case len =>
    intro vs H Q E ⟨i, n, o, m, e, _⟩
    rw [e]; rfl
  case body =>
    obtain ⟨p, c, n, k, rfl, pu, hn, hk, hk6, q⟩ := h
    have hpc := pu.ne
    obtain ⟨cells, went, hp, hc, hl1, hl2, hw⟩ := pu
    have hml : (cells.map V.int).length = cells.length := List.length_map _
    refine ⟨_, (pss_cons (ps_asg (pv 0) (pg_unl rfl (pgs_cons (pg_name (i := 2) sc_law_draw.nd rfl (by first | exact Or.inl rfl | exact Or.inr rfl)) (pgs_cons (pg_name (i := 3) sc_law_draw.nd rfl (by first | exact Or.inl rfl | exact Or.inr rfl)) pgs_nil))))
      (pss_cons (ps_set (i := 4) sc_law_draw.nd rfl (by first | exact Or.inl rfl | exact Or.inr rfl) (pe_op op_mod (pv 3) (pe_callB (call_lenK (K := K) rfl) (by rfl) T.len (by decide +kernel) (pa_cons (pv 2) pa_nil))))
      (pss_cons (ps_set (i := 5) sc_law_draw.nd rfl (by first | exact Or.inl rfl | exact Or.inr rfl) (pe_ix (ix_listK (K := K) rfl) (pv 2) (pv 4) (fun _ _ => rfl)))
      (pss_cons (ps_asg (pe_op op_add (pv 3) pe_int) (pg_sub (pv 0) pe_int set_list))
      (pss_cons (ps_if (pt_cmpR op_ge (pv 5) (pe_op op_pow pe_int pe_int) (nomark _)) (pss_cons (ps_asg (pe_op op_fdiv (pv 5) (pv 1)) (pg_sub (pv 2) (pv 4) set_list))
      (pss_one (ps_ret (pe_op op_mod (pv 5) (pv 1))))) pss_nil)
      (pss_cons (ps_set (i := 6) sc_law_draw.nd rfl (by first | exact Or.inl rfl | exact Or.inr rfl) (pe_op op_mod (pe_op op_add (pe_op op_add (pe_op op_mul (pe_op op_mod (pv 5) pe_int) pe_int) (pe_op op_mul (pe_op op_mul (pv 3) (pv 3)) pe_int)) pe_int) pe_int))
      (pss_cons (ps_set (i := 6) sc_law_draw.nd rfl (by first | exact Or.inl rfl | exact Or.inr rfl) (pe_op op_mod (pe_op op_mul (pv 6) (pv 6)) pe_int))
      (pss_cons (ps_set (i := 6) sc_law_draw.nd rfl (by first | exact Or.inl rfl | exact Or.inr rfl) (pe_op op_mod (pe_op op_mul (pv 6) (pv 6)) pe_int))
      (pss_one (ps_ret (pe_op op_mod (pv 6) (pv 1)))))))))))), ?_⟩
    refine ⟨_, rfl, p, _, rfl, sqL hp, rfl, _, _, rfl, _, _, rfl, rfl, ?_⟩
    refine ⟨_, rfl, _, rfl, _, _, rfl, len_lst (sqL hc), (went : Int), (cells.length : Nat), rfl, by rw [hml], (by show (0 : Int) < _; omega), ?_⟩
    obtain ⟨i, ei, hi⟩ := mod_nat (x := (went : Int)) hl1
    rw [show ((fun i j => V.int (i % j)) (went : Int) ((cells.length : Nat) : Int)) = V.int (i : Nat) from congrArg V.int ei]
    refine ⟨_, rfl, _, rfl, c, _, (i : Nat), _, rfl, rfl, sqL hc, atI_nat (v := .int cells[i]) (by rw [List.getElem?_map, List.getElem?_eq_getElem hi]; rfl), ?_⟩
    refine ⟨_, rfl, (went : Int), 1, rfl, rfl, _, rfl, p, _, 1, 1, rfl, rfl, hp, rfl, ?_⟩
    have hpu : ∀ {H2 : Hp} {cs : List Int}, cs.length = cells.length → H2 p = some (.lst [.ref c, .int ((went + 1 : Nat) : Nat)]) → H2 c = some (.lst (cs.map V.int)) → Pu H2 p c (n + 1) := fun h1 h2 h3 => ⟨_, went + 1, h2, h3, by omega, by omega, by omega⟩
    have hset : ([V.ref c, V.int (went : Nat)].set 1 (V.int ((went : Int) + 1))) = [V.ref c, V.int ((went + 1 : Nat) : Nat)] := by
      show [V.ref c, V.int ((went : Int) + 1)] = _
      rw [Int.natCast_succ]
    have g0 : ∀ {o : HO}, Go p c H (upd H p o) := fun x u h1 _ e => by rw [upd_ne h1]; exact e
    refine ⟨_, rfl, 10, 18, rfl, rfl, ⟨by decide, by decide, by decide⟩, _, _, rfl, rfl, _, rfl, ?_⟩
    rw [n10_18]
    by_cases hbig : 1000000000000000000 ≤ cells[i]
    · refine iteS hbig ?_
      refine ⟨_, rfl, _, rfl, cells[i], (k : Nat), rfl, rfl, ⟨(by omega), (by omega)⟩, _, rfl, _, rfl, c, _, (i : Nat), i, rfl, rfl, by rw [upd_ne hpc.symm]; exact hc, ixN_nat (by rw [hml]; exact hi), ?_⟩
      obtain ⟨d, ed, hd⟩ := mod_nat (x := cells[i]) hk
      refine ⟨_, rfl, _, rfl, cells[i], (k : Nat), rfl, rfl, (by show (0 : Int) < _; omega), ?_⟩
      rw [show ((fun i j => V.int (i % j)) cells[i] ((k : Nat) : Int)) = V.int (d : Nat) from congrArg V.int ed]
      refine q d _ hd (fun x u h1 h2 e => ?_) (hpu (cs := cells.set i (cells[i] / (k : Int))) (List.length_set) ?_ ?_)
      · rw [upd_ne h2, upd_ne h1]; exact e
      · rw [upd_ne hpc, upd_same, hset]
      · rw [upd_same, List.map_set]
    · refine iteSN hbig ?_
      have hm1 : ∀ x : Int, 0 ≤ x % 2147483629 ∧ x % 2147483629 < 2147483629 := fun x => ⟨Int.emod_nonneg x (by decide), Int.emod_lt_of_pos x (by decide)⟩
      have hm2 : ∀ x : Int, 0 ≤ x % 2147483647 ∧ x % 2147483647 < 2147483647 := fun x => ⟨Int.emod_nonneg x (by decide), Int.emod_lt_of_pos x (by decide)⟩
      have small : ∀ x y : Int, 0 ≤ x → x < 2147483648 → CMul x y := fun x y h1 h2 => .inl ⟨by omega, by omega⟩
      have smallR : ∀ x y : Int, 0 ≤ y → y < 2147483648 → CMul x y := fun x y h1 h2 => .inr ⟨by omega, by omega⟩
      refine ⟨_, rfl, cells[i], 2147483629, rfl, rfl, (show (0 : Int) < 2147483629 by decide), _, 48271, rfl, rfl, smallR _ _ (by decide) (by decide), _, rfl, _, rfl, (went : Int), (went : Int), rfl, rfl, small _ _ (by omega) (by omega), _, 69621, rfl, rfl, smallR _ _ (by decide) (by decide), _, _, rfl, rfl, _, 11, rfl, rfl, _, 2147483647, rfl, rfl, (show (0 : Int) < 2147483647 by decide), ?_⟩
      refine ⟨_, rfl, _, rfl, _, _, rfl, rfl, small _ _ (hm2 _).1 (by have := (hm2 ((cells[i] % 2147483629) * 48271 + ((went : Int) * went) * 69621 + 11)).2; exact Int.lt_trans this (by decide)), _, 2147483629, rfl, rfl, (show (0 : Int) < 2147483629 by decide), ?_⟩
      refine ⟨_, rfl, _, rfl, _, _, rfl, rfl, small _ _ (hm1 _).1 (Int.lt_trans (hm1 _).2 (by decide)), _, 2147483587, rfl, rfl, (show (0 : Int) < 2147483587 by decide), ?_⟩
      refine ⟨_, rfl, _, rfl, _, (k : Nat), rfl, rfl, (by show (0 : Int) < _; omega), ?_⟩
      refine mod_ok (Q := Q) hk fun d hd => q d _ hd g0 (hpu (cs := cells) rfl ?_ ?_)
      · rw [upd_same]
        exact congrArg (fun l => some (HO.lst l)) hset
      · rw [upd_ne hpc.symm]; exact hc

abbrev st_law_pick : Stmt := topS 51
theorem sc_law_pick : FnScope ["_law_purse", "_law_some"] ["_law_purse", "_law_some"] (defScope st_law_pick) := C8.fnScope_by (by decide +kernel)
def spPick : Sp := fun vs H Q _ => ∃ (p c l : Addr) (n : Nat) (xs : List V), vs = [.ref p, .ref l] ∧ Pu H p c n ∧ n ≤ 1000000000 ∧ H l = some (.lst xs) ∧ l ≠ p ∧ l ≠ c ∧ 1 ≤ xs.length ∧ xs.length ≤ 1000 ∧ ∀ v H', v ∈ xs → Go p c H H' → Pu H' p c (n + 1) → Q v H'
theorem ok_pick (T : Top mg) (D : At K mg "_law_pick" st_law_pick) (g_law_draw : C8.Cal P w K mg base 1 "_law_draw" spDraw []) : C8.Cal P w K mg base 2 "_law_pick" spPick [] := by
  refine cal_of D sc_law_pick ?len (fun _ _ _ _ _ _ us hl => match us, hl with | [_, _], _ => rfl) (fun f cdv A outer s H vs Q E hr h => ?body)
  case len =>
    intro vs H Q E ⟨i, n, o, m, xs, e, _⟩
    rw [e]; rfl
  case body =>
    obtain ⟨p, c, l, n, xs, rfl, pu, hn, hl, hlp, hlc, h1, h2, q⟩ := h
    refine ⟨_, (pss_one (ps_ret (pe_ix (ix_listK (K := K) rfl) (pv 1) (C8.pe_c g_law_draw hr (by decide) (by rfl) (pa_cons (pv 0) (pa_cons (pe_callB (call_lenK (K := K) rfl) (by rfl) T.len (by decide +kernel) (pa_cons (pv 1) pa_nil)) pa_nil))) (fun _ _ => rfl)))), ?_⟩
    refine ⟨_, rfl, _, rfl, _, rfl, _, _, rfl, len_lst (sqL hl), p, c, n, xs.length, rfl, pu, hn, h1, by omega, fun d H1 hd g pu1 => ?_⟩
    exact ⟨l, xs, (d : Nat), xs[d], rfl, rfl, sqL (g l _ hlp hlc hl), atI_nat (List.getElem?_eq_getElem hd), q _ _ (List.getElem_mem hd) g pu1⟩

abbrev st_law_shuffled : Stmt := topS 52
theorem sc_law_shuffled : FnScope ["_law_purse", "_law_some", "_law_found", "_law_one"] ["_law_purse", "_law_some"] (defScope st_law_shuffled) := C8.fnScope_by (by decide +kernel)
def SqE (K : PySem.W.Frag) (H : Hp) (p c l : Addr) (xs : List V) : Prop := (H l = some (.lst xs) ∧ l ≠ p ∧ l ≠ c) ∨ SqT K H l xs
def spShuf (K : PySem.W.Frag) : Sp := fun vs H Q _ => ∃ (p c l : Addr) (n : Nat) (xs : List V), vs = [.ref p, .ref l] ∧ Pu H p c n ∧ n ≤ 100000000 ∧ SqE K H p c l xs ∧ xs.length ≤ 1000 ∧
  ∀ f ys H', H f = none → Go p c H H' → Pu H' p c (n + xs.length) → H' f = some (.lst ys) → ys.Perm xs → Q (.ref f) H'
theorem SqE.go {p c l : Addr} {H H' : Hp} {n : Nat} {xs : List V} (pu : Pu H p c n) (g : Go p c H H') : SqE K H p c l xs → SqE K H' p c l xs
  | .inl ⟨h, h1, h2⟩ => .inl ⟨g l _ h1 h2 h, h1, h2⟩
  | .inr h => .inr ((Go.tups pu g).seq h)
theorem ins_perm {α : Type} {acc pre : List α} {x : α} {d : Nat} (h : acc.Perm pre) : (acc.take d ++ [x] ++ acc.drop d).Perm (pre ++ [x]) := by
  have e : acc.take d ++ acc.drop d = acc := List.take_append_drop d acc
  have h1 : (acc.take d ++ [x] ++ acc.drop d).Perm (x :: (acc.take d ++ acc.drop d)) := by
    rw [List.append_assoc]
    exact List.perm_middle
  rw [e] at h1
  exact h1.trans ((List.Perm.cons x h).trans (List.perm_append_singleton x pre).symm)
theorem ok_shuffled (T : Top mg) (D : At K mg "_law_shuffled" st_law_shuffled) (g_law_draw : C8.Cal P w K mg base 1 "_law_draw" spDraw []) : C8.Cal P w K mg base 2 "_law_shuffled" (spShuf K) [] := by
  refine cal_of D sc_law_shuffled ?len (fun _ _ _ _ _ _ us hl => match us, hl with | [_, _], _ => rfl) (fun f cdv A outer s H vs Q E hr h => ?body)
  case len =>
    intro vs H Q E ⟨i, n, o, m, xs, e, _⟩
    rw [e]; rfl
  case body =>
    obtain ⟨p, c, l, n, xs, rfl, pu, hn, hl, h2, q⟩ := h
    refine ⟨_, (pss_cons (ps_set (i := 2) sc_law_shuffled.nd rfl (by first | exact Or.inl rfl | exact Or.inr rfl) (pe_lst pa_nil))
      (pss_cons (ps_for PassesOwn.never rfl (pi_seqK (K := K) rfl (pv 1)) (pg_name (i := 3) sc_law_shuffled.nd rfl (by first | exact Or.inl rfl | exact Or.inr rfl))
      (pss_one (ps_expr (pe_bm PySem.F.plainAttrs_list PySem.F.slot_list_insert PySem.F.type_list_insert mt_insert (pv 2) (pa_cons (C8.pe_c g_law_draw hr (by decide) (by rfl) (pa_cons (pv 0) (pa_cons (pe_op op_add (pe_callB (call_lenK (K := K) rfl) (by rfl) T.len (by decide +kernel) (pa_cons (pv 2) pa_nil)) pe_int) pa_nil))) (pa_cons (pv 3) pa_nil))))))
      (pss_one (ps_ret (pv 2))))), ?_⟩
    refine ⟨Nat.zero_le _, fun f hf => ?_⟩
    obtain ⟨hfp, hfc⟩ := pu.fresh hf
    have s0 : Same H (upd H f (.lst [])) := same_upd hf
    have g0 : Go p c H (upd H f (.lst [])) := Same.go s0
    have pu0 := pu.same s0
    let Pv : Nat → L2.St → Hp → Prop := fun i σ H2 => Go p c H H2 ∧ Pu H2 p c (n + i) ∧ ∃ acc y, σ = [some (.ref p), some (.ref l), some (.ref f), y] ∧ H2 f = some (.lst acc) ∧ acc.Perm (xs.take i)
    have h0 : Pv 0 [some (.ref p), some (.ref l), some (.ref f), none] (upd H f (.lst [])) := ⟨g0, pu0, [], none, rfl, upd_same, List.Perm.refl _⟩
    have step : ∀ (De : Ends) (i : Nat) (x : V) (σ : L2.St) (H2 : Hp), i < xs.length → xs[i]? = some x → Pv i σ H2 → (∀ σ' H', Pv (i + 1) σ' H' → De.nx σ' H') →
        gName 3 x σ H2 fun σ2 H3 => tDrop (tBM K "list" (fun x vs H Q => ∃ (l : Addr) (xs : List V) (i : Int) (y : V), x = .ref l ∧ vs = [.int i, y] ∧ H l = some (.lst xs) ∧ xs.length < sizeLine ∧ 0 ≤ i ∧ i < 2 ^ 63 ∧
    Q .non (upd H l (.lst (xs.take i.toNat ++ [y] ++ xs.drop i.toNat)))) (tVar 2) (tCons (tCall spDraw [] E0 (tCons (tVar 0) (tCons (tOp (rI0 fun i j => .int (i + j)) (tCB (rLenK K) (tCons (tVar 2) tNil)) (tC (.int 1))) tNil))) (tCons (tVar 3) tNil))) De σ2 H3 := by
      rintro De i x σ H2 hi hx ⟨g, pu2, acc, y, rfl, hacc, hperm⟩ hq
      have hal : acc.length = i := by rw [hperm.length_eq, List.length_take]; omega
      refine ⟨_, rfl, .inl ⟨rfl, _, sqL hacc⟩, _, rfl, _, rfl, _, _, rfl, len_lst (sqL hacc), _, 1, rfl, rfl, p, c, n + i, acc.length + 1, rfl, pu2, by omega, by omega, by omega, fun d H4 hd g4 pu4 => ?_⟩
      have hacc4 := g4 f _ hfp hfc hacc
      refine ⟨_, rfl, f, acc, (d : Nat), x, rfl, rfl, hacc4, small1000 (by omega), by omega, by omega, hq _ _ ⟨?_, ?_, acc.take d ++ [x] ++ acc.drop d, some x, rfl, ?_, ?_⟩⟩
      · exact Go.upd hf (g.trans g4)
      · exact Pu.upd hfp hfc pu4
      · rw [upd_same, Int.toNat_natCast]
      · rw [List.take_add_one, hx]
        exact ins_perm hperm
    have done : ∀ σ H2, Pv xs.length σ H2 → ∀ De : Ends, (∀ H', De.rt (.ref f) H' ↔ Q (.ref f) H') → tRet (tVar 2) De σ H2 := by
      rintro σ H2 ⟨g, pu2, acc, y, rfl, hacc, hperm⟩ De hq
      rw [List.take_length] at hperm
      exact ⟨_, rfl, (hq H2).mpr (q f acc H2 hf g pu2 hacc hperm)⟩
    rcases hl with ⟨hL, hlp, hlc⟩ | hT
    · have hlf : l ≠ f := ne_of_none hL hf
      refine .inl ⟨_, rfl, l, rfl, ⟨xs, sqL (s0 _ _ hL)⟩, for_it (walk_list (xs := xs)) Pv h0 (fun i σ H2 _ p2 => sqL (p2.1 l _ hlp hlc hL)) (fun i x σ H9 H2 hi p2 y => ?_) fun σ H2 p2 => done σ H2 p2 _ fun _ => Iff.rfl⟩
      obtain ⟨e9, hx⟩ := y
      subst e9
      exact step _ i x σ H2 hi hx p2 fun _ _ h => h
    · refine .inr ⟨_, rfl, l, rfl, ⟨xs, (Same.tups s0).seq hT⟩, for_it (walk_tup (xs := xs)) Pv h0 (fun i σ H2 _ p2 => (Go.tups pu p2.1).seq hT) (fun i x σ H9 H2 hi p2 y => ?_) fun σ H2 p2 => done σ H2 p2 _ fun _ => Iff.rfl⟩
      obtain ⟨e9, hx⟩ := y
      subst e9
      exact step _ i x σ H2 hi hx p2 fun _ _ h => h

theorem eqv_ints_nil : ∀ cells : List Int, PyData.eqv (.list (cells.map PyData.int)) (.list []) = decide (cells = [])
  | [] => by simp [PyData.eqv, PyData.eqvAll]
  | _ :: _ => by simp [PyData.eqv, PyData.eqvAll]
theorem dp_ints {K : PySem.W.Frag} {H : Hp} : ∀ cells : List Int, DpAll K H (cells.map V.int) (cells.map PyData.int)
  | [] => .nil
  | c :: cs => .cons (.int c) (dp_ints cs)
theorem bits_60 : (Builtin.Int.intBits ((10 : Int) ^ (60 : Int).toNat) : Int) * 20 ≤ 2 ^ 27 := by decide +kernel
theorem pos_1200 : (0 : Int) < ((10 : Int) ^ (60 : Int).toNat) ^ (20 : Int).toNat := Int.pow_pos (Int.pow_pos (by decide))

abbrev st_law_purse_by : Stmt := topS 49
theorem sc_law_purse_by : FnScope ["_law_script", "_law_cells", "_law_j"] ["_law_script"] (defScope st_law_purse_by) := C8.fnScope_by (by decide +kernel)
def spPurse (K : PySem.W.Frag) : Sp := fun vs H Q _ => ∃ (a : Addr) (ns : List Int), vs = [.ref a] ∧ SqL K H a (ns.map V.int) ∧ ns.length ≤ 63 ∧ ∀ p c H', Pu H' p c 0 → Q (.ref p) H'
theorem ok_purse (T : Top mg) (D : At K mg "_law_purse_by" st_law_purse_by) : C8.Cal P w K mg base 1 "_law_purse_by" (spPurse K) [] := by
  refine cal_of D sc_law_purse_by ?len (fun _ _ _ _ _ _ us hl => match us, hl with | [_], _ => rfl) (fun f cdv A outer s H vs Q E hr h => ?body)
  case len =>
    intro vs H Q E ⟨i, n, e, _⟩
    rw [e]; rfl
  case body =>
    obtain ⟨a, ns, rfl, hS, h63, q⟩ := h
    refine ⟨_, (pss_cons (ps_set (i := 1) sc_law_purse_by.nd rfl (by first | exact Or.inl rfl | exact Or.inr rfl) (pe_slice (sl_listK (K := K) rfl) (pv 0) po_none (po_some pe_int)))
      (pss_cons (ps_for PassesOwn.never rfl (pi_range1 (by rfl) T.range (pa_cons (pe_callB (call_lenK (K := K) rfl) (by rfl) T.len (by decide +kernel) (pa_cons (pv 1) pa_nil)) pa_nil)) (pg_name (i := 2) sc_law_purse_by.nd rfl (by first | exact Or.inl rfl | exact Or.inr rfl))
      (pss_one (ps_if (pt_cmpR op_ge (pe_callB call_abs (by rfl) T.abs (by decide +kernel) (pa_cons (pe_ix (ix_listK (K := K) rfl) (pv 1) (pv 2) (fun _ _ => rfl)) pa_nil)) (pe_op op_pow pe_int pe_int) (nomark _)) (pss_one (ps_asg (pe_op op_mod (pe_ix (ix_listK (K := K) rfl) (pv 1) (pv 2) (fun _ _ => rfl)) (pe_op op_powW (pe_op op_pow pe_int pe_int) pe_int)) (pg_sub (pv 1) (pv 2) set_list))) pss_nil)))
      (pss_cons (ps_if (pt_cmpR (op_eqK (K := K) rfl hr.units) (pv 1) (pe_lst pa_nil) (nomark _)) (pss_one (ps_set (i := 1) sc_law_purse_by.nd rfl (by first | exact Or.inl rfl | exact Or.inr rfl) (pe_lst (pa_cons pe_int pa_nil)))) pss_nil)
      (pss_one (ps_ret (pe_lst (pa_cons (pv 1) (pa_cons pe_int pa_nil)))))))), ?_⟩
    have hml : ∀ l : List Int, (l.map V.int).length = l.length := fun l => List.length_map _
    refine ⟨_, rfl, 63, rfl, a, _, rfl, hS, fun c hc => ?_⟩
    have e63 : cutV (ns.map V.int) none (some ((63 : Nat) : Int)) = (ns.take 63).map V.int := by rw [cut_upto, List.map_take]
    have e63' : cutV (ns.map V.int) none (some 63) = (ns.take 63).map V.int := e63
    rw [e63']
    generalize hns : ns.take 63 = ms
    have hm63 : ms.length ≤ 63 := by rw [← hns, List.length_take]; omega
    refine ⟨_, rfl, _, _, rfl, len_lst (sqL upd_same), _, rfl, by rw [hml]; omega, by rw [hml]; omega, ?_⟩
    refine for_it walk_range (fun i σ H2 => ∃ cells y, σ = [some (.ref a), some (.ref c), y] ∧ H2 c = some (.lst (cells.map V.int)) ∧ cells.length = ms.length) ⟨ms, none, rfl, upd_same, rfl⟩ (fun _ _ _ _ _ => trivial) (fun i x σ H9 H2 hi p y => ?_) fun σ H2 p => ?_
    · obtain ⟨cells, y0, rfl, hc2, hcl⟩ := p
      obtain ⟨e9, ex⟩ := y
      subst e9
      obtain rfl : x = .int (i : Nat) := ex.trans (congrArg V.int (Int.zero_add _))
      have hi' : i < cells.length := by
        rw [Int.toNat_natCast, hml] at hi
        omega
      have hat : atI (cells.map V.int) ((i : Nat) : Int) = some (.int cells[i]) := atI_nat (by rw [List.getElem?_map, List.getElem?_eq_getElem hi']; rfl)
      refine ⟨_, rfl, _, rfl, c, _, _, _, rfl, rfl, sqL hc2, hat, _, rfl, 10, 18, rfl, rfl, ⟨by decide, by decide, by decide⟩, _, _, rfl, rfl, _, rfl, ?_⟩
      refine ite2 (fun _ => ?_) fun _ => ⟨cells, _, rfl, hc2, hcl⟩
      refine ⟨_, rfl, _, rfl, c, _, _, _, rfl, rfl, sqL hc2, hat, 10, 60, rfl, rfl, ⟨by decide, by decide, by decide⟩, _, 20, rfl, rfl, by decide, bits_60, _, _, rfl, rfl, pos_1200, _, rfl, _, rfl, c, _, _, i, rfl, rfl, hc2, ixN_nat (by rw [hml]; exact hi'), ?_⟩
      exact ⟨cells.set i (cells[i] % ((10 : Int) ^ (60 : Int).toNat) ^ (20 : Int).toNat), _, rfl, by rw [upd_same, List.map_set], by rw [List.length_set, hcl]⟩
    · obtain ⟨cells, y0, rfl, hc2, hcl⟩ := p
      refine ⟨_, rfl, Nat.zero_le _, fun e he => ?_⟩
      have s1 : Same H2 (upd H2 e (.lst [])) := same_upd he
      refine ⟨.list (cells.map PyData.int), .list [], .lst (sqL (s1 _ _ hc2)) (dp_ints cells), .lst (sqL upd_same) .nil, PySem.W.ke_shaped_ints _, PySem.W.ke_shaped_ints [], _, rfl, ?_⟩
      rw [eqv_ints_nil]
      have fin : ∀ {H3 : Hp} {d : Addr} {cs : List Int}, 1 ≤ cs.length → cs.length ≤ 63 → H3 d = some (.lst (cs.map V.int)) → ∀ r, H3 r = none → Q (.ref r) (upd H3 r (.lst [.ref d, .int 0])) := fun {H3 d cs} h1 h2 h3 r hr => by
        have hne : d ≠ r := ne_of_none h3 hr
        refine q r d _ ⟨cs, 0, upd_same, ?_, h1, h2, Nat.le_refl _⟩
        rw [upd_ne hne]
        exact h3
      by_cases hz : cells = []
      · refine iteS hz ⟨one_le, fun d hd => ⟨_, rfl, two_le, fun r hr => ?_⟩⟩
        exact fin (cs := [0]) (by decide) (by decide) upd_same r hr
      · refine iteSN hz ⟨_, rfl, two_le, fun r hr => ?_⟩
        exact fin (List.length_pos_iff.mpr hz) (by omega) (s1 _ _ hc2) r hr
end
end Cv

set_option maxRecDepth 100000
set_option maxHeartbeats 4000000
/-! The law's draws: _law_plan_by. -/
namespace Cv
open PySem PySem.Spec PyProof.Rows L2

/-! ### orders -/
theorem perm_paired {α β : Type} {F : α → β → Prop} {xs ys : List α} (h : ys.Perm xs) : ∀ {ls : List β}, Paired F xs ls → ∃ ls', Paired F ys ls' ∧ ls'.Perm ls := by
  induction h with
  | nil => intro ls p; cases p; exact ⟨[], .nil, List.Perm.refl _⟩
  | cons x _ ih =>
    intro ls p
    cases p with
    | cons r t =>
      obtain ⟨ls', p', h'⟩ := ih t
      exact ⟨_ :: ls', .cons r p', h'.cons _⟩
  | swap x y l =>
    intro ls p
    cases p with
    | cons r t =>
      cases t with
      | cons r2 t => exact ⟨_, .cons r2 (.cons r t), List.Perm.swap _ _ _⟩
  | trans _ _ ih1 ih2 =>
    intro ls p
    obtain ⟨l1, p1, h1⟩ := ih2 p
    obtain ⟨l2, p2, h2⟩ := ih1 p1
    exact ⟨l2, p2, h2.trans h1⟩
theorem paired_map {α β : Type} (f : β → α) : ∀ l : List β, Paired (fun a b => a = f b) (l.map f) l
  | [] => .nil
  | _ :: l => .cons rfl (paired_map f l)
theorem map_of_paired {α β : Type} {f : β → α} : ∀ {xs : List α} {l : List β}, Paired (fun a b => a = f b) xs l → xs = l.map f
  | _, _, .nil => rfl
  | _, _, .cons r t => by rw [r, map_of_paired t]; rfl
theorem perm_map_of {α β : Type} {f : β → α} {ys : List α} {l : List β} (h : ys.Perm (l.map f)) : ∃ l' : List β, ys = l'.map f ∧ l'.Perm l := by
  obtain ⟨l', p, h'⟩ := perm_paired h (paired_map f l)
  exact ⟨l', map_of_paired p, h'⟩

/-! ### words -/
def wordB (z : Str) (n : Nat) : Bool := decide (1 ≤ z.length) && decide (z.length ≤ n) && z.cps.toList.all fun c => small.cps.toList.contains c
theorem word_of {z : Str} {n : Nat} (h : wordB z n = true) : Word z n := by
  unfold wordB at h
  rw [Bool.and_eq_true, Bool.and_eq_true, decide_eq_true_eq, decide_eq_true_eq, List.all_eq_true] at h
  exact ⟨h.1.1, h.1.2, fun c hc => by simpa using h.2 c hc⟩
abbrev nms : List Str := ["age", "home", "work", "eighteen", "a", "ab"]
abbrev cds1 : List Str := ["a", "b", "c", "d", "e", "f"]
abbrev cds2 : List Str := ["no", "n", "non", "none", "o", "on"]
abbrev cds3 : List Str := ["zz", "z", "y", "x", "w", "v"]
theorem nms_word : ∀ z ∈ nms, Word z 8 := fun z hz => word_of (by
  have : nms.all (fun z => wordB z 8) = true := by decide +kernel
  exact List.all_eq_true.mp this z hz)
theorem nms_nd : nms.Nodup := by decide +kernel
theorem cds_of {cs : List Str} (h : cs.all (fun z => wordB z 4) = true) (hn : cs.Nodup) (hl : cs.length = 6) {k : Nat} (h1 : 2 ≤ k) (h2 : k ≤ 6) : GoodCodes (cs.take k) :=
  ⟨by rw [List.length_take]; omega, by rw [List.length_take]; omega, fun c hc => word_of (List.all_eq_true.mp h c (List.mem_of_mem_take hc)), hn.sublist (List.take_sublist k cs)⟩
theorem cds1_ok {k : Nat} (h1 : 2 ≤ k) (h2 : k ≤ 6) : GoodCodes (cds1.take k) := cds_of (by decide +kernel) (by decide +kernel) rfl h1 h2
theorem cds2_ok {k : Nat} (h1 : 2 ≤ k) (h2 : k ≤ 6) : GoodCodes (cds2.take k) := cds_of (by decide +kernel) (by decide +kernel) rfl h1 h2
theorem cds3_ok {k : Nat} (h1 : 2 ≤ k) (h2 : k ≤ 6) : GoodCodes (cds3.take k) := cds_of (by decide +kernel) (by decide +kernel) rfl h1 h2
abbrev szs : List Nat := [2, 2, 3, 3, 4, 6]
theorem szs_ok : ∀ s ∈ szs, 2 ≤ s ∧ s ≤ 6 := by decide
theorem six_le : 6 ≤ sizeLine := by decide

section
variable {P : Program} {w : World} {K : PySem.W.Frag} {mg : Str → Option Value} {base : Heap}
abbrev st_law_plan_by : Stmt := topS 53
theorem sc_law_plan_by : FnScope ["_law_purse", "_law_names", "_law_found", "_law_name", "_law_some", "_law_size"] ["_law_purse"] (defScope st_law_plan_by) := C8.fnScope_by (by decide +kernel)
def spPlanBy (K : PySem.W.Frag) : Sp := fun vs H Q _ => ∃ (p c : Addr) (n : Nat), vs = [.ref p] ∧ Pu H p c n ∧ n ≤ 1000000 ∧ ∀ t P H', Go p c H H' → Pu H' p c (n + 20) → IsPlan K H' t P → GoodPlan P → Q t H'
theorem ok_plan_by (T : Top mg) (D : At K mg "_law_plan_by" st_law_plan_by) (g_law_draw : C8.Cal P w K mg base 1 "_law_draw" spDraw []) (g_law_pick : C8.Cal P w K mg base 2 "_law_pick" spPick []) (g_law_shuffled : C8.Cal P w K mg base 2 "_law_shuffled" (spShuf K) []) : C8.Cal P w K mg base 3 "_law_plan_by" (spPlanBy K) [] := by
  refine cal_of D sc_law_plan_by ?len (fun _ _ _ _ _ _ us hl => match us, hl with | [_], _ => rfl) (fun f cdv A outer s H vs Q E hr h => ?body)
  case len =>
    intro vs H Q E ⟨i, n, o, e, _⟩
    rw [e]; rfl
  case body =>
    obtain ⟨p, c, n, rfl, pu, hn, q⟩ := h
    refine ⟨_, (pss_cons (ps_set (i := 1) sc_law_plan_by.nd rfl (by first | exact Or.inl rfl | exact Or.inr rfl) (C8.pe_c g_law_shuffled hr (by decide) (by rfl) (pa_cons (pv 0) (pa_cons (pe_lst (pa_cons pe_str (pa_cons pe_str (pa_cons pe_str (pa_cons pe_str (pa_cons pe_str (pa_cons pe_str pa_nil))))))) pa_nil))))
      (pss_cons (ps_set (i := 2) sc_law_plan_by.nd rfl (by first | exact Or.inl rfl | exact Or.inr rfl) (pe_lst pa_nil))
      (pss_cons (ps_for PassesOwn.never rfl (pi_listK (K := K) rfl (pe_slice (sl_listK (K := K) rfl) (pv 1) po_none (po_some (pe_op op_add pe_int (C8.pe_c g_law_draw hr (by decide) (by rfl) (pa_cons (pv 0) (pa_cons pe_int pa_nil))))))) (pg_name (i := 3) sc_law_plan_by.nd rfl (by first | exact Or.inl rfl | exact Or.inr rfl))
      (pss_cons (ps_set (i := 4) sc_law_plan_by.nd rfl (by first | exact Or.inl rfl | exact Or.inr rfl) (pe_lst (pa_cons (pe_lst (pa_cons pe_str (pa_cons pe_str (pa_cons pe_str (pa_cons pe_str (pa_cons pe_str (pa_cons pe_str pa_nil))))))) (pa_cons (pe_lst (pa_cons pe_str (pa_cons pe_str (pa_cons pe_str (pa_cons pe_str (pa_cons pe_str (pa_cons pe_str pa_nil))))))) (pa_cons (pe_lst (pa_cons pe_str (pa_cons pe_str (pa_cons pe_str (pa_cons pe_str (pa_cons pe_str (pa_cons pe_str pa_nil))))))) pa_nil)))))
      (pss_cons (ps_set (i := 5) sc_law_plan_by.nd rfl (by first | exact Or.inl rfl | exact Or.inr rfl) (pe_ix (ix_listK (K := K) rfl) (pe_lst (pa_cons pe_int (pa_cons pe_int (pa_cons pe_int (pa_cons pe_int (pa_cons pe_int (pa_cons pe_int pa_nil))))))) (C8.pe_c g_law_draw hr (by decide) (by rfl) (pa_cons (pv 0) (pa_cons pe_int pa_nil))) (fun _ _ => rfl)))
      (pss_one (ps_expr (pe_bm PySem.F.plainAttrs_list PySem.F.slot_list_append PySem.F.type_list_append mt_append (pv 2) (pa_cons (pe_tup (pa_cons (pv 3) (pa_cons (pe_callTy (call_tupK (K := K) rfl) (by rfl) T.tuple (by decide +kernel) (pa_cons (pe_slice (sl_listK (K := K) rfl) (C8.pe_c g_law_pick hr (by decide) (by rfl) (pa_cons (pv 0) (pa_cons (pv 4) pa_nil))) po_none (po_some (pv 5))) pa_nil)) pa_nil))) pa_nil)))))))
      (pss_one (ps_ret (pe_callTy (call_tupK (K := K) rfl) (by rfl) T.tuple (by decide +kernel) (pa_cons (pv 2) pa_nil))))))), ?_⟩
    refine ⟨_, rfl, six_le, fun l0 hl0 => ?_⟩
    have s0 : Same H (upd H l0 (.lst (nms.map V.str))) := same_upd hl0
    have pu0 := pu.same s0
    refine ⟨p, c, l0, n, nms.map V.str, rfl, pu0, by omega, .inl ⟨upd_same, (pu.fresh hl0).1, (pu.fresh hl0).2⟩, by decide, fun f ys H1 hf g1 pu1 hfy hperm => ?_⟩
    obtain ⟨ns, rfl, hns⟩ := perm_map_of hperm
    have hnl : ns.length = 6 := hns.length_eq
    have g01 : Go p c H H1 := (Same.go s0).trans g1
    obtain ⟨hfp, hfc⟩ := pu0.fresh hf
    refine ⟨Nat.zero_le _, fun fl hfl => ?_⟩
    have s2 : Same H1 (upd H1 fl (.lst [])) := same_upd hfl
    have pu2 := pu1.same s2
    have g02 := g01.trans (Same.go s2)
    obtain ⟨hflp, hflc⟩ := pu1.fresh hfl
    have hffl : f ≠ fl := ne_of_none hfy hfl
    have hflH : H fl = none := by
      cases e : H fl with
      | none => rfl
      | some o => rw [g01 fl o hflp hflc e] at hfl; cases hfl
    refine ⟨_, rfl, _, rfl, p, c, _, 4, rfl, pu2, by simp; omega, by decide, by decide, fun d H3 hd g3 pu3 => ?_⟩
    refine ⟨1, (d : Nat), rfl, rfl, ((1 + d : Nat) : Int), congrArg V.int (by simp), f, ns.map V.str, rfl, sqL (g3 f _ hfp hfc (s2 _ _ hfy)), fun wl hwl => ?_⟩
    rw [cut_upto, ← List.map_take]
    have g03 := g02.trans g3
    obtain ⟨hwp, hwc⟩ := pu3.fresh hwl
    have hfl3 : H3 fl = some (.lst []) := g3 fl _ hflp hflc upd_same
    have hwfl : wl ≠ fl := (ne_of_none hfl3 hwl).symm
    have s4 : Same H3 (upd H3 wl (.lst ((ns.take (1 + d)).map V.str))) := same_upd hwl
    have hwlen : ((ns.take (1 + d)).map V.str).length = 1 + d := by rw [List.length_map, List.length_take]; omega
    generalize hnt : ns.take (1 + d) = nt at s4 hwlen
    have hntl : nt.length = 1 + d := by rw [List.length_map] at hwlen; exact hwlen
    have hntm : ∀ z ∈ nt, z ∈ nms := fun z hz => hns.mem_iff.mp (by rw [← hnt] at hz; exact List.mem_of_mem_take hz)
    have hntn : nt.Nodup := by rw [← hnt]; exact (hns.nodup_iff.mpr nms_nd).sublist (List.take_sublist _ _)
    refine ⟨wl, rfl, ⟨_, sqL upd_same⟩, ?_⟩
    refine for_it (walk_list (xs := nt.map V.str)) (fun i σ H5 => Go p c H H5 ∧ Pu H5 p c (n + 7 + 2 * i) ∧ H5 wl = some (.lst (nt.map V.str)) ∧ ∃ acc P y3 y4 y5, σ = [some (.ref p), some (.ref f), some (.ref fl), y3, y4, y5] ∧ H5 fl = some (.lst acc) ∧ Paired (IsSort K H5) acc P ∧ P.map (·.1) = nt.take i ∧ ∀ s ∈ P, GoodCodes s.2)
      ⟨g03.trans (Same.go s4), (pu3.same s4).le (by simp), upd_same, [], [], none, none, none, rfl, s4 _ _ hfl3, .nil, rfl, fun s h => by cases h⟩ (fun i σ H5 _ p5 => sqL p5.2.2.1) (fun i x σ H9 H5 hi p5 y => ?_) fun σ H5 p5 => ?_
    · obtain ⟨g5, pu5, hw5, acc, Pl, y3, y4, y5, rfl, hacc, hPl, hnm, hgc⟩ := p5
      obtain ⟨e9, hx⟩ := y
      subst e9
      rw [hwlen] at hi
      obtain ⟨z, hz, hzi, rfl⟩ := strs_get hx
      have hal : acc.length = i := by
        have := congrArg List.length hnm
        rw [List.length_map, List.length_take] at this
        rw [paired_len hPl]; omega
      refine ⟨six_le, fun a1 ha1 => ⟨six_le, fun a2 ha2 => ⟨six_le, fun a3 ha3 => ⟨three_le, fun sl hsl => ?_⟩⟩⟩⟩
      have t1 := same_upd (o := .lst (cds1.map V.str)) ha1
      have t2 := same_upd (o := .lst (cds2.map V.str)) ha2
      have t3 := same_upd (o := .lst (cds3.map V.str)) ha3
      have t4 := same_upd (o := .lst [.ref a1, .ref a2, .ref a3]) hsl
      have t14 := (t2.trans t3).trans t4
      have t24 := t3.trans t4
      have s5 : Same H5 (upd (upd (upd (upd H5 a1 (.lst (cds1.map V.str))) a2 (.lst (cds2.map V.str))) a3 (.lst (cds3.map V.str))) sl (.lst [.ref a1, .ref a2, .ref a3])) := t1.trans t14
      have k1 : (upd (upd (upd (upd H5 a1 (.lst (cds1.map V.str))) a2 (.lst (cds2.map V.str))) a3 (.lst (cds3.map V.str))) sl (.lst [.ref a1, .ref a2, .ref a3])) a1 = some (.lst (cds1.map V.str)) := t14 _ _ (upd_same : (upd H5 a1 (.lst (cds1.map V.str))) a1 = _)
      have k2 : (upd (upd (upd (upd H5 a1 (.lst (cds1.map V.str))) a2 (.lst (cds2.map V.str))) a3 (.lst (cds3.map V.str))) sl (.lst [.ref a1, .ref a2, .ref a3])) a2 = some (.lst (cds2.map V.str)) := t24 _ _ (upd_same : (upd (upd H5 a1 (.lst (cds1.map V.str))) a2 (.lst (cds2.map V.str))) a2 = _)
      have k3 : (upd (upd (upd (upd H5 a1 (.lst (cds1.map V.str))) a2 (.lst (cds2.map V.str))) a3 (.lst (cds3.map V.str))) sl (.lst [.ref a1, .ref a2, .ref a3])) a3 = some (.lst (cds3.map V.str)) := t4 _ _ (upd_same : (upd (upd (upd H5 a1 (.lst (cds1.map V.str))) a2 (.lst (cds2.map V.str))) a3 (.lst (cds3.map V.str))) a3 = _)
      have k4 : (upd (upd (upd (upd H5 a1 (.lst (cds1.map V.str))) a2 (.lst (cds2.map V.str))) a3 (.lst (cds3.map V.str))) sl (.lst [.ref a1, .ref a2, .ref a3])) sl = _ := upd_same
      have n1 := pu5.fresh ha1
      have pu5a := pu5.same t1
      have n2 := pu5a.fresh ha2
      have pu5b := pu5a.same t2
      have n3 := pu5b.fresh ha3
      have pu5c := pu5b.same t3
      have n4 := pu5c.fresh hsl
      have pu6 : Pu (upd (upd (upd (upd H5 a1 (.lst (cds1.map V.str))) a2 (.lst (cds2.map V.str))) a3 (.lst (cds3.map V.str))) sl (.lst [.ref a1, .ref a2, .ref a3])) p c _ := pu5.same s5
      show tSeq _ _ _ _ (upd (upd (upd (upd H5 a1 (.lst (cds1.map V.str))) a2 (.lst (cds2.map V.str))) a3 (.lst (cds3.map V.str))) sl (.lst [.ref a1, .ref a2, .ref a3]))
      generalize (upd (upd (upd (upd H5 a1 (.lst (cds1.map V.str))) a2 (.lst (cds2.map V.str))) a3 (.lst (cds3.map V.str))) sl (.lst [.ref a1, .ref a2, .ref a3])) = H6 at s5 k1 k2 k3 k4 pu6
      clear t1 t2 t3 t4 t14 t24 pu5a pu5b pu5c
      refine ⟨six_le, fun zl hzl => ?_⟩
      have s7 : Same H6 (upd H6 zl (.lst (szs.map fun k : Nat => V.int (k : Nat)))) := same_upd hzl
      have n5 := pu6.fresh hzl
      refine ⟨_, rfl, p, c, _, 6, rfl, pu6.same s7, by omega, by decide, by decide, fun d2 H8 hd2 g8 pu8 => ?_⟩
      have hsz := szs_ok szs[d2] (List.getElem_mem hd2)
      refine ⟨zl, szs.map fun k : Nat => V.int (k : Nat), (d2 : Nat), .int (szs[d2] : Nat), rfl, rfl, sqL (g8 zl _ n5.1 n5.2 upd_same), atI_nat (by rw [List.getElem?_map, List.getElem?_eq_getElem hd2]; rfl), ?_⟩
      generalize szs[d2] = k at hsz
      have s58 : Go p c H5 H8 := ((Same.go s5).trans (Same.go s7)).trans g8
      have g68 : Go p c H6 H8 := (Same.go s7).trans g8
      have acc8 := s58 fl _ hflp hflc hacc
      refine ⟨_, rfl, .inl ⟨rfl, _, sqL acc8⟩, _, rfl, _, rfl, _, rfl, p, c, sl, _, _, rfl, pu8, by omega, g68 sl _ n4.1 n4.2 k4, n4.1, n4.2, (show 1 ≤ 3 by decide), (show 3 ≤ 1000 by decide), fun v H10 hv g10 pu10 => ?_⟩
      have g6A : Go p c H6 H10 := g68.trans g10
      have hvv : ∃ (q : Addr) (cs : List Str), v = .ref q ∧ H10 q = some (.lst (cs.map V.str)) ∧ GoodCodes (cs.take k) := by
        simp only [List.mem_cons, List.not_mem_nil, or_false] at hv
        rcases hv with rfl | rfl | rfl
        · exact ⟨a1, cds1, rfl, g6A a1 _ n1.1 n1.2 k1, cds1_ok hsz.1 hsz.2⟩
        · exact ⟨a2, cds2, rfl, g6A a2 _ n2.1 n2.2 k2, cds2_ok hsz.1 hsz.2⟩
        · exact ⟨a3, cds3, rfl, g6A a3 _ n3.1 n3.2 k3, cds3_ok hsz.1 hsz.2⟩
      obtain ⟨qa, cs, rfl, hq, hgood⟩ := hvv
      refine np_ok ⟨_, rfl, (k : Nat), rfl, qa, _, rfl, sqL hq, fun u hu => ?_⟩
      rw [cut_upto, ← List.map_take]
      refine ⟨u, _, rfl, .inl ⟨sqL upd_same, fun v2 hv2 => ⟨two_le, fun w2 hw2 => ?_⟩⟩⟩
      have s11 : Same H10 (upd H10 u (.lst ((cs.take k).map V.str))) := same_upd hu
      have s12 : Same (upd H10 u (.lst ((cs.take k).map V.str))) (upd (upd H10 u (.lst ((cs.take k).map V.str))) v2 (.tup ((cs.take k).map V.str))) := same_upd hv2
      have s13 : Same (upd (upd H10 u (.lst ((cs.take k).map V.str))) v2 (.tup ((cs.take k).map V.str))) (upd (upd (upd H10 u (.lst ((cs.take k).map V.str))) v2 (.tup ((cs.take k).map V.str))) w2 (.tup [.str z, .ref v2])) := same_upd hw2
      have tv : (upd (upd (upd H10 u (.lst ((cs.take k).map V.str))) v2 (.tup ((cs.take k).map V.str))) w2 (.tup [.str z, .ref v2])) v2 = some (.tup ((cs.take k).map V.str)) := s13 _ _ upd_same
      have tw : (upd (upd (upd H10 u (.lst ((cs.take k).map V.str))) v2 (.tup ((cs.take k).map V.str))) w2 (.tup [.str z, .ref v2])) w2 = some (.tup [.str z, .ref v2]) := upd_same
      have s14 := (s11.trans s12).trans s13
      generalize (upd (upd (upd H10 u (.lst ((cs.take k).map V.str))) v2 (.tup ((cs.take k).map V.str))) w2 (.tup [.str z, .ref v2])) = H14 at s14 tv tw
      have g5E : Go p c H5 H14 := (s58.trans g10).trans (Same.go s14)
      have accE := g5E fl _ hflp hflc hacc
      have tE : Tups H14 (upd H14 fl (.lst (acc ++ [.ref w2]))) := tups_lst accE
      refine ⟨fl, acc, .ref w2, rfl, rfl, accE, small1000 (by omega), Go.upd hflH (g5.trans g5E), ?_, ?_, acc ++ [.ref w2], Pl ++ [(z, cs.take k)], _, _, _, rfl, upd_same, ?_, ?_, ?_⟩
      · refine Pu.upd hflp hflc ((pu10.same s14).le (by omega))
      · rw [upd_ne hwfl]
        exact g5E wl _ hwp hwc hw5
      · refine paired_snoc (paired_imp hPl fun _ _ => IsSort.mono ((Go.tups pu5 g5E).trans tE)) ⟨w2, .ref v2, rfl, tE.seq (sqT tw), v2, rfl, tE.seq (sqT tv)⟩
      · rw [List.map_append, hnm, List.take_add_one, hzi]
        rfl
      · intro s hs
        rcases List.mem_append.mp hs with hs | hs
        · exact hgc s hs
        · rw [List.mem_singleton.mp hs]
          exact hgood
    · obtain ⟨g5, pu5, hw5, acc, Pl, y3, y4, y5, rfl, hacc, hPl, hnm, hgc⟩ := p5
      rw [hwlen, List.take_of_length_le (by omega)] at hnm
      rw [hwlen] at pu5
      refine ⟨_, rfl, fl, acc, rfl, .inl ⟨sqL hacc, fun tp htp => ?_⟩⟩
      have s15 : Same H5 (upd H5 tp (.tup acc)) := same_upd htp
      have hpl : Pl.length = 1 + d := by rw [← hntl, ← hnm, List.length_map]
      refine q (.ref tp) Pl _ (g5.trans (Same.go s15)) ((pu5.same s15).le (by omega)) ⟨tp, acc, rfl, sqT upd_same, paired_imp hPl fun _ _ => IsSort.mono (Same.tups s15)⟩ ⟨by omega, by omega, fun s hs => ⟨nms_word _ (hntm _ ?_), hgc s hs⟩, by rw [hnm]; exact hntn⟩
      rw [← hnm]
      exact List.mem_map.mpr ⟨s, hs, rfl⟩
end
end Cv

set_option maxRecDepth 100000
set_option maxHeartbeats 4000000
/-! The law's draws: _law_rules_by. -/
namespace Cv
open PySem PySem.Spec PyProof.Rows L2

/-! ### data to compare -/
def nD : Option (List Str) → PyData
  | none => .none
  | some cs => .tuple (cs.map PyData.str)
def oD : Option Str → PyData
  | none => .none
  | some c => .str c
theorem strOk_word {z : Str} {n : Nat} (h : Word z n) : PyData.strOk z = true := by
  unfold PyData.strOk
  rw [Array.all_eq_true']
  intro c hc
  have h1 := h.signs c (Array.mem_toList_iff.mpr hc)
  have h2 : small.cps.toList.all (fun c => decide (c < 0x110000)) = true := by decide +kernel
  exact List.all_eq_true.mp h2 c h1
theorem lay_all {ds : List PyData} (h : ∀ d ∈ ds, d.canLay0 = true) : PyData.canLayAll0 ds = true := by
  induction ds with
  | nil => rfl
  | cons d ds ih => simp [PyData.canLayAll0, h d List.mem_cons_self, ih fun e he => h e (List.mem_cons_of_mem _ he)]
theorem depth_all {ds : List PyData} {k : Nat} (h : ∀ d ∈ ds, d.depth ≤ k) : PyData.depthAll ds ≤ k := by
  induction ds with
  | nil => simp [PyData.depthAll]
  | cons d ds ih =>
    rw [PyData.depthAll]
    exact Nat.max_le.mpr ⟨h d List.mem_cons_self, ih fun e he => h e (List.mem_cons_of_mem _ he)⟩
theorem strs_lay {cs : List Str} (h : ∀ c ∈ cs, PyData.strOk c = true) : PyData.canLayAll0 (cs.map PyData.str) = true := lay_all fun d hd => by
  obtain ⟨c, hc, rfl⟩ := List.mem_map.mp hd
  simp [PyData.canLay0, h c hc]
theorem strs_depth {cs : List Str} : PyData.depthAll (cs.map PyData.str) ≤ 0 := depth_all fun d hd => by
  obtain ⟨c, hc, rfl⟩ := List.mem_map.mp hd
  simp [PyData.depth]
theorem nD_ok {n : Option (List Str)} (h : ∀ cs, n = some cs → ∀ c ∈ cs, PyData.strOk c = true) : (nD n).canLay0 = true ∧ (nD n).depth ≤ 1 := by
  cases n with
  | none => exact ⟨rfl, by simp [nD, PyData.depth]⟩
  | some cs =>
    refine ⟨by simp [nD, PyData.canLay0, strs_lay (h cs rfl)], ?_⟩
    have := strs_depth (cs := cs)
    simp [nD, PyData.depth]
    omega
theorem rule_shaped {r : Rule} (h : ∀ n ∈ r, ∀ cs, n = some cs → ∀ c ∈ cs, PyData.strOk c = true) : SeqAt.shaped (.list (r.map nD)) = true := by
  have h1 : PyData.canLayAll0 (r.map nD) = true := lay_all fun d hd => by
    obtain ⟨n, hn, rfl⟩ := List.mem_map.mp hd
    exact (nD_ok (h n hn)).1
  have h2 : PyData.depthAll (r.map nD) ≤ 1 := depth_all fun d hd => by
    obtain ⟨n, hn, rfl⟩ := List.mem_map.mp hd
    exact (nD_ok (h n hn)).2
  simp [SeqAt.shaped, PyData.canLay0, PyData.depth, h1]
  omega
section
variable {K : PySem.W.Frag} {H : Hp}
theorem dp_strs : ∀ cs : List Str, DpAll K H (cs.map V.str) (cs.map PyData.str)
  | [] => .nil
  | c :: cs => .cons (.str c) (dp_strs cs)
theorem dp_named {v : V} : ∀ {n : Option (List Str)}, IsNamed K H v n → Dp K H v (nD n)
  | none, h => by
    obtain rfl : v = .non := h
    exact .non
  | some cs, ⟨a, e, h⟩ => by
    subst e
    exact .tup h (dp_strs cs)
theorem dp_rule : ∀ {vs : List V} {r : Rule}, Paired (IsNamed K H) vs r → DpAll K H vs (r.map nD)
  | _, _, .nil => .nil
  | _, _, .cons h t => .cons (dp_named h) (dp_rule t)
theorem dp_nones : ∀ n : Nat, DpAll K H (List.replicate n .non) (List.replicate n .none)
  | 0 => .nil
  | n + 1 => .cons .non (dp_nones n)
end
theorem nones_shaped (n : Nat) : SeqAt.shaped (.list (List.replicate n .none)) = true := by
  have := rule_shaped (r := List.replicate n none) fun m hm cs e => by
    rw [(List.mem_replicate.mp hm).2] at e; cases e
  rwa [List.map_replicate] at this
/-- a rule that == [None] * n denies names a code -/
theorem some_of_ne {r : Rule} {n : Nat} (hl : r.length = n) (h : PyData.eqv (.list (r.map nD)) (.list (List.replicate n .none)) = false) : ∃ x ∈ r, x ≠ none := by
  refine Classical.byContradiction fun hno => ?_
  have hall : ∀ x ∈ r, x = none := fun x hx => Classical.byContradiction fun z => hno ⟨x, hx, z⟩
  have e : r = List.replicate n none := List.eq_replicate_iff.mpr ⟨hl, hall⟩
  rw [e, List.map_replicate] at h
  have h2 : PyData.eqv (.list (List.replicate n (nD none))) (.list (List.replicate n .none)) = true := PySem.SeqAt.eqv_refl _ (SeqAt.canLay_of_shaped (nones_shaped n))
  rw [h2] at h
  cases h
theorem paired_set {α β : Type} {F : α → β → Prop} {a : α} {b : β} : ∀ {l : List α} {m : List β} {i : Nat}, Paired F l m → F a b → Paired F (l.set i a) (m.set i b)
  | _, _, _, .nil, _ => .nil
  | _, _, 0, .cons _ t, h => .cons h t
  | _, _, i + 1, .cons r t, h => .cons r (paired_set t h)

section
variable {P : Program} {w : World} {K : PySem.W.Frag} {mg : Str → Option Value} {base : Heap}
abbrev st_law_rules_by : Stmt := topS 54
theorem sc_law_rules_by : FnScope ["_law_purse", "_law_plan", "_law_most", "_law_found", "_law_k", "_law_rule", "_law_name", "_law_codes", "_law_many"] ["_law_purse", "_law_plan", "_law_most"] (defScope st_law_rules_by) := C8.fnScope_by (by decide +kernel)
/-- the names that a rule's entries may bear -/
def Names (Pl : List PSort) (r : Rule) : Prop := ∀ (i : Nat) s n, Pl[i]? = some s → r[i]? = some n → GoodNamed s.2 n
def spRulesBy (K : PySem.W.Frag) : Sp := fun vs H Q _ => ∃ (p c : Addr) (t : V) (Pl : List PSort) (n : Nat), vs = [.ref p, t, .int 9] ∧ Pu H p c n ∧ n ≤ 1000000 ∧ IsPlan K H t Pl ∧ GoodPlan Pl ∧
  ∀ u R H', Go p c H H' → Pu H' p c (n + 1000) → H u = none → IsRules K H' (.ref u) R → GoodRules Pl R → R.length ≤ 8 → Q (.ref u) H'
theorem ok_rules_by (T : Top mg) (D : At K mg "_law_rules_by" st_law_rules_by) (g_law_draw : C8.Cal P w K mg base 1 "_law_draw" spDraw []) (g_law_shuffled : C8.Cal P w K mg base 2 "_law_shuffled" (spShuf K) []) : C8.Cal P w K mg base 3 "_law_rules_by" (spRulesBy K) [] := by
  refine cal_of D sc_law_rules_by ?len (fun _ _ _ _ _ _ us hl => match us, hl with | [_, _, _], _ => rfl) (fun f cdv A outer s H vs Q E hr h => ?body)
  case len =>
    intro vs H Q E ⟨i, n, o, m, l, e, _⟩
    rw [e]; rfl
  case body =>
    obtain ⟨p, c, t, Pl, n, rfl, pu, hn, ⟨ta, xs, rfl, hT, hPs⟩, gp, q⟩ := h
    have hxl := paired_len hPs
    have hhi := gp.hi
    have hlo := gp.lo
    refine ⟨_, (pss_cons (ps_set (i := 3) sc_law_rules_by.nd rfl (by first | exact Or.inl rfl | exact Or.inr rfl) (pe_lst pa_nil))
      (pss_cons (ps_for PassesOwn.never rfl (pi_range1 (by rfl) T.range (pa_cons (C8.pe_c g_law_draw hr (by decide) (by rfl) (pa_cons (pv 0) (pa_cons (pv 2) pa_nil))) pa_nil)) (pg_name (i := 4) sc_law_rules_by.nd rfl (by first | exact Or.inl rfl | exact Or.inr rfl))
      (pss_cons (ps_set (i := 5) sc_law_rules_by.nd rfl (by first | exact Or.inl rfl | exact Or.inr rfl) (pe_lst pa_nil))
      (pss_cons (ps_for PassesOwn.never rfl (pi_tupK (K := K) rfl (pv 1)) (pg_tup rfl (pgs_cons (pg_name (i := 6) sc_law_rules_by.nd rfl (by first | exact Or.inl rfl | exact Or.inr rfl)) (pgs_cons (pg_name (i := 7) sc_law_rules_by.nd rfl (by first | exact Or.inl rfl | exact Or.inr rfl)) pgs_nil)))
      (pss_cons (ps_set (i := 8) sc_law_rules_by.nd rfl (by first | exact Or.inl rfl | exact Or.inr rfl) (pe_op op_add pe_int (C8.pe_c g_law_draw hr (by decide) (by rfl) (pa_cons (pv 0) (pa_cons (pe_callB (call_lenK (K := K) rfl) (by rfl) T.len (by decide +kernel) (pa_cons (pv 7) pa_nil)) pa_nil)))))
      (C8.pss_cut (ps_if (pt_cmpR op_gt (C8.pe_c g_law_draw hr (by decide) (by rfl) (pa_cons (pv 0) (pa_cons pe_int pa_nil))) pe_int (nomark _)) (pss_one (ps_set (i := 8) sc_law_rules_by.nd rfl (by first | exact Or.inl rfl | exact Or.inr rfl) (pe_callB (call_min2 rfl) (by rfl) T.min (by decide +kernel) (pa_cons (pv 8) (pa_cons pe_int pa_nil))))) pss_nil)
      (pss_one (ps_expr (pe_bm PySem.F.plainAttrs_list PySem.F.slot_list_append PySem.F.type_list_append mt_append (pv 5) (pa_cons (pe_ix (ix_listK (K := K) rfl) (pe_lst (pa_cons pe_non (pa_cons (pe_callTy (call_tupK (K := K) rfl) (by rfl) T.tuple (by decide +kernel) (pa_cons (pe_slice (sl_listK (K := K) rfl) (C8.pe_c g_law_shuffled hr (by decide) (by rfl) (pa_cons (pv 0) (pa_cons (pv 7) pa_nil))) po_none (po_some (pv 8))) pa_nil)) pa_nil))) (C8.pe_c g_law_draw hr (by decide) (by rfl) (pa_cons (pv 0) (pa_cons pe_int pa_nil))) (fun _ _ => rfl)) pa_nil)))))))
      (C8.pss_cut (ps_if (pt_cmpR (op_eqK (K := K) rfl hr.units) (pv 5) (pe_op op_rep (pe_lst (pa_cons pe_non pa_nil)) (pe_callB (call_lenK (K := K) rfl) (by rfl) T.len (by decide +kernel) (pa_cons (pv 1) pa_nil))) (nomark _)) (pss_one (ps_asg (pe_slice (sl_tupK (K := K) rfl) (pe_ix (ix_tupK (K := K) rfl) (pe_ix (ix_tupK (K := K) rfl) (pv 1) pe_int (fun _ _ => rfl)) pe_int (fun _ _ => rfl)) po_none (po_some pe_int)) (pg_sub (pv 5) pe_int set_list))) pss_nil)
      (pss_one (ps_expr (pe_bm PySem.F.plainAttrs_list PySem.F.slot_list_append PySem.F.type_list_append mt_append (pv 3) (pa_cons (pe_callTy (call_tupK (K := K) rfl) (by rfl) T.tuple (by decide +kernel) (pa_cons (pv 5) pa_nil)) pa_nil))))))))
      (pss_one (ps_ret (pv 3))))), ?_⟩
    refine ⟨Nat.zero_le _, fun fl hfl => ?_⟩
    have s0 : Same H (upd H fl (.lst [])) := same_upd hfl
    obtain ⟨hflp, hflc⟩ := pu.fresh hfl
    refine ⟨_, rfl, _, rfl, p, c, n, 9, rfl, pu.same s0, by omega, by decide, by decide, fun d H1 hd g1 pu1 => ⟨(d : Nat), rfl, by omega, by omega, ?_⟩⟩
    have g01 : Go p c H H1 := (Same.go s0).trans g1
    refine for_it walk_range (fun i σ H5 => Go p c H H5 ∧ Pu H5 p c (n + 1 + 60 * i) ∧ ∃ acc R y4 y5 y6 y7 y8, σ = [some (.ref p), some (.ref ta), some (.int 9), some (.ref fl), y4, y5, y6, y7, y8] ∧ H5 fl = some (.lst acc) ∧ Paired (IsRule K H5) acc R ∧ R.length = i ∧ ∀ r ∈ R, GoodRule Pl r)
      ⟨g01, pu1, [], [], none, none, none, none, none, rfl, g1 fl _ hflp hflc upd_same, .nil, rfl, fun r h => by cases h⟩ (fun _ _ _ _ _ => trivial) (fun i x σ H9 H5 hi p5 y => ?_) fun σ H5 p5 => ?_
    · obtain ⟨g5, pu5, acc, R, y4, y5, y6, y7, y8, rfl, hacc, hR, hRl, hgr⟩ := p5
      obtain ⟨e9, ex⟩ := y
      subst e9 ex
      have hi8 : i < 9 := by
        rw [Int.toNat_natCast] at hi
        omega
      refine ⟨Nat.zero_le _, fun rl hrl => ?_⟩
      have s6 : Same H5 (upd H5 rl (.lst [])) := same_upd hrl
      obtain ⟨hrlp, hrlc⟩ := pu5.fresh hrl
      have hrf : rl ≠ fl := (ne_of_none hacc hrl).symm
      have hrlH : H rl = none := by
        cases e : H rl with
        | none => rfl
        | some o => rw [g5 rl o hrlp hrlc e] at hrl; cases hrl
      have t05 := Go.tups pu g5
      refine ⟨_, rfl, ta, rfl, ⟨xs, (Same.tups s6).seq (t05.seq hT)⟩, for_it (walk_tup (xs := xs)) (fun j σ H6 => Go p c H5 H6 ∧ Pu H6 p c (n + 1 + 60 * i + 12 * j) ∧ ∃ ra r z4 z6 z7 z8, σ = [some (.ref p), some (.ref ta), some (.int 9), some (.ref fl), z4, some (.ref rl), z6, z7, z8] ∧ H6 rl = some (.lst ra) ∧ Paired (IsNamed K H6) ra r ∧ r.length = j ∧ Names Pl r)
        ⟨Same.go s6, pu5.same s6, [], [], _, _, _, _, rfl, upd_same, .nil, rfl, fun _ _ _ _ h => by simp at h⟩ (fun j σ H6 _ p6 => (t05.trans (Go.tups pu5 p6.1)).seq hT) (fun j x σ H9 H6 hj p6 y => ?_) fun σ H6 p6 => ?_⟩
      · obtain ⟨g6, pu6, ra, r, z4, z6, z7, z8, rfl, hra, hrr, hrlen, hnames⟩ := p6
        obtain ⟨e9, hx⟩ := y
        subst e9
        obtain ⟨so, hso, sa, cv, rfl, hS, ca, rfl, hC⟩ := paired_get hPs hx
        have t06 := t05.trans (Go.tups pu5 g6)
        have gs := gp.sort so (List.mem_of_getElem? hso)
        have hcl : (so.2.map V.str).length = so.2.length := List.length_map _
        have hc6 := gs.codes.hi
        have hc2 := gs.codes.lo
        have hC6 := t06.seq hC
        refine ⟨sa, _, rfl, t06.seq hS, rfl, _, _, rfl, _, _, rfl, rfl, ?_⟩
        refine ⟨_, rfl, _, rfl, _, _, rfl, len_tup hC6, p, c, _, so.2.length, congrArg (fun k : Nat => [V.ref p, V.int (k : Int)]) hcl, pu6, by omega, by omega, by omega, fun d1 H7 hd1 g7 pu7 => ⟨1, (d1 : Nat), rfl, rfl, ?_⟩⟩
        refine ⟨fun σ H8 => ∃ mz : Nat, 1 ≤ mz ∧ σ = [some (.ref p), some (.ref ta), some (.int 9), some (.ref fl), z4, some (.ref rl), some (.str so.1), some (.ref ca), some (.int (mz : Nat))] ∧ Go p c H6 H8 ∧ Pu H8 p c (n + 1 + 60 * i + 12 * j + 2), ?_, ?_⟩
        · refine ⟨_, rfl, p, c, _, 3, rfl, pu7, by omega, by decide, by decide, fun d2 H8 hd2 g8 pu8 => ⟨(d2 : Nat), 0, rfl, rfl, _, rfl, ite2 (fun _ => ?_) fun _ => ?_⟩⟩
          · refine ⟨_, rfl, ((1 : Int) + (d1 : Nat)), 2, rfl, ?_⟩
            by_cases h2 : (2 : Int) < 1 + (d1 : Nat)
            · rw [if_pos h2]
              exact ⟨2, by decide, rfl, g7.trans g8, pu8⟩
            · rw [if_neg h2]
              exact ⟨1 + d1, by omega, by rw [Int.natCast_add]; rfl, g7.trans g8, pu8⟩
          · exact ⟨1 + d1, by omega, by rw [Int.natCast_add]; rfl, g7.trans g8, pu8⟩
        · rintro σ H8 ⟨mz, hmz, rfl, g68, pu8⟩
          have hra8 := g68 rl _ hrlp hrlc hra
          have hC8 := (Go.tups pu6 g68).seq hC6
          refine ⟨_, rfl, .inl ⟨rfl, _, sqL hra8⟩, _, rfl, _, rfl, p, c, ca, _, _, rfl, pu8, by omega, .inr hC8, by omega, fun f ys H10 hf g10 pu10 hfy hperm => np_ok ⟨_, rfl, (mz : Nat), rfl, f, _, rfl, sqL hfy, fun u hu => ?_⟩⟩
          obtain ⟨cs, rfl, hcs⟩ := perm_map_of hperm
          rw [cut_upto, ← List.map_take]
          refine ⟨u, _, rfl, .inl ⟨sqL upd_same, fun v2 hv2 => ⟨two_le, fun l2 hl2 => ?_⟩⟩⟩
          have s11 : Same H10 (upd H10 u (.lst ((cs.take mz).map V.str))) := same_upd hu
          have s12 : Same _ (upd (upd H10 u (.lst ((cs.take mz).map V.str))) v2 (.tup ((cs.take mz).map V.str))) := same_upd hv2
          have s13 : Same _ (upd (upd (upd H10 u (.lst ((cs.take mz).map V.str))) v2 (.tup ((cs.take mz).map V.str))) l2 (.lst [.non, .ref v2])) := same_upd hl2
          have tv : (upd (upd (upd H10 u (.lst ((cs.take mz).map V.str))) v2 (.tup ((cs.take mz).map V.str))) l2 (.lst [.non, .ref v2])) v2 = some (.tup ((cs.take mz).map V.str)) := s13 _ _ upd_same
          have tw : (upd (upd (upd H10 u (.lst ((cs.take mz).map V.str))) v2 (.tup ((cs.take mz).map V.str))) l2 (.lst [.non, .ref v2])) l2 = some (.lst [.non, .ref v2]) := upd_same
          have s14 : Same H10 (upd (upd (upd H10 u (.lst ((cs.take mz).map V.str))) v2 (.tup ((cs.take mz).map V.str))) l2 (.lst [.non, .ref v2])) := (s11.trans s12).trans s13
          have pu14 : Pu (upd (upd (upd H10 u (.lst ((cs.take mz).map V.str))) v2 (.tup ((cs.take mz).map V.str))) l2 (.lst [.non, .ref v2])) p c _ := pu10.same s14
          have nl2 : l2 ≠ p ∧ l2 ≠ c := (pu10.same (s11.trans s12)).fresh hl2
          generalize (upd (upd (upd H10 u (.lst ((cs.take mz).map V.str))) v2 (.tup ((cs.take mz).map V.str))) l2 (.lst [.non, .ref v2])) = H14 at s14 tv tw pu14
          clear s11 s12 s13
          refine ⟨_, rfl, p, c, _, 2, rfl, pu14, by rw [hcl]; omega, by decide, by decide, fun d3 H15 hd3 g15 pu15 => ?_⟩
          have hel : ∃ (x : V) (nm : Option (List Str)), [V.non, V.ref v2][d3]? = some x ∧ IsNamed K H15 x nm ∧ GoodNamed so.2 nm := by
            have hd3' : d3 = 0 ∨ d3 = 1 := by omega
            rcases hd3' with rfl | rfl
            · exact ⟨.non, none, rfl, rfl, trivial⟩
            · refine ⟨.ref v2, some (cs.take mz), rfl, ⟨v2, rfl, (Go.tups pu14 g15).seq (sqT tv)⟩, ?_, (hcs.nodup_iff.mpr gs.codes.nd).sublist (List.take_sublist _ _), fun z hz => hcs.mem_iff.mp (List.mem_of_mem_take hz), ?_⟩
              · intro e
                have := congrArg List.length e
                rw [List.length_take, hcs.length_eq, List.length_nil] at this
                omega
              · rw [List.length_take, hcs.length_eq]
                omega
          obtain ⟨x, nm, hx3, hnm, hgn⟩ := hel
          have g6F : Go p c H6 H15 := ((g68.trans g10).trans (Same.go s14)).trans g15
          have hraF := g6F rl _ hrlp hrlc hra
          have tF : Tups H15 (upd H15 rl (.lst (ra ++ [x]))) := tups_lst hraF
          have hral : ra.length = j := by rw [paired_len hrr, hrlen]
          refine ⟨l2, _, (d3 : Nat), x, rfl, rfl, sqL (g15 l2 _ nl2.1 nl2.2 tw), atI_nat hx3, rl, ra, x, rfl, rfl, hraF, small1000 (by omega), Go.upd hrl (g6.trans g6F), Pu.upd hrlp hrlc (pu15.le (by rw [hcl]; omega)), ra ++ [x], r ++ [nm], _, _, _, _, rfl, upd_same, ?_, by rw [List.length_append, hrlen]; rfl, ?_⟩
          · exact paired_snoc (paired_imp hrr fun _ _ => IsNamed.mono ((Go.tups pu6 g6F).trans tF)) (hnm.mono tF)
          · intro k s m hs hm
            by_cases hk : k < r.length
            · rw [List.getElem?_append_left hk] at hm
              exact hnames k s m hs hm
            · have hkr : k = r.length := by
                have := getE hm
                rw [List.length_append, List.length_singleton] at this
                omega
              rw [hkr, List.getElem?_append_right (Nat.le_refl _), Nat.sub_self] at hm
              obtain rfl : nm = m := by simpa using hm
              rw [hkr, hrlen, hso] at hs
              obtain rfl : so = s := Option.some.inj hs
              exact hgn
      · obtain ⟨g6, pu6, ra, r, z4, z6, z7, z8, rfl, hra, hrr, hrlen, hnames⟩ := p6
        have t06 := t05.trans (Go.tups pu5 g6)
        have hT6 := t06.seq hT
        have hw4 : ∀ m ∈ r, ∀ cs, m = some cs → ∀ cc ∈ cs, PyData.strOk cc = true := fun m hm cs e cc hcc => by
          obtain ⟨k, hk, ek⟩ := List.mem_iff_getElem.mp hm
          have hk2 : k < Pl.length := by omega
          have := hnames k Pl[k] m (List.getElem?_eq_getElem hk2) (by rw [List.getElem?_eq_getElem hk, ek])
          subst e
          exact strOk_word ((gp.sort Pl[k] (List.getElem_mem hk2)).codes.code cc (this.2.2.1 cc hcc))
        refine ⟨fun σ H8 => Go p c H5 H8 ∧ Pu H8 p c (n + 1 + 60 * i + 60) ∧ ∃ ra r, σ = [some (.ref p), some (.ref ta), some (.int 9), some (.ref fl), z4, some (.ref rl), z6, z7, z8] ∧ H8 rl = some (.lst ra) ∧ Paired (IsNamed K H8) ra r ∧ GoodRule Pl r, ?_, ?_⟩
        · refine ⟨_, rfl, one_le, fun q1 hq1 => ⟨_, rfl, _, _, rfl, len_tup ((Same.tups (same_upd hq1)).seq hT6), q1, _, [.non], rfl, rfl, upd_same, by omega, by omega, by rw [Int.toNat_natCast, hxl, sizeLine_eq]; simp; omega, fun q2 hq2 => ?_⟩⟩
          have s7 : Same H6 (upd H6 q1 (.lst [.non])) := same_upd hq1
          have s8 : Same (upd H6 q1 (.lst [.non])) (upd (upd H6 q1 (.lst [.non])) q2 (.lst (List.replicate ((xs.length : Nat) : Int).toNat [V.non]).flatten)) := same_upd hq2
          have s68 : Same H6 (upd (upd H6 q1 (.lst [.non])) q2 (.lst (List.replicate ((xs.length : Nat) : Int).toNat [V.non]).flatten)) := s7.trans s8
          have k2 : (upd (upd H6 q1 (.lst [.non])) q2 (.lst (List.replicate ((xs.length : Nat) : Int).toNat [V.non]).flatten)) q2 = some (.lst (List.replicate xs.length .non)) := by rw [upd_same, Int.toNat_natCast, flat_rep]
          generalize (upd (upd H6 q1 (.lst [.non])) q2 (.lst (List.replicate ((xs.length : Nat) : Int).toNat [V.non]).flatten)) = H8 at s68 k2
          have hra8 := s68 _ _ hra
          have hrr8 : Paired (IsNamed K H8) ra r := paired_imp hrr fun _ _ => IsNamed.mono (Same.tups s68)
          have pu8 : Pu H8 p c (n + 1 + 60 * i + 60) := (pu6.same s68).le (by omega)
          refine ⟨.list (r.map nD), .list (List.replicate xs.length .none), .lst (sqL hra8) (dp_rule hrr8), .lst (sqL k2) (dp_nones _), rule_shaped hw4, nones_shaped _, _, rfl, ?_⟩
          cases hb : PyData.eqv (.list (r.map nD)) (.list (List.replicate xs.length .none)) with
          | false => exact iteF ⟨g6.trans (Same.go s68), pu8, ra, r, rfl, hra8, hrr8, ⟨by omega, hnames, some_of_ne hrlen hb⟩⟩
          | true =>
            have hx0 : 0 < xs.length := by omega
            obtain ⟨so, hso, sa, cv, esa, hS, ca, rfl, hC⟩ := paired_get hPs (List.getElem?_eq_getElem hx0)
            have t08 := t06.trans (Same.tups s68)
            have gs := gp.sort so (List.mem_of_getElem? hso)
            have hc2 := gs.codes.lo
            refine iteT ⟨_, rfl, ta, _, 0, _, rfl, rfl, t08.seq hT, atI_nat (j := 0) (List.getElem?_eq_getElem hx0), sa, _, 1, _, esa, rfl, t08.seq hS, atI_nat (j := 1) rfl, np_ok ⟨1, rfl, sl_to (i := 1) (t08.seq hC) (by rw [List.length_map]; omega) fun v2 H9 s9 hv2 => ?_⟩⟩
            rw [← List.map_take] at hv2
            have hra9 := s9 _ _ hra8
            have t9 : Tups H9 (upd H9 rl (.lst (ra.set 0 (.ref v2)))) := tups_lst hra9
            have hral : 0 < ra.length := by rw [paired_len hrr]; omega
            refine ⟨_, rfl, rl, ra, 0, 0, rfl, rfl, hra9, ixN_nat (j := 0) hral, Go.upd hrl ((g6.trans (Same.go s68)).trans (Same.go s9)), Pu.upd hrlp hrlc (pu8.same s9), ra.set 0 (.ref v2), r.set 0 (some (so.2.take 1)), rfl, upd_same, ?_, ⟨by rw [List.length_set]; omega, fun k s m hs hm => ?_, ⟨some (so.2.take 1), ?_, fun z => nomatch z⟩⟩⟩
            · exact paired_set (paired_imp hrr8 fun _ _ => IsNamed.mono ((Same.tups s9).trans t9)) ⟨v2, rfl, t9.seq hv2⟩
            · rw [List.getElem?_set] at hm
              by_cases hk : 0 = k
              · subst hk
                rw [if_pos rfl] at hm
                split at hm
                · obtain rfl := Option.some.inj hm
                  rw [hso] at hs
                  obtain rfl : so = s := Option.some.inj hs
                  refine ⟨fun e => ?_, gs.codes.nd.sublist (List.take_sublist _ _), fun z hz => List.mem_of_mem_take hz, ?_⟩
                  · have := congrArg List.length e
                    rw [List.length_take, List.length_nil] at this
                    omega
                  · rw [List.length_take]
                    omega
                · cases hm
              · rw [if_neg hk] at hm
                exact hnames k s m hs hm
            · have h0 : 0 < (r.set 0 (some (so.2.take 1))).length := by rw [List.length_set]; omega
              have e0 : (r.set 0 (some (so.2.take 1)))[0] = some (so.2.take 1) := List.getElem_set_self (by rw [List.length_set] at h0; rwa [List.length_set])
              exact List.mem_iff_getElem.mpr ⟨0, h0, e0⟩
        · rintro σ H8 ⟨g8, pu8, ra, r, rfl, hra, hrr, hgood⟩
          have acc8 := g8 fl _ hflp hflc hacc
          refine ⟨_, rfl, .inl ⟨rfl, _, sqL acc8⟩, _, rfl, rl, ra, rfl, .inl ⟨sqL hra, fun v hv => ?_⟩⟩
          have s9 : Same H8 (upd H8 v (.tup ra)) := same_upd hv
          have acc9 := s9 _ _ acc8
          have t9 : Tups (upd H8 v (.tup ra)) (upd (upd H8 v (.tup ra)) fl (.lst (acc ++ [.ref v]))) := tups_lst acc9
          have hal : acc.length = i := by rw [paired_len hR, hRl]
          refine ⟨fl, acc, .ref v, rfl, rfl, acc9, small1000 (by omega), Go.upd hfl ((g5.trans g8).trans (Same.go s9)), Pu.upd hflp hflc ((pu8.same s9).le (by omega)), acc ++ [.ref v], R ++ [r], _, _, _, _, _, rfl, upd_same, ?_, by rw [List.length_append, hRl]; rfl, ?_⟩
          · exact paired_snoc (paired_imp hR fun _ _ => IsRule.mono (((Go.tups pu5 g8).trans (Same.tups s9)).trans t9)) ⟨v, ra, rfl, t9.seq (sqT upd_same), paired_imp hrr fun _ _ => IsNamed.mono ((Same.tups s9).trans t9)⟩
          · intro z hz
            rcases List.mem_append.mp hz with hz | hz
            · exact hgr z hz
            · rw [List.mem_singleton.mp hz]
              exact hgood
    · obtain ⟨g5, pu5, acc, R, y4, y5, y6, y7, y8, rfl, hacc, hR, hRl, hgr⟩ := p5
      rw [Int.toNat_natCast] at hRl pu5
      exact ⟨_, rfl, q fl R H5 g5 (pu5.le (by omega)) hfl ⟨fl, acc, rfl, hacc, hR⟩ ⟨by omega, hgr⟩ (by omega)⟩
end
end Cv

set_option maxRecDepth 100000
set_option maxHeartbeats 4000000
/-! The law's draws: _law_record_by, _law_costs_by; _law_full, _law_beside, _law_cost. -/
namespace Cv
open PySem PySem.Spec PyProof.Rows L2
theorem four_le : 4 ≤ sizeLine := by decide
theorem five_le : 5 ≤ sizeLine := by decide
theorem n10_6 : ((10 : Int) ^ (6 : Int).toNat) = 1000000 := by decide +kernel
theorem GoodCosts.nonneg {P : List PSort} {C : List Int} (g : GoodCosts P C) : ∀ c ∈ C, 0 ≤ c := fun c hc => by have := g.each c hc; omega
/-- an int of a list of ints -/
theorem int_at {C : List Int} {i : Nat} (h : i < C.length) : (C.map V.int)[i]? = some (.int C[i]) := by rw [List.getElem?_map, List.getElem?_eq_getElem h]; rfl

section
variable {P : Program} {w : World} {K : PySem.W.Frag} {mg : Str → Option Value} {base : Heap}
abbrev st_law_record_by : Stmt := topS 55
theorem sc_law_record_by : FnScope ["_law_purse", "_law_plan", "_law_found", "_law_name", "_law_codes", "_law_measure"] ["_law_purse", "_law_plan"] (defScope st_law_record_by) := C8.fnScope_by (by decide +kernel)
def spRecBy (K : PySem.W.Frag) : Sp := fun vs H Q _ => ∃ (p c : Addr) (t : V) (Pl : List PSort) (n : Nat), vs = [.ref p, t] ∧ Pu H p c n ∧ n ≤ 1000000 ∧ IsPlan K H t Pl ∧ GoodPlan Pl ∧
  ∀ z cs m H', Go p c H H' → Pu H' p c (n + 10) → IsRec K H' z cs m → GoodRec Pl cs m → Q z H'
theorem ok_record_by (T : Top mg) (D : At K mg "_law_record_by" st_law_record_by) (g_law_draw : C8.Cal P w K mg base 1 "_law_draw" spDraw []) (g_law_pick : C8.Cal P w K mg base 2 "_law_pick" spPick []) : C8.Cal P w K mg base 3 "_law_record_by" (spRecBy K) [] := by
  refine cal_of D sc_law_record_by ?len (fun _ _ _ _ _ _ us hl => match us, hl with | [_, _], _ => rfl) (fun f cdv A outer s H vs Q E hr h => ?body)
  case len =>
    intro vs H Q E ⟨i, n, o, m, l, e, _⟩
    rw [e]; rfl
  case body =>
    obtain ⟨p, c, t, Pl, n, rfl, pu, hn, ⟨ta, xs, rfl, hT, hPs⟩, gp, q⟩ := h
    have hxl := paired_len hPs
    have hhi := gp.hi
    refine ⟨_, (pss_cons (ps_set (i := 2) sc_law_record_by.nd rfl (by first | exact Or.inl rfl | exact Or.inr rfl) (pe_lst pa_nil))
      (pss_cons (ps_for PassesOwn.never rfl (pi_tupK (K := K) rfl (pv 1)) (pg_tup rfl (pgs_cons (pg_name (i := 3) sc_law_record_by.nd rfl (by first | exact Or.inl rfl | exact Or.inr rfl)) (pgs_cons (pg_name (i := 4) sc_law_record_by.nd rfl (by first | exact Or.inl rfl | exact Or.inr rfl)) pgs_nil)))
      (pss_one (ps_expr (pe_bm PySem.F.plainAttrs_list PySem.F.slot_list_append PySem.F.type_list_append mt_append (pv 2) (pa_cons (C8.pe_c g_law_pick hr (by decide) (by rfl) (pa_cons (pv 0) (pa_cons (pe_op op_cat (pe_callTy call_list_of (by rfl) T.list (by decide +kernel) (pa_cons (pv 4) pa_nil)) (pe_lst (pa_cons (pe_ix (ix_tupK (K := K) rfl) (pv 4) pe_int (fun _ _ => rfl)) (pa_cons pe_non pa_nil)))) pa_nil))) pa_nil)))))
      (pss_cons (ps_set (i := 5) sc_law_record_by.nd rfl (by first | exact Or.inl rfl | exact Or.inr rfl) (C8.pe_c g_law_pick hr (by decide) (by rfl) (pa_cons (pv 0) (pa_cons (pe_lst (pa_cons pe_int (pa_cons (pe_op op_pow pe_int pe_int) (pa_cons (C8.pe_c g_law_draw hr (by decide) (by rfl) (pa_cons (pv 0) (pa_cons pe_int pa_nil))) (pa_cons (C8.pe_c g_law_draw hr (by decide) (by rfl) (pa_cons (pv 0) (pa_cons (pe_op op_pow pe_int pe_int) pa_nil))) pa_nil))))) pa_nil))))
      (pss_one (ps_ret (pe_callTy (call_tupK (K := K) rfl) (by rfl) T.tuple (by decide +kernel) (pa_cons (pe_op op_cat (pv 2) (pe_lst (pa_cons (pv 5) pa_nil))) pa_nil))))))), ?_⟩
    refine ⟨Nat.zero_le _, fun fl hfl => ?_⟩
    have s0 : Same H (upd H fl (.lst [])) := same_upd hfl
    obtain ⟨hflp, hflc⟩ := pu.fresh hfl
    refine ⟨_, rfl, ta, rfl, ⟨xs, (Same.tups s0).seq hT⟩, for_it (walk_tup (xs := xs)) (fun i σ H5 => Go p c H H5 ∧ Pu H5 p c (n + i) ∧ ∃ cs y3 y4, σ = [some (.ref p), some (.ref ta), some (.ref fl), y3, y4, none] ∧ H5 fl = some (.lst (cs.map oV)) ∧ cs.length = i ∧ ∀ (k : Nat) s x, Pl[k]? = some s → cs[k]? = some (some x) → x ∈ s.2)
      ⟨Same.go s0, pu.same s0, [], none, none, rfl, upd_same, rfl, fun k s x _ h => by simp at h⟩ (fun i σ H5 _ p5 => (Go.tups pu p5.1).seq hT) (fun i x σ H9 H5 hi p5 y => ?_) fun σ H5 p5 => ?_⟩
    · obtain ⟨g5, pu5, cs, y3, y4, rfl, hacc, hcl, hin⟩ := p5
      obtain ⟨e9, hx⟩ := y
      subst e9
      obtain ⟨so, hso, sa, cv, rfl, hS, ca, rfl, hC⟩ := paired_get hPs hx
      have t05 := Go.tups pu g5
      have gs := gp.sort so (List.mem_of_getElem? hso)
      have hc2 := gs.codes.lo
      have hc6 := gs.codes.hi
      refine ⟨sa, _, rfl, t05.seq hS, rfl, _, _, rfl, _, _, rfl, rfl, ?_⟩
      have hC5 := t05.seq hC
      refine ⟨_, rfl, .inl ⟨rfl, _, sqL hacc⟩, _, rfl, _, rfl, ca, _, rfl, .inr hC5, fun l1 hl1 => ?_⟩
      have u1 : Same H5 (upd H5 l1 (.lst (so.2.map V.str))) := same_upd hl1
      have h0 : 0 < so.2.length := by omega
      refine ⟨_, rfl, ca, _, 0, _, rfl, rfl, (Same.tups u1).seq hC5, atI_nat (j := 0) (v := .str so.2[0]) (by rw [List.getElem?_map, List.getElem?_eq_getElem h0]; rfl), two_le, fun l2 hl2 => ?_⟩
      have u2 : Same (upd H5 l1 (.lst (so.2.map V.str))) (upd (upd H5 l1 (.lst (so.2.map V.str))) l2 (.lst [.str so.2[0], .non])) := same_upd hl2
      refine ⟨l1, l2, _, _, rfl, rfl, u2 _ _ upd_same, upd_same, by rw [List.length_map]; simp [sizeLine_eq]; omega, fun l3 hl3 => ?_⟩
      have u3 : Same (upd (upd H5 l1 (.lst (so.2.map V.str))) l2 (.lst [.str so.2[0], .non])) (upd (upd (upd H5 l1 (.lst (so.2.map V.str))) l2 (.lst [.str so.2[0], .non])) l3 (.lst (so.2.map V.str ++ [.str so.2[0], .non]))) := same_upd hl3
      have s6 : Same H5 (upd (upd (upd H5 l1 (.lst (so.2.map V.str))) l2 (.lst [.str so.2[0], .non])) l3 (.lst (so.2.map V.str ++ [.str so.2[0], .non]))) := (u1.trans u2).trans u3
      have k3 : (upd (upd (upd H5 l1 (.lst (so.2.map V.str))) l2 (.lst [.str so.2[0], .non])) l3 (.lst (so.2.map V.str ++ [.str so.2[0], .non]))) l3 = some (.lst (so.2.map V.str ++ [.str so.2[0], .non])) := upd_same
      have n3 : l3 ≠ p ∧ l3 ≠ c := (pu5.same (u1.trans u2)).fresh hl3
      refine ⟨p, c, l3, _, _, rfl, pu5.same s6, by omega, k3, n3.1, n3.2, by simp, by rw [List.length_append, List.length_map]; simp; omega, fun v H7 hv g7 pu7 => ?_⟩
      have hvo : ∃ o : Option Str, v = oV o ∧ ∀ x, o = some x → x ∈ so.2 := by
        rcases List.mem_append.mp hv with hv | hv
        · obtain ⟨z, hz, rfl⟩ := List.mem_map.mp hv
          exact ⟨some z, rfl, fun x e => by injection e with e; rw [← e]; exact hz⟩
        · simp only [List.mem_cons, List.not_mem_nil, or_false] at hv
          rcases hv with rfl | rfl
          · exact ⟨some so.2[0], rfl, fun x e => by injection e with e; rw [← e]; exact List.getElem_mem h0⟩
          · exact ⟨none, rfl, fun x e => nomatch e⟩
      obtain ⟨o, rfl, ho⟩ := hvo
      have g57 : Go p c H5 H7 := (Same.go s6).trans g7
      have acc7 := g57 fl _ hflp hflc hacc
      refine ⟨fl, cs.map oV, oV o, rfl, rfl, acc7, small1000 (by rw [List.length_map]; omega), Go.upd hfl (g5.trans g57), Pu.upd hflp hflc pu7, cs ++ [o], _, _, rfl, ?_, by rw [List.length_append, hcl]; rfl, fun k s x hs hx2 => ?_⟩
      · rw [upd_same, List.map_append]
        rfl
      · by_cases hk : k < cs.length
        · rw [List.getElem?_append_left hk] at hx2
          exact hin k s x hs hx2
        · have hkr : k = cs.length := by
            have := getE hx2
            rw [List.length_append, List.length_singleton] at this
            omega
          rw [hkr, List.getElem?_append_right (Nat.le_refl _), Nat.sub_self] at hx2
          obtain rfl : o = some x := by simpa using hx2
          rw [hkr, hcl, hso] at hs
          obtain rfl : so = s := Option.some.inj hs
          exact ho x rfl
    · obtain ⟨g5, pu5, cs, y3, y4, rfl, hacc, hcl, hin⟩ := p5
      refine ⟨_, rfl, 10, 6, rfl, rfl, ⟨by decide, by decide, by decide⟩, _, rfl, p, c, _, 50, rfl, pu5, by omega, by decide, by decide, fun a H6 ha g6 pu6 => ?_⟩
      refine ⟨_, rfl, 10, 6, rfl, rfl, ⟨by decide, by decide, by decide⟩, p, c, _, 1000000, congrArg (fun z => [V.ref p, V.int z]) n10_6, pu6, by omega, by decide, by decide, fun b H7 hb g7 pu7 => ⟨four_le, fun l hl => ?_⟩⟩
      have s8 : Same H7 (upd H7 l (.lst [.int 0, .int ((10 : Int) ^ (6 : Int).toNat), .int (a : Nat), .int (b : Nat)])) := same_upd hl
      have n8 := pu7.fresh hl
      refine ⟨p, c, l, _, _, rfl, pu7.same s8, by omega, upd_same, n8.1, n8.2, (show 1 ≤ 4 by decide), (show 4 ≤ 1000 by decide), fun v H9 hv g9 pu9 => ?_⟩
      have hvm : ∃ m : Int, v = .int m ∧ 0 ≤ m ∧ m ≤ 1000000 := by
        have hv : v ∈ [V.int 0, V.int ((10 : Int) ^ (6 : Int).toNat), V.int (a : Nat), V.int (b : Nat)] := hv
        rw [n10_6] at hv
        simp only [List.mem_cons, List.not_mem_nil, or_false] at hv
        rcases hv with rfl | rfl | rfl | rfl
        · exact ⟨0, rfl, by decide, by decide⟩
        · exact ⟨1000000, rfl, by decide, by decide⟩
        · exact ⟨_, rfl, by omega, by omega⟩
        · exact ⟨_, rfl, by omega, by omega⟩
      obtain ⟨m, rfl, hm0, hm1⟩ := hvm
      have g59 : Go p c H5 H9 := ((g6.trans g7).trans (Same.go s8)).trans g9
      have acc9 := g59 fl _ hflp hflc hacc
      refine ⟨_, rfl, _, rfl, one_le, fun l4 hl4 => ?_⟩
      have u1 : Same H9 (upd H9 l4 (.lst [.int m])) := same_upd hl4
      refine ⟨fl, l4, _, _, rfl, rfl, u1 _ _ acc9, upd_same, by rw [List.length_map]; simp [sizeLine_eq]; omega, fun l5 hl5 => ?_⟩
      have u2 : Same (upd H9 l4 (.lst [.int m])) (upd (upd H9 l4 (.lst [.int m])) l5 (.lst (cs.map oV ++ [.int m]))) := same_upd hl5
      refine ⟨l5, _, rfl, .inl ⟨sqL upd_same, fun tp htp => ?_⟩⟩
      have u3 : Same (upd (upd H9 l4 (.lst [.int m])) l5 (.lst (cs.map oV ++ [.int m]))) (upd (upd (upd H9 l4 (.lst [.int m])) l5 (.lst (cs.map oV ++ [.int m]))) tp (.tup (cs.map oV ++ [.int m]))) := same_upd htp
      have s9 := (u1.trans u2).trans u3
      exact q (.ref tp) cs m _ ((g5.trans g59).trans (Same.go s9)) ((pu9.same s9).le (by omega)) ⟨tp, rfl, sqT upd_same⟩ ⟨⟨by omega, hin⟩, hm0, hm1⟩

abbrev st_law_costs_by : Stmt := topS 58
theorem sc_law_costs_by : FnScope ["_law_purse", "_law_plan", "_law_sort"] ["_law_purse", "_law_plan"] (defScope st_law_costs_by) := C8.fnScope_by (by decide +kernel)
def spCostsBy (K : PySem.W.Frag) : Sp := fun vs H Q _ => ∃ (p c : Addr) (t : V) (Pl : List PSort) (n : Nat), vs = [.ref p, t] ∧ Pu H p c n ∧ n ≤ 1000000 ∧ IsPlan K H t Pl ∧ GoodPlan Pl ∧
  ∀ z C H', Go p c H H' → Pu H' p c (n + 10) → IsCosts K H' z C → GoodCosts Pl C → Q z H'
theorem ok_costs_by (T : Top mg) (D : At K mg "_law_costs_by" st_law_costs_by) (g_law_draw : C8.Cal P w K mg base 1 "_law_draw" spDraw []) : C8.Cal P w K mg base 2 "_law_costs_by" (spCostsBy K) [] := by
  refine cal_of D sc_law_costs_by ?len (fun _ _ _ _ _ _ us hl => match us, hl with | [_, _], _ => rfl) (fun f cdv A outer s H vs Q E hr h => ?body)
  case len =>
    intro vs H Q E ⟨i, n, o, m, l, e, _⟩
    rw [e]; rfl
  case body =>
    obtain ⟨p, c, t, Pl, n, rfl, pu, hn, ⟨ta, xs, rfl, hT, hPs⟩, gp, q⟩ := h
    have hxl := paired_len hPs
    have hhi := gp.hi
    refine ⟨_, (pss_one (ps_ret (pe_callTy (call_tupK (K := K) rfl) (by rfl) T.tuple (by decide +kernel) (pa_cons (pe_lc (own := [("_law_sort", 2)]) (g := (gName 2)) (tt := tYes) rfl sc_law_costs_by.nd (pi_tupK (K := K) rfl (pv 1)) (blkOk_by (own := [("_law_sort", 2)]) (N := ["_law_purse", "_law_plan", "_law_sort"]) (sc := defScope st_law_costs_by) (by decide +kernel)) (fun _ _ _ _ _ => (pg_name (i := 2) sc_law_costs_by.nd rfl (by first | exact Or.inl rfl | exact Or.inr rfl))) (fun _ _ _ _ _ => pts_nil) (fun _ _ _ _ _ => (pe_ix (ix_listK (K := K) rfl) (pe_lst (pa_cons pe_int (pa_cons pe_int (pa_cons pe_int (pa_cons pe_int (pa_cons (pe_op op_add pe_int (C8.pe_c g_law_draw hr (by decide) (by rfl) (pa_cons (pv 0) (pa_cons pe_int pa_nil)))) pa_nil)))))) (C8.pe_c g_law_draw hr (by decide) (by rfl) (pa_cons (pv 0) (pa_cons pe_int pa_nil))) (fun _ _ => rfl)))) pa_nil)))), ?_⟩
    refine ⟨_, rfl, ta, rfl, ⟨_, hT⟩, fun Dn hD => lc_it (walk_tup (xs := xs)) (fun i H5 => Go p c H H5 ∧ Pu H5 p c (n + 2 * i) ∧ ∃ C : List Int, H5 Dn = some (.lst (C.map V.int)) ∧ C.length = i ∧ ∀ x ∈ C, 1 ≤ x ∧ x ≤ 1000)
      ⟨Same.go (same_upd hD), pu.same (same_upd hD), [], upd_same, rfl, fun x h => by cases h⟩ (fun i H5 _ p5 => (Go.tups pu p5.1).seq hT) (fun i x H9 H5 hi p5 y => ?_) fun H5 p5 => ?_⟩
    · obtain ⟨g5, pu5, C, hC, hCl, hCg⟩ := p5
      obtain ⟨e9, hx⟩ := y
      subst e9
      obtain ⟨hDp, hDc⟩ := pu.fresh hD
      refine ⟨rfl, yes_ok ⟨_, rfl, p, c, _, 9, rfl, pu5, by omega, by decide, by decide, fun a H6 ha g6 pu6 => ⟨1, (a : Nat), rfl, rfl, five_le, fun l hl => ?_⟩⟩⟩
      have s7 : Same H6 (upd H6 l (.lst [.int 1, .int 1, .int 2, .int 1000, .int ((1 : Int) + (a : Nat))])) := same_upd hl
      have n7 := pu6.fresh hl
      refine ⟨_, rfl, p, c, _, 5, rfl, pu6.same s7, by omega, by decide, by decide, fun b H8 hb g8 pu8 => ?_⟩
      have hel : ∃ z : Int, [V.int 1, V.int 1, V.int 2, V.int 1000, V.int ((1 : Int) + (a : Nat))][b]? = some (.int z) ∧ 1 ≤ z ∧ z ≤ 1000 := by
        have : b = 0 ∨ b = 1 ∨ b = 2 ∨ b = 3 ∨ b = 4 := by omega
        rcases this with rfl | rfl | rfl | rfl | rfl
        · exact ⟨1, rfl, by decide, by decide⟩
        · exact ⟨1, rfl, by decide, by decide⟩
        · exact ⟨2, rfl, by decide, by decide⟩
        · exact ⟨1000, rfl, by decide, by decide⟩
        · exact ⟨_, rfl, by omega, by omega⟩
      obtain ⟨z, hz, hz1, hz2⟩ := hel
      have g58 : Go p c H5 H8 := (g6.trans (Same.go s7)).trans g8
      have hC8 := g58 Dn _ hDp hDc hC
      refine ⟨l, _, (b : Nat), .int z, rfl, rfl, sqL (g8 l _ n7.1 n7.2 upd_same), atI_nat hz, C.map V.int, hC8, small1000 (by rw [List.length_map]; omega), Go.upd hD (g5.trans g58), Pu.upd hDp hDc (pu8.le (by omega)), C ++ [z], by rw [upd_same, List.map_append]; rfl, by rw [List.length_append, hCl]; rfl, fun x hx => ?_⟩
      rcases List.mem_append.mp hx with hx | hx
      · exact hCg x hx
      · rw [List.mem_singleton.mp hx]
        exact ⟨hz1, hz2⟩
    · obtain ⟨g5, pu5, C, hC, hCl, hCg⟩ := p5
      refine ⟨Dn, _, rfl, .inl ⟨sqL hC, fun tp htp => ?_⟩⟩
      have s6 : Same H5 (upd H5 tp (.tup (C.map V.int))) := same_upd htp
      exact q (.ref tp) C _ (g5.trans (Same.go s6)) ((pu5.same s6).le (by omega)) ⟨tp, rfl, sqT upd_same⟩ ⟨by omega, hCg⟩

abbrev st_law_full : Stmt := topS 56
theorem sc_law_full : FnScope ["_law_plan", "_law_found", "_law_name", "_law_codes", "_law_longer", "_law_row", "_law_code"] ["_law_plan"] (defScope st_law_full) := C8.fnScope_by (by decide +kernel)
theorem ok_law_full (T : Top mg) (D : At K mg "_law_full" st_law_full) : C8.Cal P w K mg base 1 "_law_full" (spFull K) [] := by
  refine cal_of D sc_law_full ?len (fun _ _ _ _ _ _ us hl => match us, hl with | [_], _ => rfl) (fun f cdv A outer s H vs Q E hr h => ?body)
  case len =>
    intro vs H Q E ⟨i, n, e, _⟩
    rw [e]; rfl
  case body =>
    obtain ⟨t, Pl, rfl, ⟨a, xs, rfl, hT, hP⟩, gp, q⟩ := h
    have hl : xs.length = Pl.length := paired_len hP
    have hhi := gp.hi
    have h6 : ∀ cs ∈ Pl.map (·.2), cs.length ≤ 6 := fun cs hc => by
      obtain ⟨s, hs, rfl⟩ := List.mem_map.mp hc
      exact (gp.sort s hs).codes.hi
    have hpre : ∀ i, (((Pl.map (·.2)).take i).foldl grow [[]]).length ≤ 1296 := fun i => fold_len _ _ 4 (fun cs hc => h6 cs (List.mem_of_mem_take hc)) (by rw [List.length_take, List.length_map]; omega) (by decide) (by decide)
    refine ⟨_, (pss_cons (ps_set (i := 1) sc_law_full.nd rfl (by first | exact Or.inl rfl | exact Or.inr rfl) (pe_lst (pa_cons (pe_tup pa_nil) pa_nil)))
      (pss_cons (ps_for PassesOwn.never rfl (pi_tupK (K := K) rfl (pv 0)) (pg_tup rfl (pgs_cons (pg_name (i := 2) sc_law_full.nd rfl (by first | exact Or.inl rfl | exact Or.inr rfl)) (pgs_cons (pg_name (i := 3) sc_law_full.nd rfl (by first | exact Or.inl rfl | exact Or.inr rfl)) pgs_nil)))
      (pss_cons (ps_set (i := 4) sc_law_full.nd rfl (by first | exact Or.inl rfl | exact Or.inr rfl) (pe_lst pa_nil))
      (pss_cons (ps_for PassesOwn.never rfl (pi_listK (K := K) rfl (pv 1)) (pg_name (i := 5) sc_law_full.nd rfl (by first | exact Or.inl rfl | exact Or.inr rfl))
      (pss_one (ps_set (i := 4) sc_law_full.nd rfl (by first | exact Or.inl rfl | exact Or.inr rfl) (pe_op op_cat (pv 4) (pe_lc (own := [("_law_code", 6)]) (g := (gName 6)) (tt := tYes) rfl sc_law_full.nd (pi_tupK (K := K) rfl (pv 3)) (blkOk_by (own := [("_law_code", 6)]) (N := ["_law_plan", "_law_found", "_law_name", "_law_codes", "_law_longer", "_law_row", "_law_code"]) (sc := defScope st_law_full) (by decide +kernel)) (fun _ _ _ _ _ => (pg_name (i := 6) sc_law_full.nd rfl (by first | exact Or.inl rfl | exact Or.inr rfl))) (fun _ _ _ _ _ => pts_nil) (fun _ _ _ _ _ => (pe_op (op_catK (K := K) rfl) (pv 5) (pe_tup (pa_cons (pv 6) pa_nil)))))))))
      (pss_one (ps_set (i := 1) sc_law_full.nd rfl (by first | exact Or.inl rfl | exact Or.inr rfl) (pv 4))))))
      (pss_one (ps_ret (pv 1))))), ?_⟩
    refine ⟨by decide, fun p0 hp0 => ⟨(by decide : 1 ≤ sizeLine), fun p1 hp1 => ?_⟩⟩
    have s0 : Same H (upd (upd H p0 (.tup [])) p1 (.lst [.ref p0])) := (same_upd hp0).trans (same_upd hp1)
    refine ⟨_, rfl, a, rfl, ⟨xs, (Same.tups s0).seq hT⟩, for_it (walk_tup (xs := xs)) (fun i σ H1 => Same H H1 ∧ ∃ p ys y2 y3 y4 y5, σ = [some (.ref a), some (.ref p), y2, y3, y4, y5, none] ∧ H1 p = some (.lst ys) ∧ Paired (IsTs K H1) ys (((Pl.map (·.2)).take i).foldl grow [[]])) ?_ (fun i σ H1 _ p => (Same.tups p.1).seq hT) (fun i x σ H9 H1 hi p y => ?_) fun σ H1 p => ?_⟩
    · exact ⟨s0, p1, _, none, none, none, none, rfl, upd_same, .cons ⟨p0, rfl, sqT (by rw [upd_ne (ne_of_none (upd_same : (upd H p0 (.tup [])) p0 = _) hp1)]; exact upd_same)⟩ .nil⟩
    · obtain ⟨s1, p, ys, y2, y3, y4, y5, rfl, hp, hys⟩ := p
      obtain ⟨e9, hx⟩ := y
      subst e9
      obtain ⟨so, hso, b, c, rfl, hB, d, rfl, hD⟩ := paired_get hP hx
      have hcs : so.2.length ≤ 6 := h6 so.2 (List.mem_map.mpr ⟨so, List.mem_of_getElem? hso, rfl⟩)
      have hcl : (so.2.map V.str).length = so.2.length := List.length_map _
      have hyl := paired_len hys
      have hy := hpre i
      have hpc : (Pl.map (·.2))[i]? = some so.2 := by rw [List.getElem?_map, hso]; rfl
      have hSl : ∀ row ∈ ((Pl.map (·.2)).take i).foldl grow [[]], row.length ≤ 4 := fun row hr => by
        have := (mem_fullM.mp (show row ∈ fullM ((Pl.map (·.2)).take i) from hr)).length
        rw [this, List.length_take, List.length_map]
        omega
      rw [pre_succ hpc]
      generalize hS : ((Pl.map (·.2)).take i).foldl grow [[]] = S at hys hyl hy hSl
      refine ⟨b, _, rfl, (Same.tups s1).seq hB, rfl, _, _, rfl, _, _, rfl, rfl, ?_⟩
      refine ⟨Nat.zero_le _, fun lg hlg => ?_⟩
      have s2 : Same H1 (upd H1 lg (.lst [])) := same_upd hlg
      refine ⟨_, rfl, p, rfl, ⟨_, sqL (s2 _ _ hp)⟩, for_it (walk_list (xs := ys)) (fun j σ H2 => Same H1 H2 ∧ ∃ l acc y5, σ = [some (.ref a), some (.ref p), some (.str so.1), some (.ref d), some (.ref l), y5, none] ∧ H2 l = some (.lst acc) ∧ Paired (IsTs K H2) acc (grow (S.take j) so.2)) ⟨s2, lg, [], _, rfl, upd_same, .nil⟩ (fun j σ H2 _ p2 => sqL (p2.1 _ _ hp)) (fun j x σ H9 H2 hj p2 y => ?_) fun σ H2 p2 => ?_⟩
      · obtain ⟨s2, l, acc, y5, rfl, hacc, hpa⟩ := p2
        obtain ⟨e9, hx2⟩ := y
        subst e9
        obtain ⟨row, hrow, hts⟩ := paired_get hys hx2
        obtain ⟨rp, rfl, hrp⟩ := hts.mono (Same.tups s2)
        have hrl : row.length ≤ 4 := hSl row (List.mem_of_getElem? hrow)
        have hjS := getE hrow
        have hD2 : SqT K H2 d (so.2.map V.str) := (Same.tups (s1.trans s2)).seq hD
        refine ⟨_, rfl, _, rfl, d, rfl, ⟨_, hD2⟩, fun Dn hDn => lc_rel (w := walk_tup (xs := so.2.map V.str)) (by omega) (fun k v H' => ∃ cc, so.2[k]? = some cc ∧ IsTs K H' v (row ++ [cc])) (fun k v H' H'' t ⟨cc, h1, h2⟩ => ⟨cc, h1, h2.mono t⟩) hDn (fun H' s => (Same.tups s).seq hD2) (fun k x H3 H4 CC hk s y kk => ?_) fun H3 zs s e hzl hz => ?_⟩
        · obtain ⟨e9, hx4⟩ := y
          subst e9
          obtain ⟨cc, _, hcc, rfl⟩ := strs_get hx4
          refine ⟨rfl, _, rfl, _, rfl, one_le, fun u hu => ?_⟩
          have u1 : Same H4 (upd H4 u (.tup [.str cc])) := same_upd hu
          refine cat_ok (ha := (Same.tups (s.trans u1)).seq hrp) (hb := sqT upd_same) (by simp; omega) fun z H7 s7 hz => kk _ _ (u1.trans s7) ⟨cc, hcc, ts_app hz⟩
        · have acc3 := s _ _ hacc
          have hlen : acc.length + zs.length ≤ 1296 * 6 + 6 := by
            rw [paired_len hpa, grow_len, hzl, hcl, List.length_take]
            have : min j S.length * so.2.length ≤ 1296 * 6 := Nat.mul_le_mul (by omega) hcs
            omega
          refine ⟨l, Dn, acc, zs, rfl, rfl, acc3, e, by rw [sizeLine_eq]; omega, fun l2 hl2 => ?_⟩
          have u2 : Same H3 (upd H3 l2 (.lst (acc ++ zs))) := same_upd hl2
          refine ⟨(s2.trans s).trans u2, l2, acc ++ zs, _, rfl, upd_same, ?_⟩
          rw [grow_take_succ hrow]
          have pz : Paired (IsTs K H3) zs (so.2.map fun cc => row ++ [cc]) := by
            have aux : ∀ (zs : List V) (cs : List Str), zs.length = cs.length → (∀ (k : Nat) y, zs[k]? = some y → ∃ cc, cs[k]? = some cc ∧ IsTs K H3 y (row ++ [cc])) → Paired (IsTs K H3) zs (cs.map fun cc => row ++ [cc]) := by
              intro zs
              induction zs with
              | nil => intro cs hl _; rw [List.eq_nil_of_length_eq_zero hl.symm]; exact .nil
              | cons z zs ih =>
                intro cs hl hh
                cases cs with
                | nil => simp at hl
                | cons c cs =>
                  obtain ⟨cc, h1, h2⟩ := hh 0 z rfl
                  obtain rfl : c = cc := by simpa using h1
                  exact .cons h2 (ih cs (by simpa using hl) fun k y hk => hh (k + 1) y (by simpa using hk))
            exact aux zs so.2 (by omega) hz
          have app : ∀ {xs ys : List V} {ls ms : List (List Str)} {H' : Hp}, Paired (IsTs K H') xs ls → Paired (IsTs K H') ys ms → Paired (IsTs K H') (xs ++ ys) (ls ++ ms) := by
            intro xs ys ls ms H' h1 h2
            induction h1 with
            | nil => exact h2
            | cons r _ ih => exact .cons r ih
          exact app (paired_imp hpa fun _ _ => IsTs.mono (Same.tups (s.trans u2))) (paired_imp pz fun _ _ => IsTs.mono (Same.tups u2))
      · obtain ⟨s2, l, acc, y5, rfl, hacc, hpa⟩ := p2
        rw [hyl, List.take_length] at hpa
        exact ⟨_, rfl, s1.trans s2, l, acc, _, _, _, _, rfl, hacc, hpa⟩
    · obtain ⟨s1, p, ys, y2, y3, y4, y5, rfl, hp, hys⟩ := p
      rw [hl, List.take_of_length_le (by rw [List.length_map]; exact Nat.le_refl _)] at hys
      refine ⟨_, rfl, q _ p ys s1 hp hys ?_⟩
      rw [paired_len hys]
      have := hpre Pl.length
      rw [List.take_of_length_le (by rw [List.length_map]; exact Nat.le_refl _)] at this
      exact this

abbrev st_law_beside : Stmt := topS 57
theorem sc_law_beside : FnScope ["_law_costs", "_law_one", "_law_other", "_law_s"] ["_law_costs", "_law_one", "_law_other"] (defScope st_law_beside) := C8.fnScope_by (by decide +kernel)
def spLBeside (K : PySem.W.Frag) : Sp := fun vs H Q _ => ∃ (t u v : V) (C : List Int) (xs ys : List (Option Str)) (m m' : Int), vs = [t, u, v] ∧ IsCosts K H t C ∧ IsRec K H u xs m ∧ IsRec K H v ys m' ∧ xs.length = C.length ∧ ys.length = C.length ∧ C.length ≤ 4 ∧ ∀ H', Same H H' → Q (.int (besideM C xs ys)) H'
theorem rec_at {ys : List (Option Str)} {m : Int} {i : Nat} (h : i < ys.length) : (ys.map oV ++ [V.int m])[i]? = some (oV (ys.getD i none)) := by
  rw [List.getElem?_append_left (by rw [List.length_map]; exact h), List.getElem?_map, List.getElem?_eq_getElem h, getD_lt h]
  rfl
theorem ok_law_beside (T : Top mg) (D : At K mg "_law_beside" st_law_beside) : C8.Cal P w K mg base 1 "_law_beside" (spLBeside K) [] := by
  refine cal_of D sc_law_beside ?len (fun _ _ _ _ _ _ us hl => match us, hl with | [_, _, _], _ => rfl) (fun f cdv A outer s H vs Q E hr h => ?body)
  case len =>
    intro vs H Q E ⟨i, n, o, m, p, r, z, z1, e, _⟩
    rw [e]; rfl
  case body =>
    obtain ⟨t, u, v, C, xs, ys, m, m', rfl, ⟨a, rfl, hA⟩, ⟨b, rfl, hB⟩, ⟨c, rfl, hC⟩, h1, h2, h4, q⟩ := h
    have l1 : (C.map V.int).length = C.length := List.length_map _
    refine ⟨_, (pss_one (ps_ret (pe_callB (cr_sum rfl) (by rfl) T.sum (by decide +kernel) (pa_cons (pe_lc (own := [("_law_s", 3)]) (g := (gName 3)) (tt := _) rfl sc_law_beside.nd (pi_range1 (by rfl) T.range (pa_cons (pe_callB (call_lenK (K := K) rfl) (by rfl) T.len (by decide +kernel) (pa_cons (pv 0) pa_nil)) pa_nil)) (blkOk_by (own := [("_law_s", 3)]) (N := ["_law_costs", "_law_one", "_law_other", "_law_s"]) (sc := defScope st_law_beside) (by decide +kernel)) (fun _ _ _ _ _ => (pg_name (i := 3) sc_law_beside.nd rfl (by first | exact Or.inl rfl | exact Or.inr rfl))) (fun _ _ _ _ _ => (pts_one (pt_cmpR op_ne (pe_ix (ix_tupK (K := K) rfl) (pv 1) (pv 3) (fun _ _ => rfl)) (pe_ix (ix_tupK (K := K) rfl) (pv 2) (pv 3) (fun _ _ => rfl)) (nomark _)))) (fun _ _ _ _ _ => (pe_ix (ix_tupK (K := K) rfl) (pv 0) (pv 3) (fun _ _ => rfl)))) pa_nil)))), ?_⟩
    refine ⟨_, rfl, _, _, rfl, len_tup hA, _, rfl, by omega, by omega, fun Dn hD => lc_test (w := walk_range) (by rw [Int.toNat_natCast]; omega) (fun i => !decide (xs.getD i none = ys.getD i none)) (fun i => .int (C.getD i 0)) hD (fun H' s => trivial) (fun i x H2 H3 CC C' hi s y k k' => ?_) fun H' s e => ?_⟩
    · obtain ⟨e9, ex⟩ := y
      subst e9
      obtain rfl : x = .int (i : Nat) := ex.trans (congrArg V.int (Int.zero_add _))
      have hi : i < C.length := by rw [Int.toNat_natCast] at hi; omega
      refine ⟨rfl, _, rfl, _, rfl, b, _, (i : Nat), _, rfl, rfl, (Same.tups s).seq hB, atI_nat (rec_at (by omega)), _, rfl, _, rfl, c, _, (i : Nat), _, rfl, rfl, (Same.tups s).seq hC, atI_nat (rec_at (by omega)), oV_scal _ _, _, rfl, ?_⟩
      rw [oV_eq]
      cases hb : decide (xs.getD i none = ys.getD i none) with
      | true => exact iteF (k' (by rw [hb]; rfl) _ (Same.refl _))
      | false =>
        refine iteT ⟨_, rfl, _, rfl, a, _, (i : Nat), _, rfl, rfl, (Same.tups s).seq hA, atI_nat (int_at hi), ?_⟩
        have := k (by rw [hb]; rfl) _ (Same.refl _)
        rw [getD_lt hi] at this
        exact this
    · rw [Int.toNat_natCast, l1] at e
      refine ⟨Dn, ((List.range C.length).filter fun i => !decide (xs.getD i none = ys.getD i none)).map fun i => C.getD i 0, rfl, sqL (by rw [e, List.map_map]; rfl), ?_⟩
      rw [← besideM_range rfl h1 h2]
      exact q _ s

abbrev st_law_cost : Stmt := topS 59
theorem sc_law_cost : FnScope ["_law_plan", "_law_rules_here", "_law_costs", "_law_record"] ["_law_plan", "_law_rules_here", "_law_costs", "_law_record"] (defScope st_law_cost) := C8.fnScope_by (by decide +kernel)
def spCost (K : PySem.W.Frag) : Sp := fun vs H Q _ => ∃ (t u v z : V) (P : List PSort) (R : List Rule) (C : List Int) (cs : List (Option Str)) (m : Int), vs = [t, u, v, z] ∧ IsPlan K H t P ∧ IsRules K H u R ∧ IsCosts K H v C ∧ IsRec K H z cs m ∧ GoodPlan P ∧ GoodRules P R ∧ GoodCosts P C ∧ GoodRec P cs m ∧
  ∀ H', Same H H' → Q (oI (costM (P.map (·.2)) R C cs)) H'
theorem ok_law_cost (D : At K mg "_law_cost" st_law_cost) (g_mend : C8.Cal P w K mg base 10 "mend" (spMend K) []) : C8.Cal P w K mg base 11 "_law_cost" (spCost K) [] := by
  refine cal_of D sc_law_cost ?len (fun _ _ _ _ _ _ us hl => match us, hl with | [_, _, _, _], _ => rfl) (fun f cdv A outer s H vs Q E hr h => ?body)
  case len =>
    intro vs H Q E ⟨i, n, o, m, p, r, z, z1, z2, e, _⟩
    rw [e]; rfl
  case body =>
    obtain ⟨t, u, v, z, Pl, R, C, cs, m, rfl, hP, hR, hC, hz, gp, gr, gc, grec, q⟩ := h
    refine ⟨_, (pss_one (ps_ret (pe_ix (ix_tupK (K := K) rfl) (C8.pe_c g_mend hr (by decide) (by rfl) (pa_cons (pv 0) (pa_cons (pv 1) (pa_cons (pv 2) (pa_cons (pv 3) pa_nil))))) pe_int (fun _ _ => rfl)))), ?_⟩
    refine ⟨_, rfl, _, rfl, _, rfl, _, rfl, t, u, v, z, Pl, R, C, cs, m, rfl, hP, hR, hC, hz, gp, gr, gc, grec, fun H1 p x y tr s1 hp hf => ⟨p, _, 0, x, rfl, rfl, hp, atI_nat (j := 0) rfl, ?_⟩⟩
    have := q H1 s1
    unfold costM at this
    cases ho : cheapestM (Pl.map (·.2)) R C cs with
    | none =>
      rw [ho] at hf this
      rw [hf.1]
      exact this
    | some f =>
      rw [ho] at hf this
      rw [hf.1]
      exact this
end
end Cv

set_option maxRecDepth 100000
set_option maxHeartbeats 4000000
/-! The law's other order: _law_turned. -/
namespace Cv
open PySem PySem.Spec PyProof.Rows L2

/-! ### plain -/
section
variable {ord : List Nat} {n : Nat}
theorem turn_perm {β : Type} {d : β} {l : List β} (ho : ord.Perm (List.range n)) (hl : l.length = n) : (turnL d ord l).Perm l := by
  have h : (turnL d ord l).Perm ((List.range n).map fun s => l.getD s d) := ho.map _
  rw [← as_map d l hl] at h
  exact h
theorem turn_length {β : Type} {d : β} {l : List β} (ho : ord.Perm (List.range n)) : (turnL d ord l).length = n := by
  unfold turnL
  rw [List.length_map, ord_len ho]
/-- at place j of the turned list stands the old one's ord[j]-th -/
theorem turn_at {β : Type} {d : β} {l : List β} {j s : Nat} {x : β} (ho : ord.Perm (List.range n)) (hl : l.length = n) (hs : ord[j]? = some s) (h : (turnL d ord l)[j]? = some x) : l[s]? = some x := by
  have hlt : s < l.length := by rw [hl]; exact ord_get ho hs
  rw [turn_get hs (List.getElem?_eq_getElem hlt)] at h
  rw [List.getElem?_eq_getElem hlt]
  exact h
structure Turned (ord : List Nat) (P P' : List PSort) : Prop where
  len : P'.length = ord.length
  each : ∀ (j s : Nat), ord[j]? = some s → ∃ so so', P[s]? = some so ∧ P'[j]? = some so' ∧ so'.1 = so.1 ∧ so'.2.Perm so.2
variable {P P' : List PSort}
theorem Turned.turnP (T : Turned ord P P') : TurnP ord (P.map (·.2)) (P'.map (·.2)) := by
  refine ⟨by rw [List.length_map, T.len], fun j s h => ?_⟩
  obtain ⟨so, so', h1, h2, _, h4⟩ := T.each j s h
  exact ⟨so.2, so'.2, by rw [List.getElem?_map, h1]; rfl, by rw [List.getElem?_map, h2]; rfl, h4⟩
theorem Turned.at_ (T : Turned ord P P') {j : Nat} {so' : PSort} (h : P'[j]? = some so') : ∃ s so, ord[j]? = some s ∧ P[s]? = some so ∧ so'.1 = so.1 ∧ so'.2.Perm so.2 := by
  have hj : j < ord.length := by rw [← T.len]; exact getE h
  obtain ⟨so, so2, h1, h2, h3, h4⟩ := T.each j _ (List.getElem?_eq_getElem hj)
  rw [h] at h2
  obtain rfl : so' = so2 := Option.some.inj h2
  exact ⟨_, so, List.getElem?_eq_getElem hj, h1, h3, h4⟩
theorem Turned.names (T : Turned ord P P') : P'.map (·.1) = turnL Str.empty ord (P.map (·.1)) := by
  apply List.ext_getElem?
  intro j
  by_cases hj : j < ord.length
  · have hs : ord[j]? = some ord[j] := List.getElem?_eq_getElem hj
    obtain ⟨so, so', h1, h2, h3, _⟩ := T.each j _ hs
    rw [turn_get hs (x := so.1) (by rw [List.getElem?_map, h1]; rfl), List.getElem?_map, h2]
    show some so'.1 = _
    rw [h3]
  · rw [List.getElem?_eq_none (by rw [List.length_map, T.len]; omega), List.getElem?_eq_none (by unfold turnL; rw [List.length_map]; omega)]
theorem Turned.good (T : Turned ord P P') (ho : ord.Perm (List.range P.length)) (g : GoodPlan P) : GoodPlan P' := by
  have hl := ord_len ho
  refine ⟨by rw [T.len, hl]; exact g.lo, by rw [T.len, hl]; exact g.hi, fun so' h => ?_, ?_⟩
  · obtain ⟨j, hj, e⟩ := List.mem_iff_getElem.mp h
    obtain ⟨s, so, _, h2, h3, h4⟩ := T.at_ (j := j) (so' := so') (by rw [List.getElem?_eq_getElem hj, e])
    have gs := g.sort so (List.mem_of_getElem? h2)
    refine ⟨by rw [h3]; exact gs.name, by rw [h4.length_eq]; exact gs.codes.lo, by rw [h4.length_eq]; exact gs.codes.hi, fun c hc => gs.codes.code c (h4.mem_iff.mp hc), h4.nodup_iff.mpr gs.codes.nd⟩
  · rw [T.names]
    exact (turn_perm ho (List.length_map _)).nodup_iff.mpr g.nd
theorem GoodNamed.perm {cs cs' : List Str} (h : cs'.Perm cs) : ∀ {n : Option (List Str)}, GoodNamed cs n → GoodNamed cs' n
  | none, _ => trivial
  | some _, ⟨h1, h2, h3, h4⟩ => ⟨h1, h2, fun c hc => h.mem_iff.mpr (h3 c hc), h4⟩
theorem Turned.rule (T : Turned ord P P') (ho : ord.Perm (List.range P.length)) {r : Rule} (g : GoodRule P r) : GoodRule P' (turnL none ord r) := by
  have hl := ord_len ho
  refine ⟨by rw [turn_length ho, T.len, hl], fun j so' nm h1 h2 => ?_, ?_⟩
  · obtain ⟨s, so, e1, e2, _, e4⟩ := T.at_ h1
    exact (g.each s so nm e2 (turn_at ho g.len e1 h2)).perm e4
  · obtain ⟨nm, hm, hn⟩ := g.some
    exact ⟨nm, (turn_perm ho g.len).mem_iff.mpr hm, hn⟩
theorem Turned.costs (T : Turned ord P P') (ho : ord.Perm (List.range P.length)) {C : List Int} (g : GoodCosts P C) : GoodCosts P' (turnL 0 ord C) :=
  ⟨by rw [turn_length ho, T.len, ord_len ho], fun c hc => g.each c ((turn_perm ho g.len).mem_iff.mp hc)⟩
theorem Turned.record (T : Turned ord P P') (ho : ord.Perm (List.range P.length)) {cs : List (Option Str)} {m : Int} (g : GoodRec P cs m) : GoodRec P' (turnL none ord cs) m := by
  refine ⟨⟨by rw [turn_length ho, T.len, ord_len ho], fun j so' c h1 h2 => ?_⟩, g.lo, g.hi⟩
  obtain ⟨s, so, e1, e2, _, e4⟩ := T.at_ h1
  exact e4.mem_iff.mpr (g.row.each s so c e2 (turn_at ho g.row.len e1 h2))
end
theorem paired_turn {α β : Type} {F : α → β → Prop} {xs : List α} {ls : List β} {d : α} {d' : β} (h : Paired F xs ls) : ∀ ord : List Nat, (∀ s ∈ ord, s < xs.length) → Paired F (ord.map fun s => xs.getD s d) (ord.map fun s => ls.getD s d')
  | [], _ => .nil
  | s :: o, hs => by
    have h1 := hs s List.mem_cons_self
    obtain ⟨b, h2, f⟩ := paired_get h (List.getElem?_eq_getElem h1)
    refine .cons ?_ (paired_turn h o fun t ht => hs t (List.mem_cons_of_mem _ ht))
    show F (xs.getD s d) (ls.getD s d')
    rw [getD_lt h1, List.getD_eq_getElem?_getD, h2]
    exact f
theorem paired_of {α β : Type} {F : α → β → Prop} : ∀ {xs : List α} {ls : List β}, xs.length = ls.length → (∀ (i : Nat) x, xs[i]? = some x → ∃ b, ls[i]? = some b ∧ F x b) → Paired F xs ls
  | [], [], _, _ => .nil
  | [], _ :: _, h, _ => by simp at h
  | _ :: _, [], h, _ => by simp at h
  | x :: xs, b :: ls, h, k => by
    obtain ⟨b', h1, f⟩ := k 0 x rfl
    obtain rfl : b = b' := by simpa using h1
    exact .cons f (paired_of (by simpa using h) fun i y hy => k (i + 1) y (by simpa using hy))
theorem paired_app {α β : Type} {F : α → β → Prop} {xs ys : List α} {ls ms : List β} (h1 : Paired F xs ls) (h2 : Paired F ys ms) : Paired F (xs ++ ys) (ls ++ ms) := by
  induction h1 with
  | nil => exact h2
  | cons r _ ih => exact .cons r ih
theorem paired_take {α β : Type} {F : α → β → Prop} : ∀ {xs : List α} {ls : List β} (k : Nat), Paired F xs ls → Paired F (xs.take k) (ls.take k)
  | _, _, 0, _ => .nil
  | _, _, _ + 1, .nil => .nil
  | _, _, k + 1, .cons r t => .cons r (paired_take k t)

section
variable {P : Program} {w : World} {K : PySem.W.Frag} {mg : Str → Option Value} {base : Heap}
abbrev st_law_turned : Stmt := topS 60
theorem sc_law_turned : FnScope ["_law_purse", "_law_plan", "_law_rules_here", "_law_costs", "_law_record", "_law_order", "_law_s", "_law_other", "_law_rule", "_law_more"] ["_law_purse", "_law_plan", "_law_rules_here", "_law_costs", "_law_record"] (defScope st_law_turned) := C8.fnScope_by (by decide +kernel)
abbrev sc_more : Scope := { kind := .function, names := [(Str.ofString ".0", .local), (Str.ofString "_law_rule", .cell), (Str.ofString "tuple", .globalImplicit), (Str.ofString "_law_order", .cell)], isGenerator := false, isCoroutine := false }
def spTurned (K : PySem.W.Frag) : Sp := fun vs H Q _ => ∃ (p c ul : Addr) (t v z : V) (Pl : List PSort) (R : List Rule) (C : List Int) (cs : List (Option Str)) (m : Int) (n : Nat), vs = [.ref p, t, .ref ul, v, z] ∧ Pu H p c n ∧ n ≤ 1000000 ∧ ul ≠ p ∧ ul ≠ c ∧ R.length ≤ 8 ∧
  IsPlan K H t Pl ∧ IsRules K H (.ref ul) R ∧ IsCosts K H v C ∧ IsRec K H z cs m ∧ GoodPlan Pl ∧ GoodRules Pl R ∧ GoodCosts Pl C ∧ GoodRec Pl cs m ∧
  ∀ H' r t' u' v' z' ord P' R', Go p c H H' → Pu H' p c (n + 100) → SqT K H' r [t', .ref u', v', z'] → IsPlan K H' t' P' → IsRules K H' (.ref u') R' → IsCosts K H' v' (turnL 0 ord C) → IsRec K H' z' (turnL none ord cs) m →
    ord.Perm (List.range Pl.length) → Turned ord Pl P' → GoodRules P' R' → (∀ r', r' ∈ R' ↔ ∃ r ∈ R, r' = turnL none ord r) → Q (.ref r) H'
theorem ok_turned (T : Top mg) (D : At K mg "_law_turned" st_law_turned) (g_law_draw : C8.Cal P w K mg base 1 "_law_draw" spDraw []) (g_law_shuffled : C8.Cal P w K mg base 2 "_law_shuffled" (spShuf K) []) : C8.Cal P w K mg base 3 "_law_turned" (spTurned K) [] := by
  refine cal_of D sc_law_turned ?len (fun _ _ _ _ _ _ us hl => match us, hl with | [_, _, _, _, _], _ => rfl) (fun f cdv A outer s H vs Q E hr h => ?body)
  case len =>
    intro vs H Q E ⟨i, n, o, m, l, l1, l2, l3, l4, l5, l6, l7, e, _⟩
    rw [e]; rfl
  case body =>
    obtain ⟨p, c, ul, t, v, z, Pl, R, C, cs, m, n, rfl, pu, hn, hup, huc, hR8, ⟨ta, xs, rfl, hT, hPs⟩, ⟨ul', us, eul, hU, hUs⟩, ⟨va, rfl, hC⟩, ⟨za, rfl, hZ⟩, gp, gr, gc, grec, q⟩ := h
    obtain rfl : ul = ul' := by injection eul
    have hxl := paired_len hPs
    have hul := paired_len hUs
    have hhi := gp.hi
    have hcl := gc.len
    have hrl := grec.row.len
    refine ⟨_, (pss_cons (ps_set (i := 5) sc_law_turned.nd rfl (by first | exact Or.inl rfl | exact Or.inr rfl) (C8.pe_c g_law_shuffled hr (by decide) (by rfl) (pa_cons (pv 0) (pa_cons (pe_listRg rfl (by rfl) T.list (prg_1 (by rfl) T.range (pe_callB (call_lenK (K := K) rfl) (by rfl) T.len (by decide +kernel) (pa_cons (pv 1) pa_nil)))) pa_nil))))
      (pss_cons (ps_set (i := 7) sc_law_turned.nd rfl (by first | exact Or.inl rfl | exact Or.inr rfl) (pe_callTy (call_tupK (K := K) rfl) (by rfl) T.tuple (by decide +kernel) (pa_cons (pe_lc (own := [("_law_s", 6)]) (g := (gName 6)) (tt := tYes) rfl sc_law_turned.nd (pi_listK (K := K) rfl (pv 5)) (blkOk_by (own := [("_law_s", 6)]) (N := ["_law_purse", "_law_plan", "_law_rules_here", "_law_costs", "_law_record", "_law_order", "_law_s", "_law_other", "_law_rule", "_law_more"]) (sc := defScope st_law_turned) (by decide +kernel)) (fun _ _ _ _ _ => (pg_name (i := 6) sc_law_turned.nd rfl (by first | exact Or.inl rfl | exact Or.inr rfl))) (fun _ _ _ _ _ => pts_nil) (fun _ _ _ _ _ => (pe_tup (pa_cons (pe_ix (ix_tupK (K := K) rfl) (pe_ix (ix_tupK (K := K) rfl) (pv 1) (pv 6) (fun _ _ => rfl)) pe_int (fun _ _ => rfl)) (pa_cons (pe_callTy (call_tupK (K := K) rfl) (by rfl) T.tuple (by decide +kernel) (pa_cons (C8.pe_c g_law_shuffled hr (by decide) (by rfl) (pa_cons (pv 0) (pa_cons (pe_ix (ix_tupK (K := K) rfl) (pe_ix (ix_tupK (K := K) rfl) (pv 1) (pv 6) (fun _ _ => rfl)) pe_int (fun _ _ => rfl)) pa_nil))) pa_nil)) pa_nil))))) pa_nil)))
      (pss_cons (ps_set (i := 9) sc_law_turned.nd rfl (by first | exact Or.inl rfl | exact Or.inr rfl) (C8.pe_c g_law_shuffled hr (by decide) (by rfl) (pa_cons (pv 0) (pa_cons (pe_lc (own := [("_law_rule", 8)]) (g := (gName 8)) (tt := tYes) rfl sc_law_turned.nd (pi_listK (K := K) rfl (pe_op op_cat (pv 2) (pe_slice (sl_listK (K := K) rfl) (pv 2) po_none (po_some pe_int)))) (blkOk_by (own := [("_law_rule", 8)]) (N := ["_law_purse", "_law_plan", "_law_rules_here", "_law_costs", "_law_record", "_law_order", "_law_s", "_law_other", "_law_rule", "_law_more"]) (sc := defScope st_law_turned) (by decide +kernel)) (fun _ _ _ _ _ => (pg_name (i := 8) sc_law_turned.nd rfl (by first | exact Or.inl rfl | exact Or.inr rfl))) (fun _ _ _ _ _ => pts_nil) (fun _ _ _ _ _ => (pe_callTy (call_tupK (K := K) rfl) (by rfl) T.tuple (by decide +kernel) (pa_cons (pe_lc (own := [("_law_s", 6)]) (g := (gName 6)) (tt := tYes) rfl sc_law_turned.nd (pi_listK (K := K) rfl (pv 5)) (blkOk_by (own := [("_law_s", 6)]) (N := ["_law_purse", "_law_plan", "_law_rules_here", "_law_costs", "_law_record", "_law_order", "_law_s", "_law_other", "_law_rule", "_law_more"]) (sc := sc_more) (by decide +kernel)) (fun _ _ _ _ _ => (pg_name (i := 6) sc_law_turned.nd rfl (by first | exact Or.inl rfl | exact Or.inr rfl))) (fun _ _ _ _ _ => pts_nil) (fun _ _ _ _ _ => (pe_ix (ix_tupK (K := K) rfl) (pv 8) (pv 6) (fun _ _ => rfl)))) pa_nil)))) pa_nil))))
      (pss_one (ps_ret (pe_tup (pa_cons (pv 7) (pa_cons (pv 9) (pa_cons (pe_callTy (call_tupK (K := K) rfl) (by rfl) T.tuple (by decide +kernel) (pa_cons (pe_lc (own := [("_law_s", 6)]) (g := (gName 6)) (tt := tYes) rfl sc_law_turned.nd (pi_listK (K := K) rfl (pv 5)) (blkOk_by (own := [("_law_s", 6)]) (N := ["_law_purse", "_law_plan", "_law_rules_here", "_law_costs", "_law_record", "_law_order", "_law_s", "_law_other", "_law_rule", "_law_more"]) (sc := defScope st_law_turned) (by decide +kernel)) (fun _ _ _ _ _ => (pg_name (i := 6) sc_law_turned.nd rfl (by first | exact Or.inl rfl | exact Or.inr rfl))) (fun _ _ _ _ _ => pts_nil) (fun _ _ _ _ _ => (pe_ix (ix_tupK (K := K) rfl) (pv 3) (pv 6) (fun _ _ => rfl)))) pa_nil)) (pa_cons (pe_op (op_catK (K := K) rfl) (pe_callTy (call_tupK (K := K) rfl) (by rfl) T.tuple (by decide +kernel) (pa_cons (pe_lc (own := [("_law_s", 6)]) (g := (gName 6)) (tt := tYes) rfl sc_law_turned.nd (pi_listK (K := K) rfl (pv 5)) (blkOk_by (own := [("_law_s", 6)]) (N := ["_law_purse", "_law_plan", "_law_rules_here", "_law_costs", "_law_record", "_law_order", "_law_s", "_law_other", "_law_rule", "_law_more"]) (sc := defScope st_law_turned) (by decide +kernel)) (fun _ _ _ _ _ => (pg_name (i := 6) sc_law_turned.nd rfl (by first | exact Or.inl rfl | exact Or.inr rfl))) (fun _ _ _ _ _ => pts_nil) (fun _ _ _ _ _ => (pe_ix (ix_tupK (K := K) rfl) (pv 4) (pv 6) (fun _ _ => rfl)))) pa_nil)) (pe_slice (sl_tupK (K := K) rfl) (pv 4) (po_some (pe_un un_neg pe_int)) po_none)) pa_nil)))))))))), ?_⟩
    refine ⟨_, rfl, _, rfl, _, _, rfl, len_tup hT, _, rfl, .of_le (by decide) (by omega) (by decide) (by omega), fun l0 hl0 => ?_⟩
    have erg : rgV 0 ((xs.length : Nat) : Int) = (List.range Pl.length).map fun i : Nat => V.int (i : Nat) := by
      unfold rgV
      rw [show (((xs.length : Nat) : Int) - 0).toNat = Pl.length by omega]
      exact List.map_congr_left fun i _ => congrArg V.int (Int.zero_add _)
    have s0 : Same H (upd H l0 (.lst (rgV 0 ((xs.length : Nat) : Int)))) := same_upd hl0
    refine ⟨p, c, l0, n, rgV 0 ((xs.length : Nat) : Int), rfl, pu.same s0, by omega, .inl ⟨upd_same, (pu.fresh hl0).1, (pu.fresh hl0).2⟩, by rw [rgV_length]; omega, fun f ys H1 hf g1 pu1 hfy hperm => ?_⟩
    rw [erg] at hperm
    obtain ⟨ord, rfl, ho⟩ := perm_map_of hperm
    have hol := ord_len ho
    have hos : ∀ s ∈ ord, s < Pl.length := fun s hs => List.mem_range.mp (ho.mem_iff.mp hs)
    have g01 : Go p c H H1 := (Same.go s0).trans g1
    have pu1 : Pu H1 p c (n + 4) := pu1.le (by rw [rgV_length]; omega)
    obtain ⟨hfp, hfc⟩ := (pu.same s0).fresh hf
    have t01 := Go.tups pu g01
    have hml : (ord.map fun i : Nat => V.int (i : Nat)).length = Pl.length := by rw [List.length_map, hol]
    have hot : ∀ {j : Nat} {x : V}, (ord.map fun i : Nat => V.int (i : Nat))[j]? = some x → ∃ s : Nat, ord[j]? = some s ∧ s < Pl.length ∧ x = .int (s : Nat) := fun {j x} h => by
      rw [List.getElem?_map] at h
      obtain ⟨s, hs, rfl⟩ := Option.map_eq_some_iff.mp h
      exact ⟨s, hs, ord_get ho hs, rfl⟩
    -- the plan
    refine ⟨_, rfl, f, rfl, ⟨_, sqL hfy⟩, fun Dn hD => lc_it (walk_list (xs := ord.map fun i : Nat => V.int (i : Nat))) (fun i H5 => Go p c H1 H5 ∧ Pu H5 p c (n + 4 + 6 * i) ∧ ∃ acc P', H5 Dn = some (.lst acc) ∧ Paired (IsSort K H5) acc P' ∧ P'.length = i ∧ ∀ (j s : Nat), j < i → ord[j]? = some s → ∃ so so', Pl[s]? = some so ∧ P'[j]? = some so' ∧ so'.1 = so.1 ∧ so'.2.Perm so.2)
      ⟨Same.go (same_upd hD), pu1.same (same_upd hD), [], [], upd_same, .nil, rfl, fun j s h _ => absurd h (Nat.not_lt_zero _)⟩ (fun i H5 _ p5 => sqL (p5.1 f _ hfp hfc hfy)) (fun i x H9 H5 hi p5 y => ?_) fun H5 p5 => ?_⟩
    · obtain ⟨g5, pu5, acc, P', hacc, hP', hPl', heach⟩ := p5
      obtain ⟨e9, hx⟩ := y
      subst e9
      obtain ⟨s, hs, hsP, rfl⟩ := hot hx
      obtain ⟨hDp, hDc⟩ := pu1.fresh hD
      have t05 := t01.trans (Go.tups pu1 g5)
      have hsx : s < xs.length := by omega
      obtain ⟨so, hso, sa, cv, esa, hS, ca, rfl, hCa⟩ := paired_get hPs (List.getElem?_eq_getElem hsx)
      have gs := gp.sort so (List.mem_of_getElem? hso)
      have hc6 := gs.codes.hi
      have hcl6 : (so.2.map V.str).length = so.2.length := List.length_map _
      have hat : atI xs ((s : Nat) : Int) = some (.ref sa) := atI_nat (by rw [List.getElem?_eq_getElem hsx, esa])
      refine ⟨rfl, yes_ok ⟨_, rfl, _, rfl, ta, _, (s : Nat), _, rfl, rfl, t05.seq hT, hat, sa, _, 0, _, rfl, rfl, t05.seq hS, atI_nat (j := 0) rfl, ?_⟩⟩
      refine ⟨_, rfl, _, rfl, _, rfl, ta, _, (s : Nat), _, rfl, rfl, t05.seq hT, hat, sa, _, 1, _, rfl, rfl, t05.seq hS, atI_nat (j := 1) rfl, p, c, ca, _, _, rfl, pu5, by omega, .inr (t05.seq hCa), by omega, fun f2 ys2 H6 hf2 g6 pu6 hfy2 hperm2 => ?_⟩
      obtain ⟨cs2, rfl, hcs2⟩ := perm_map_of hperm2
      refine ⟨f2, _, rfl, .inl ⟨sqL hfy2, fun v2 hv2 => ⟨two_le, fun w2 hw2 => ?_⟩⟩⟩
      have u1 : Same H6 (upd H6 v2 (.tup (cs2.map V.str))) := same_upd hv2
      have u2 : Same (upd H6 v2 (.tup (cs2.map V.str))) (upd (upd H6 v2 (.tup (cs2.map V.str))) w2 (.tup [.str so.1, .ref v2])) := same_upd hw2
      have tv := u2 _ _ (upd_same : (upd H6 v2 (.tup (cs2.map V.str))) v2 = _)
      have tw : (upd (upd H6 v2 (.tup (cs2.map V.str))) w2 (.tup [.str so.1, .ref v2])) w2 = some (.tup [.str so.1, .ref v2]) := upd_same
      have g5E : Go p c H5 (upd (upd H6 v2 (.tup (cs2.map V.str))) w2 (.tup [.str so.1, .ref v2])) := g6.trans (Same.go (u1.trans u2))
      have puE : Pu (upd (upd H6 v2 (.tup (cs2.map V.str))) w2 (.tup [.str so.1, .ref v2])) p c _ := pu6.same (u1.trans u2)
      have accE := g5E Dn _ hDp hDc hacc
      have tE : Tups _ (upd (upd (upd H6 v2 (.tup (cs2.map V.str))) w2 (.tup [.str so.1, .ref v2])) Dn (.lst (acc ++ [.ref w2]))) := tups_lst accE
      have hal : acc.length = i := by rw [paired_len hP', hPl']
      refine ⟨acc, accE, small1000 (by omega), Go.upd hD (g5.trans g5E), Pu.upd hDp hDc (puE.le (by rw [hcl6]; omega)), acc ++ [.ref w2], P' ++ [(so.1, cs2)], upd_same, ?_, by rw [List.length_append, hPl']; rfl, fun j s' hj hs' => ?_⟩
      · exact paired_snoc (paired_imp hP' fun _ _ => IsSort.mono ((Go.tups pu5 g5E).trans tE)) ⟨w2, .ref v2, rfl, tE.seq (sqT tw), v2, rfl, tE.seq (sqT tv)⟩
      · by_cases hk : j < i
        · obtain ⟨so1, so2, e1, e2, e3⟩ := heach j s' hk hs'
          exact ⟨so1, so2, e1, by rw [List.getElem?_append_left (by omega)]; exact e2, e3⟩
        · obtain rfl : j = i := by omega
          rw [hs] at hs'
          obtain rfl := Option.some.inj hs'
          exact ⟨so, (so.1, cs2), hso, by rw [List.getElem?_append_right (by omega), hPl', Nat.sub_self]; rfl, rfl, hcs2⟩
    · obtain ⟨g5, pu5, acc, P', hacc, hP', hPl', heach⟩ := p5
      rw [hml] at hPl' pu5 heach
      have TT : Turned ord Pl P' := ⟨by omega, fun j s hs => heach j s (by have := getE hs; omega) hs⟩
      refine ⟨Dn, acc, rfl, .inl ⟨sqL hacc, fun tp htp => ?_⟩⟩
      have s6 : Same H5 (upd H5 tp (.tup acc)) := same_upd htp
      have hPlan6 : IsPlan K (upd H5 tp (.tup acc)) (.ref tp) P' := ⟨tp, acc, rfl, sqT upd_same, paired_imp hP' fun _ _ => IsSort.mono (Same.tups s6)⟩
      have g16 : Go p c H1 (upd H5 tp (.tup acc)) := g5.trans (Same.go s6)
      have g06 : Go p c H (upd H5 tp (.tup acc)) := g01.trans g16
      have pu6 : Pu (upd H5 tp (.tup acc)) p c (n + 28) := (pu5.same s6).le (by omega)
      have hf6 := g16 f _ hfp hfc hfy
      have t06 := Go.tups pu g06
      have hU6 := g06 ul _ hup huc hU
      generalize upd H5 tp (.tup acc) = H6 at hPlan6 g06 pu6 hf6 t06 hU6
      clear g16 s6
      -- the rules
      refine ⟨_, rfl, _, rfl, _, rfl, np_ok ⟨2, rfl, ul, us, rfl, sqL hU6, fun l1 hl1 => ?_⟩⟩
      have e2 : cutV us none (some 2) = us.take 2 := cut_upto (i := 2)
      rw [e2]
      have v1 : Same H6 (upd H6 l1 (.lst (us.take 2))) := same_upd hl1
      refine ⟨ul, l1, us, us.take 2, rfl, rfl, v1 _ _ hU6, upd_same, by rw [List.length_take, sizeLine_eq]; omega, fun l2 hl2 => ?_⟩
      have v2 : Same (upd H6 l1 (.lst (us.take 2))) (upd (upd H6 l1 (.lst (us.take 2))) l2 (.lst (us ++ us.take 2))) := same_upd hl2
      have hl2v : (upd (upd H6 l1 (.lst (us.take 2))) l2 (.lst (us ++ us.take 2))) l2 = some (.lst (us ++ us.take 2)) := upd_same
      have v12 := v1.trans v2
      have pu7 : Pu (upd (upd H6 l1 (.lst (us.take 2))) l2 (.lst (us ++ us.take 2))) p c (n + 28) := pu6.same v12
      generalize (upd (upd H6 l1 (.lst (us.take 2))) l2 (.lst (us ++ us.take 2))) = H7 at hl2v v12 pu7
      have hlen10 : (us ++ us.take 2).length ≤ 10 := by rw [List.length_append, List.length_take]; omega
      have hUU : Paired (IsRule K H) (us ++ us.take 2) (R ++ R.take 2) := paired_app hUs (paired_take 2 hUs)
      have t07 := t06.trans (Same.tups v12)
      refine ⟨l2, rfl, ⟨_, sqL hl2v⟩, fun D2 hD2 => lc_rel (w := walk_list (xs := us ++ us.take 2)) (by omega) (fun j v H' => ∃ r, (R ++ R.take 2)[j]? = some r ∧ IsRule K H' v (turnL none ord r)) (fun j v H' H'' tt ⟨r, h1, h2⟩ => ⟨r, h1, h2.mono tt⟩) hD2 (fun H' s => sqL (s _ _ hl2v)) (fun j x H8 H9 CC hj s y kk => ?_) fun H8 zs s e hzl hz => ?_⟩
      · obtain ⟨e9, hx⟩ := y
        subst e9
        obtain ⟨r, hr, ra, rs, rfl, hrs, hrn⟩ := paired_get hUU hx
        have hrmem : r ∈ R := by
          rcases List.mem_append.mp (List.mem_of_getElem? hr) with h | h
          · exact h
          · exact List.mem_of_mem_take h
        have hrlen := (gr.each r hrmem).len
        have hrsl : rs.length = Pl.length := by rw [paired_len hrn, hrlen]
        have hf8 := s _ _ (v12 _ _ hf6)
        have t08 := t07.trans (Same.tups s)
        refine ⟨rfl, _, rfl, f, rfl, ⟨_, sqL hf8⟩, fun D3 hD3 => lc_vals (w := walk_list (xs := ord.map fun i : Nat => V.int (i : Nat))) (by omega) (fun k => rs.getD (ord.getD k 0) .non) hD3 (fun H' s' => sqL (s' _ _ hf8)) (fun k x H9 H10 CC' hk s' y' kk' => ?_) fun H9 s' e' => ?_⟩
        · obtain ⟨e9, hx'⟩ := y'
          subst e9
          obtain ⟨s1, hs1, hs1P, rfl⟩ := hot hx'
          refine ⟨rfl, _, rfl, _, rfl, ra, _, (s1 : Nat), _, rfl, rfl, (t08.trans (Same.tups s')).seq hrs, atI_nat (List.getElem?_eq_getElem (by omega)), ?_⟩
          have := kk' _ (Same.refl _)
          rw [List.getD_eq_getElem?_getD (l := ord), hs1, Option.getD_some, getD_lt (by omega)] at this
          exact this
        · rw [hml, ← hol, map_getD (fun s => rs.getD s .non) 0 ord] at e'
          refine ⟨D3, _, rfl, .inl ⟨sqL e', fun tp2 htp2 => ?_⟩⟩
          have s9 : Same H9 (upd H9 tp2 (.tup (ord.map fun s => rs.getD s .non))) := same_upd htp2
          refine kk (.ref tp2) _ (s'.trans s9) ⟨r, hr, tp2, _, rfl, sqT upd_same, ?_⟩
          exact paired_imp (paired_turn hrn ord fun s hs => by rw [hrsl]; exact hos s hs) fun _ _ => IsNamed.mono ((t08.trans (Same.tups s')).trans (Same.tups s9))
      · have pu8 := pu7.same s
        have hDne := pu7.fresh hD2
        have hzz : Paired (IsRule K H8) zs ((R ++ R.take 2).map (turnL none ord)) := paired_of (by rw [hzl, List.length_map, paired_len hUU]) fun i y hy => by
          obtain ⟨r, h1, h2⟩ := hz i y hy
          exact ⟨_, by rw [List.getElem?_map, h1]; rfl, h2⟩
        refine ⟨p, c, D2, _, zs, rfl, pu8, by omega, .inl ⟨e, hDne.1, hDne.2⟩, by omega, fun f3 ys3 H10 hf3 g10 pu10 hfy3 hperm3 => ?_⟩
        obtain ⟨R', hR', hRp⟩ := perm_paired hperm3 hzz
        have hR'10 := paired_imp hR' fun _ _ => IsRule.mono (Go.tups pu8 g10)
        have g6A : Go p c H6 H10 := (Same.go (v12.trans s)).trans g10
        have hfA := g6A f _ hfp hfc hf6
        have t0A := t06.trans (Go.tups pu6 g6A)
        have hmemR : ∀ r', r' ∈ R' ↔ ∃ r ∈ R, r' = turnL none ord r := fun r' => by
          rw [hRp.mem_iff, List.mem_map]
          constructor
          · rintro ⟨r, hr, rfl⟩
            rcases List.mem_append.mp hr with h | h
            · exact ⟨r, h, rfl⟩
            · exact ⟨r, List.mem_of_mem_take h, rfl⟩
          · rintro ⟨r, hr, rfl⟩
            exact ⟨r, List.mem_append.mpr (.inl hr), rfl⟩
        -- the costs
        refine ⟨_, rfl, _, rfl, _, rfl, f, rfl, ⟨_, sqL hfA⟩, fun D3 hD3 => lc_vals (w := walk_list (xs := ord.map fun i : Nat => V.int (i : Nat))) (by omega) (fun k => .int (C.getD (ord.getD k 0) 0)) hD3 (fun H' s' => sqL (s' _ _ hfA)) (fun k x H11 H12 CC' hk s' y' kk' => ?_) fun H11 s11 e11 => ?_⟩
        · obtain ⟨e9, hx'⟩ := y'
          subst e9
          obtain ⟨s1, hs1, hs1P, rfl⟩ := hot hx'
          refine ⟨rfl, _, rfl, _, rfl, va, _, (s1 : Nat), _, rfl, rfl, (t0A.trans (Same.tups s')).seq hC, atI_nat (int_at (by omega)), ?_⟩
          have := kk' _ (Same.refl _)
          rw [List.getD_eq_getElem?_getD (l := ord), hs1, Option.getD_some, getD_lt (by omega)] at this
          exact this
        · rw [hml, ← hol, map_getD (fun s => V.int (C.getD s 0)) 0 ord] at e11
          have e12 : (ord.map fun s => V.int (C.getD s 0)) = (turnL 0 ord C).map V.int := by unfold turnL; rw [List.map_map]; rfl
          rw [e12] at e11
          refine ⟨D3, _, rfl, .inl ⟨sqL e11, fun tp3 htp3 => ?_⟩⟩
          have s12 : Same H11 (upd H11 tp3 (.tup ((turnL 0 ord C).map V.int))) := same_upd htp3
          have hfB := (s11.trans s12) _ _ hfA
          have t0B := t0A.trans (Same.tups (s11.trans s12))
          -- the record
          refine ⟨_, rfl, f, rfl, ⟨_, sqL hfB⟩, fun D4 hD4 => lc_vals (w := walk_list (xs := ord.map fun i : Nat => V.int (i : Nat))) (by omega) (fun k => oV (cs.getD (ord.getD k 0) none)) hD4 (fun H' s' => sqL (s' _ _ hfB)) (fun k x H13 H14 CC' hk s' y' kk' => ?_) fun H13 s13 e13 => ?_⟩
          · obtain ⟨e9, hx'⟩ := y'
            subst e9
            obtain ⟨s1, hs1, hs1P, rfl⟩ := hot hx'
            refine ⟨rfl, _, rfl, _, rfl, za, _, (s1 : Nat), _, rfl, rfl, (t0B.trans (Same.tups s')).seq hZ, atI_nat (rec_at (by omega)), ?_⟩
            have := kk' _ (Same.refl _)
            rw [List.getD_eq_getElem?_getD (l := ord), hs1, Option.getD_some] at this
            exact this
          · rw [hml, ← hol, map_getD (fun s => oV (cs.getD s none)) 0 ord] at e13
            have e14 : (ord.map fun s => oV (cs.getD s none)) = (turnL none ord cs).map oV := by unfold turnL; rw [List.map_map]; rfl
            rw [e14] at e13
            refine ⟨D4, _, rfl, .inl ⟨sqL e13, fun tp4 htp4 => ?_⟩⟩
            have s14 : Same H13 (upd H13 tp4 (.tup ((turnL none ord cs).map oV))) := same_upd htp4
            have t0C := t0B.trans (Same.tups (s13.trans s14))
            refine ⟨_, rfl, 1, rfl, -1, rfl, np_ok (sl_last (t0C.seq hZ) fun p5 H15 s15 hp5 => ?_)⟩
            refine cat_ok ((Same.tups s15).seq (sqT upd_same)) hp5 (by rw [List.length_map, turn_length ho]; simp; omega) fun p6 H16 s16 hp6 => ⟨four_le, fun pr hpr => ?_⟩
            have s17 : Same H16 (upd H16 pr (.tup [.ref tp, .ref f3, .ref tp3, .ref p6])) := same_upd hpr
            have sA : Same H10 (upd H16 pr (.tup [.ref tp, .ref f3, .ref tp3, .ref p6])) := (((s11.trans s12).trans (s13.trans s14)).trans (s15.trans s16)).trans s17
            have sB : Same (upd H11 tp3 (.tup ((turnL 0 ord C).map V.int))) (upd H16 pr (.tup [.ref tp, .ref f3, .ref tp3, .ref p6])) := ((s13.trans s14).trans (s15.trans s16)).trans s17
            have tA : Tups H6 (upd H16 pr (.tup [.ref tp, .ref f3, .ref tp3, .ref p6])) := (Go.tups pu6 g6A).trans (Same.tups sA)
            refine q _ pr (.ref tp) f3 (.ref tp3) (.ref p6) ord P' R' ((g06.trans g6A).trans (Same.go sA)) ((pu10.same sA).le (by omega)) (sqT upd_same) (hPlan6.mono tA) ⟨f3, ys3, rfl, sA _ _ hfy3, paired_imp hR'10 fun _ _ => IsRule.mono (Same.tups sA)⟩ ⟨tp3, rfl, sqT (sB _ _ upd_same)⟩ ⟨p6, rfl, (Same.tups s17).seq hp6⟩ ho TT ⟨?_, fun r' hr' => ?_⟩ hmemR
            · rw [hRp.length_eq, List.length_map, ← paired_len hUU]
              omega
            · obtain ⟨r, hr, rfl⟩ := (hmemR r').mp hr'
              exact TT.rule ho (gr.each r hr)
end
end Cv

set_option maxRecDepth 100000
set_option maxHeartbeats 4000000
/-! The law: _law_right, law. -/
namespace Cv
open PySem PySem.Spec PyProof.Rows L2

theorem IsRules.go {K : PySem.W.Frag} {H H' : Hp} {p c ul : Addr} {n : Nat} {R : List Rule} (pu : Pu H p c n) (g : Go p c H H') (h1 : ul ≠ p) (h2 : ul ≠ c) : IsRules K H (.ref ul) R → IsRules K H' (.ref ul) R := fun ⟨a, vs, e, h, r⟩ => by
  obtain rfl : ul = a := by injection e
  exact ⟨ul, vs, rfl, g ul _ h1 h2 h, paired_imp r fun _ _ => IsRule.mono (Go.tups pu g)⟩
theorem oI_eq {a b : Option Int} (h : a = b) : decide (oI a = oI b) = true := by rw [h]; exact decide_eq_true rfl
theorem oI_scal (a b : Option Int) : scal (oI a) (oI b) = true := by cases a <;> cases b <;> rfl
theorem oI_non (o : Option Int) : decide (oI o = .non) = o.isNone := by cases o <;> rfl
theorem goodRow_of {P : List PSort} {row : List Str} (h : RowR (P.map (·.2)) row) : GoodRow P (row.map some) := by
  rw [rowR_iff] at h
  refine ⟨by rw [List.length_map, h.1, List.length_map], fun i s c hs hc => ?_⟩
  obtain ⟨c', h1, h2⟩ := h.2 i s.2 (by rw [List.getElem?_map, hs]; rfl)
  rw [List.getElem?_map, h1] at hc
  obtain rfl : c' = c := by simpa using hc
  exact h2
theorem row_strOk {P : List PSort} (g : GoodPlan P) {row : List Str} (h : RowR (P.map (·.2)) row) : ∀ c ∈ row, PyData.strOk c = true := fun c hc => by
  obtain ⟨i, hi, e⟩ := List.mem_iff_getElem.mp hc
  rw [rowR_iff] at h
  have hip : i < P.length := by rw [h.1, List.length_map] at hi; exact hi
  obtain ⟨c', h1, h2⟩ := h.2 i P[i].2 (by rw [List.getElem?_map, List.getElem?_eq_getElem hip]; rfl)
  rw [List.getElem?_eq_getElem hi, e] at h1
  obtain rfl : c = c' := Option.some.inj h1
  exact strOk_word ((g.sort P[i] (List.getElem_mem hip)).codes.code c h2)
theorem eqv_nil : ∀ ds : List PyData, PyData.eqv (.list ds) (.list []) = decide (ds = [])
  | [] => by simp [PyData.eqv, PyData.eqvAll]
  | _ :: _ => by simp [PyData.eqv, PyData.eqvAll]
theorem dp_map {K : PySem.W.Frag} {H : Hp} {α : Type} {f : α → V} {g : α → PyData} : ∀ {l : List α}, (∀ i ∈ l, Dp K H (f i) (g i)) → DpAll K H (l.map f) (l.map g)
  | [], _ => .nil
  | a :: l, h => .cons (h a List.mem_cons_self) (dp_map fun i hi => h i (List.mem_cons_of_mem _ hi))
theorem tups_shaped {l : List (List Str)} (h : ∀ cs ∈ l, ∀ c ∈ cs, PyData.strOk c = true) : SeqAt.shaped (.list (l.map fun cs => .tuple (cs.map PyData.str))) = true := by
  have e : (l.map fun cs => PyData.tuple (cs.map PyData.str)) = (l.map some).map nD := by rw [List.map_map]; rfl
  rw [e]
  exact rule_shaped fun n hn cs en c hc => by
    obtain ⟨cs', h1, rfl⟩ := List.mem_map.mp hn
    obtain rfl : cs' = cs := Option.some.inj en
    exact h cs' h1 c hc
theorem dpAll_app {K : PySem.W.Frag} {H : Hp} {xs ys : List V} {ds es : List PyData} (h1 : DpAll K H xs ds) (h2 : DpAll K H ys es) : DpAll K H (xs ++ ys) (ds ++ es) := by
  induction xs generalizing ds with
  | nil => cases h1; exact h2
  | cons x xs ih =>
    cases h1 with
    | cons a b => exact .cons a (ih b)
def recD (row : List Str) (m : Int) : PyData := .tuple (row.map PyData.str ++ [.int m])
theorem dp_rec {K : PySem.W.Frag} {H : Hp} {v : V} {row : List Str} {m : Int} (h : IsRec K H v (row.map some) m) : Dp K H v (recD row m) := by
  obtain ⟨a, rfl, h⟩ := h
  rw [List.map_map] at h
  exact .tup h (dpAll_app (dp_strs row) (.cons (.int m) .nil))
theorem pair_shaped {row : List Str} {m : Int} (h : ∀ c ∈ row, PyData.strOk c = true) : SeqAt.shaped (.tuple [.int 0, recD row m]) = true := by
  have e1 : PyData.canLayAll0 (row.map PyData.str ++ [.int m]) = true := lay_all fun d hd => by
    rcases List.mem_append.mp hd with hd | hd
    · obtain ⟨c, hc, rfl⟩ := List.mem_map.mp hd
      simp [PyData.canLay0, h c hc]
    · rw [List.mem_singleton.mp hd]
      rfl
  have e2 : PyData.depthAll (row.map PyData.str ++ [.int m]) ≤ 0 := depth_all fun d hd => by
    rcases List.mem_append.mp hd with hd | hd
    · obtain ⟨c, hc, rfl⟩ := List.mem_map.mp hd
      simp [PyData.depth]
    · rw [List.mem_singleton.mp hd]
      simp [PyData.depth]
  simp [SeqAt.shaped, PyData.canLay0, PyData.canLayAll0, PyData.depth, PyData.depthAll, recD, e1]
  omega
/-- the rule that names each sort's first code -/
def firstRule (P : List PSort) : Rule := P.map fun s => some (s.2.take 1)
theorem firstRule_good {P : List PSort} (g : GoodPlan P) : GoodRule P (firstRule P) := by
  refine ⟨List.length_map _, fun i s n hs hn => ?_, ?_⟩
  · unfold firstRule at hn
    rw [List.getElem?_map, hs] at hn
    obtain rfl := Option.some.inj hn
    have gs := (g.sort s (List.mem_of_getElem? hs)).codes
    have h2 := gs.lo
    refine ⟨fun e => ?_, gs.nd.sublist (List.take_sublist _ _), fun c hc => List.mem_of_mem_take hc, by rw [List.length_take]; omega⟩
    have := congrArg List.length e
    rw [List.length_take, List.length_nil] at this
    omega
  · have h0 : 0 < P.length := g.lo
    exact ⟨some (P[0].2.take 1), List.mem_map.mpr ⟨P[0], List.getElem_mem h0, rfl⟩, fun z => nomatch z⟩
theorem goodRules_longer {P : List PSort} {R : List Rule} (g : GoodPlan P) (gr : GoodRules P R) (h : R.length ≤ 8) : GoodRules P (R ++ [firstRule P]) :=
  ⟨by rw [List.length_append]; simp; omega, fun r hr => by
    rcases List.mem_append.mp hr with hr | hr
    · exact gr.each r hr
    · rw [List.mem_singleton.mp hr]
      exact firstRule_good g⟩
theorem min2_eq {x : Int} : (if 7 * x < 1000 then 7 * x else 1000) = min 1000 (7 * x) := by
  split <;> omega

section
variable {P : Program} {w : World} {K : PySem.W.Frag} {mg : Str → Option Value} {base : Heap}
abbrev st_law_right : Stmt := topS 61
theorem sc_law_right : FnScope ["_law_purse", "_law_plan", "_law_rules_here", "_law_costs", "_law_record", "_law_cost_here", "_law_row", "_law_bad", "_law_other", "_law_more", "_law_turned_here", "_law_beside_it", "_law_name", "_law_codes", "_law_longer", "_law_later", "_law_one", "_law_mended", "_law_near", "_law_far"] ["_law_purse", "_law_plan", "_law_rules_here", "_law_costs", "_law_record"] (defScope st_law_right) := C8.fnScope_by (by decide +kernel)
def spRightLaw (K : PySem.W.Frag) : Sp := fun vs H Q _ => ∃ (p c ul : Addr) (t v z : V) (Pl : List PSort) (R : List Rule) (C : List Int) (cs : List (Option Str)) (m : Int) (n : Nat), vs = [.ref p, t, .ref ul, v, z] ∧ Pu H p c n ∧ n ≤ 900000 ∧ ul ≠ p ∧ ul ≠ c ∧ R.length ≤ 8 ∧
  IsPlan K H t Pl ∧ IsRules K H (.ref ul) R ∧ IsCosts K H v C ∧ IsRec K H z cs m ∧ GoodPlan Pl ∧ GoodRules Pl R ∧ GoodCosts Pl C ∧ GoodRec Pl cs m ∧ ∀ H', Go p c H H' → Pu H' p c (n + 200) → Q (.bl true) H'
theorem ok_right_law (T : Top mg) (D : At K mg "_law_right" st_law_right) (g_mend : C8.Cal P w K mg base 10 "mend" (spMend K) []) (g_barred_by : C8.Cal P w K mg base 9 "barred_by" (spBarred K) []) (g_law_cost : C8.Cal P w K mg base 11 "_law_cost" (spCost K) []) (g_law_full : C8.Cal P w K mg base 1 "_law_full" (spFull K) []) (g_law_turned : C8.Cal P w K mg base 3 "_law_turned" (spTurned K) [])
    (g_law_record_by : C8.Cal P w K mg base 3 "_law_record_by" (spRecBy K) []) (g_law_beside : C8.Cal P w K mg base 1 "_law_beside" (spLBeside K) []) : C8.Cal P w K mg base 12 "_law_right" (spRightLaw K) [] := by
  refine cal_of D sc_law_right ?len (fun _ _ _ _ _ _ us hl => match us, hl with | [_, _, _, _, _], _ => rfl) (fun f cdv A outer s H vs Q E hr h => ?body)
  case len =>
    intro vs H Q E ⟨i, n, o, m, l, l1, l2, l3, l4, l5, l6, l7, e, _⟩
    rw [e]; rfl
  case body =>
    obtain ⟨p, c, ul, t, v, z, Pl, R, C, cs, m, n, rfl, pu, hn, hup, huc, hR8, hP, hR, hC, hz, gp, gr, gc, grec, q⟩ := h
    have hhi := gp.hi
    have hcl := gc.len
    have hrl := grec.row.len
    have hCn := gc.nonneg
    refine ⟨_, (pss_cons (ps_set (i := 5) sc_law_right.nd rfl (by first | exact Or.inl rfl | exact Or.inr rfl) (C8.pe_c g_law_cost hr (by decide) (by rfl) (pa_cons (pv 1) (pa_cons (pv 2) (pa_cons (pv 3) (pa_cons (pv 4) pa_nil))))))
      (pss_cons (ps_set (i := 7) sc_law_right.nd rfl (by first | exact Or.inl rfl | exact Or.inr rfl) (pe_cmpR (op_eqK (K := K) rfl hr.units) (pe_lc (own := [("_law_row", 6)]) (g := (gName 6)) (tt := _) rfl sc_law_right.nd (pi_listK (K := K) rfl (C8.pe_c g_law_full hr (by decide) (by rfl) (pa_cons (pv 1) pa_nil))) (blkOk_by (own := [("_law_row", 6)]) (N := ["_law_purse", "_law_plan", "_law_rules_here", "_law_costs", "_law_record", "_law_cost_here", "_law_row", "_law_bad", "_law_other", "_law_more", "_law_turned_here", "_law_beside_it", "_law_name", "_law_codes", "_law_longer", "_law_later", "_law_one", "_law_mended", "_law_near", "_law_far"]) (sc := defScope st_law_right) (by decide +kernel)) (fun _ _ _ _ _ => (pg_name (i := 6) sc_law_right.nd rfl (by first | exact Or.inl rfl | exact Or.inr rfl))) (fun _ _ _ _ _ => (pts_one (pt_cmpR (op_eqK (K := K) rfl hr.units) (C8.pe_c g_barred_by hr (by decide) (by rfl) (pa_cons (pv 1) (pa_cons (pv 2) (pa_cons (pe_op (op_catK (K := K) rfl) (pv 6) (pe_tup (pa_cons pe_int pa_nil))) pa_nil)))) (pe_lst pa_nil) (nomark _)))) (fun _ _ _ _ _ => (pv 6))) (pe_lst pa_nil) (nomark _)))
      (pss_cons (ps_if (pt_cmpR op_ne (pe_cmpR op_isN (pv 5) pe_non (nomark _)) (pv 7) (nomark _)) (pss_one (ps_ret pe_bl)) pss_nil)
      (pss_cons (ps_asg (C8.pe_c g_law_turned hr (by decide) (by rfl) (pa_cons (pv 0) (pa_cons (pv 1) (pa_cons (pv 2) (pa_cons (pv 3) (pa_cons (pv 4) pa_nil)))))) (pg_tup rfl (pgs_cons (pg_name (i := 8) sc_law_right.nd rfl (by first | exact Or.inl rfl | exact Or.inr rfl)) (pgs_cons (pg_name (i := 9) sc_law_right.nd rfl (by first | exact Or.inl rfl | exact Or.inr rfl)) (pgs_cons (pg_name (i := 10) sc_law_right.nd rfl (by first | exact Or.inl rfl | exact Or.inr rfl)) (pgs_cons (pg_name (i := 11) sc_law_right.nd rfl (by first | exact Or.inl rfl | exact Or.inr rfl)) pgs_nil))))))
      (pss_cons (ps_if (pt_cmpR op_ne (C8.pe_c g_law_cost hr (by decide) (by rfl) (pa_cons (pv 8) (pa_cons (pv 9) (pa_cons (pv 10) (pa_cons (pv 11) pa_nil))))) (pv 5) (nomark _)) (pss_one (ps_ret pe_bl)) pss_nil)
      (pss_cons (ps_set (i := 14) sc_law_right.nd rfl (by first | exact Or.inl rfl | exact Or.inr rfl) (pe_op op_cat (pv 2) (pe_lst (pa_cons (pe_callTy (call_tupK (K := K) rfl) (by rfl) T.tuple (by decide +kernel) (pa_cons (pe_lc (own := [("_law_name", 12), ("_law_codes", 13)]) (g := (gTup K 2 (gCons (gName 12) (gCons (gName 13) gNil)))) (tt := tYes) rfl sc_law_right.nd (pi_tupK (K := K) rfl (pv 1)) (blkOk_by (own := [("_law_name", 12), ("_law_codes", 13)]) (N := ["_law_purse", "_law_plan", "_law_rules_here", "_law_costs", "_law_record", "_law_cost_here", "_law_row", "_law_bad", "_law_other", "_law_more", "_law_turned_here", "_law_beside_it", "_law_name", "_law_codes", "_law_longer", "_law_later", "_law_one", "_law_mended", "_law_near", "_law_far"]) (sc := defScope st_law_right) (by decide +kernel)) (fun _ _ _ _ _ => (pg_tup rfl (pgs_cons (pg_name (i := 12) sc_law_right.nd rfl (by first | exact Or.inl rfl | exact Or.inr rfl)) (pgs_cons (pg_name (i := 13) sc_law_right.nd rfl (by first | exact Or.inl rfl | exact Or.inr rfl)) pgs_nil)))) (fun _ _ _ _ _ => pts_nil) (fun _ _ _ _ _ => (pe_slice (sl_tupK (K := K) rfl) (pv 13) po_none (po_some pe_int)))) pa_nil)) pa_nil))))
      (pss_cons (ps_set (i := 15) sc_law_right.nd rfl (by first | exact Or.inl rfl | exact Or.inr rfl) (C8.pe_c g_law_cost hr (by decide) (by rfl) (pa_cons (pv 1) (pa_cons (pv 14) (pa_cons (pv 3) (pa_cons (pv 4) pa_nil))))))
      (pss_cons (ps_if (pt_cmpR op_isN (pv 5) pe_non (nomark _)) (pss_one (ps_ret (pe_cmpR op_isN (pv 15) pe_non (nomark _)))) pss_nil)
      (C8.pss_cut (ps_if (PW.pt (pw_and (pt_cmpR op_notN (pv 15) pe_non (nomark _)) (pw_and1 (pt_cmpR op_lt (pv 15) (pv 5) (nomark _))))) (pss_one (ps_ret pe_bl)) pss_nil)
      (pss_cons (ps_if (pt_cmpR op_gt (C8.pe_c g_law_cost hr (by decide) (by rfl) (pa_cons (pv 1) (pa_cons (pv 2) (pa_cons (pe_callTy (call_tupK (K := K) rfl) (by rfl) T.tuple (by decide +kernel) (pa_cons (pe_lc (own := [("_law_one", 16)]) (g := (gName 16)) (tt := tYes) rfl sc_law_right.nd (pi_tupK (K := K) rfl (pv 3)) (blkOk_by (own := [("_law_one", 16)]) (N := ["_law_purse", "_law_plan", "_law_rules_here", "_law_costs", "_law_record", "_law_cost_here", "_law_row", "_law_bad", "_law_other", "_law_more", "_law_turned_here", "_law_beside_it", "_law_name", "_law_codes", "_law_longer", "_law_later", "_law_one", "_law_mended", "_law_near", "_law_far"]) (sc := defScope st_law_right) (by decide +kernel)) (fun _ _ _ _ _ => (pg_name (i := 16) sc_law_right.nd rfl (by first | exact Or.inl rfl | exact Or.inr rfl))) (fun _ _ _ _ _ => pts_nil) (fun _ _ _ _ _ => (pe_callB (call_min2 rfl) (by rfl) T.min (by decide +kernel) (pa_cons pe_int (pa_cons (pe_op op_mul pe_int (pv 16)) pa_nil))))) pa_nil)) (pa_cons (pv 4) pa_nil))))) (pe_op op_mul pe_int (pv 5)) (nomark _)) (pss_one (ps_ret pe_bl)) pss_nil)
      (pss_cons (ps_set (i := 17) sc_law_right.nd rfl (by first | exact Or.inl rfl | exact Or.inr rfl) (pe_ix (ix_tupK (K := K) rfl) (C8.pe_c g_mend hr (by decide) (by rfl) (pa_cons (pv 1) (pa_cons (pv 2) (pa_cons (pv 3) (pa_cons (pv 4) pa_nil))))) pe_int (fun _ _ => rfl)))
      (pss_cons (ps_if (pt_cmpR (op_neD hr.units) (pe_slice (sl_tupK (K := K) rfl) (C8.pe_c g_mend hr (by decide) (by rfl) (pa_cons (pv 1) (pa_cons (pv 2) (pa_cons (pv 3) (pa_cons (pv 17) pa_nil))))) po_none (po_some pe_int)) (pe_tup (pa_cons pe_int (pa_cons (pv 17) pa_nil))) (nomark _)) (pss_one (ps_ret pe_bl)) pss_nil)
      (pss_cons (ps_set (i := 18) sc_law_right.nd rfl (by first | exact Or.inl rfl | exact Or.inr rfl) (C8.pe_c g_law_record_by hr (by decide) (by rfl) (pa_cons (pv 0) (pa_cons (pv 1) pa_nil))))
      (pss_cons (ps_set (i := 19) sc_law_right.nd rfl (by first | exact Or.inl rfl | exact Or.inr rfl) (C8.pe_c g_law_beside hr (by decide) (by rfl) (pa_cons (pv 3) (pa_cons (pv 18) (pa_cons (pv 4) pa_nil)))))
      (pss_one (ps_ret (pe_cmpR op_le (C8.pe_c g_law_cost hr (by decide) (by rfl) (pa_cons (pv 1) (pa_cons (pv 2) (pa_cons (pv 3) (pa_cons (pv 18) pa_nil))))) (pe_op op_add (pv 5) (pv 19)) (nomark _)))))))))))))))))), ?_⟩
    refine ⟨_, rfl, _, rfl, _, rfl, _, rfl, t, .ref ul, v, z, Pl, R, C, cs, m, rfl, hP, hR, hC, hz, gp, gr, gc, grec, fun H1 s1 => ?_⟩
    -- the rows that no rule bars
    refine ⟨_, rfl, t, Pl, rfl, hP.mono (Same.tups s1), gp, fun H2 fl xs s2 hfl hxs hx1296 => ⟨fl, rfl, ⟨xs, sqL hfl⟩, fun Dn hD => lc_test (w := walk_list (xs := xs)) (by omega) (fun i => !anyBar R (((fullM (Pl.map (·.2))).getD i []).map some)) (fun i => xs.getD i .non) hD (fun H' s => sqL (s _ _ hfl)) (fun i x H3 H4 CC C' hi s y k k' => ?_) fun H5 s5 e5 => ?_⟩⟩
    · obtain ⟨e9, hx⟩ := y
      subst e9
      obtain ⟨row, hrow, hts⟩ := paired_get hxs hx
      have hrr : RowR (Pl.map (·.2)) row := mem_fullM.mp (List.mem_of_getElem? hrow)
      have hrlen : row.length = Pl.length := by rw [hrr.length, List.length_map]
      have s04 := (s1.trans s2).trans s
      obtain ⟨rp, rfl, hrp⟩ := hts.mono (Same.tups s)
      refine ⟨rfl, _, rfl, _, rfl, _, rfl, one_le, fun u hu => ?_⟩
      have u1 : Same H4 (upd H4 u (.tup [.int 0])) := same_upd hu
      refine cat_ok ((Same.tups u1).seq hrp) (sqT upd_same) (by rw [List.length_map, hrlen]; simp; omega) fun p5 H6 s6 hp5 => ?_
      have u16 := u1.trans s6
      have s06 := s04.trans u16
      have t06 := Same.tups s06
      refine ⟨t, .ref ul, .ref p5, Pl, R, row.map some, 0, rfl, hP.mono t06, hR.mono s06, rec_cat hp5, gp, gr, ⟨goodRow_of hrr, by decide, by decide⟩, fun H7 pp ns s7 hpp0 hpp hiff => ⟨Nat.zero_le _, fun q1 hq1 => ?_⟩⟩
      have u2 : Same H7 (upd H7 q1 (.lst [])) := same_upd hq1
      refine ⟨.list (ns.map PyData.int), .list [], .lst (sqL (u2 _ _ hpp)) (dp_ints ns), .lst (sqL upd_same) .nil, PySem.W.ke_shaped_ints _, PySem.W.ke_shaped_ints [], _, rfl, ?_⟩
      rw [eqv_ints_nil]
      have s47 := (u16.trans s7).trans u2
      have erow : (fullM (Pl.map (·.2))).getD i [] = row := by rw [List.getD_eq_getElem?_getD, hrow]; rfl
      rw [erow] at k k'
      by_cases hns : ns = []
      · refine iteS hns ⟨_, rfl, ?_⟩
        have hb := hiff.mp hns
        have := k (by rw [hb]; rfl) _ s47
        rw [getD_some hx] at this
        exact this
      · refine iteSN hns (k' ?_ _ s47)
        cases hb : anyBar R (row.map some) with
        | true => rfl
        | false => exact absurd (hiff.mpr hb) hns
    · have hxl := paired_len hxs
      refine ⟨Nat.zero_le _, fun q1 hq1 => ?_⟩
      have u6 : Same H5 (upd H5 q1 (.lst [])) := same_upd hq1
      have e6 := u6 _ _ e5
      have hq6 : (upd H5 q1 (.lst [])) q1 = some (.lst []) := upd_same
      have s06 := ((s1.trans s2).trans s5).trans u6
      have t26 := Same.tups (s5.trans u6)
      generalize upd H5 q1 (.lst []) = H6 at e6 hq6 s06 t26
      generalize hbl : (List.range xs.length).filter (fun i => !anyBar R (((fullM (Pl.map (·.2))).getD i []).map some)) = bl at e6
      have hbi : ∀ i ∈ bl, i < xs.length := fun i hi => by
        rw [← hbl] at hi
        exact List.mem_range.mp (List.mem_filter.mp hi).1
      have hdp : DpAll K H6 (bl.map fun i => xs.getD i .non) (bl.map fun i => .tuple (((fullM (Pl.map (·.2))).getD i []).map PyData.str)) := dp_map fun i hi => by
        have hi := hbi i hi
        obtain ⟨row, hrow, hts⟩ := paired_get hxs (List.getElem?_eq_getElem hi)
        obtain ⟨rp, e, hrp⟩ := hts.mono t26
        rw [getD_lt hi, e, List.getD_eq_getElem?_getD, hrow]
        exact .tup hrp (dp_strs row)
      have hsh : SeqAt.shaped (.list (bl.map fun i => .tuple (((fullM (Pl.map (·.2))).getD i []).map PyData.str))) = true := by
        have := tups_shaped (l := bl.map fun i => (fullM (Pl.map (·.2))).getD i []) fun cs hcs c hc => by
          obtain ⟨i, hi, rfl⟩ := List.mem_map.mp hcs
          have hi := hbi i hi
          rw [getD_lt (by omega)] at hc
          exact row_strOk gp (mem_fullM.mp (List.getElem_mem (by omega))) c hc
        rw [List.map_map] at this
        exact this
      refine ⟨_, .list [], .lst (sqL e6) hdp, .lst (sqL hq6) .nil, hsh, PySem.W.ke_shaped_ints [], ?_⟩
      rw [eqv_nil]
      have hbad : decide ((bl.map fun i => PyData.tuple (((fullM (Pl.map (·.2))).getD i []).map PyData.str)) = []) = (costM (Pl.map (·.2)) R C cs).isNone := by
        rw [Bool.eq_iff_iff, decide_eq_true_eq, List.map_eq_nil_iff, Option.isNone_iff_eq_none, costM_none, ← hbl, List.filter_eq_nil_iff]
        constructor
        · intro h row hr
          obtain ⟨i, hi, e⟩ := List.mem_iff_getElem.mp (mem_fullM.mpr hr)
          have := h i (List.mem_range.mpr (by omega))
          rw [getD_lt hi, e] at this
          simpa using this
        · intro h i hi
          have hi := List.mem_range.mp hi
          rw [getD_lt (by omega), h _ (mem_fullM.mp (List.getElem_mem (by omega)))]
          decide
      rw [hbad]
      refine ⟨_, rfl, rfl, _, rfl, rfl, _, rfl, iteNS (by rw [oI_non]) ?_⟩
      -- in another order
      have pu6 := pu.same s06
      have t06 := Same.tups s06
      refine ⟨_, rfl, _, rfl, _, rfl, _, rfl, _, rfl, p, c, ul, t, v, z, Pl, R, C, cs, m, n, rfl, pu6, by omega, hup, huc, hR8, hP.mono t06, hR.mono s06, hC.mono t06, hz.mono t06, gp, gr, gc, grec, fun H7 r t' u' v' z' ord P' R' g7 pu7 hr hP' hR' hC' hz' ho TT gr' hmem => ?_⟩
      refine ⟨r, _, rfl, hr, rfl, _, _, rfl, _, _, rfl, _, _, rfl, _, _, rfl, rfl, ?_⟩
      have g07 : Go p c H H7 := (Same.go s06).trans g7
      have t07 := Go.tups pu g07
      have gp' := TT.good ho gp
      refine ⟨_, rfl, _, rfl, _, rfl, _, rfl, t', .ref u', v', z', P', R', _, _, m, rfl, hP', hR', hC', hz', gp', gr', TT.costs ho gc, TT.record ho grec, fun H8 s8 => ⟨_, rfl, oI_scal _ _, _, rfl, ?_⟩⟩
      rw [oI_eq (costM_turned ho Str.empty TT.turnP (List.length_map _) (by omega) (by omega) (fun r hr => (gr.each r hr).len) hmem)]
      refine iteF ?_
      have g08 := g07.trans (Same.go s8)
      have t08 := Go.tups pu g08
      have pu8 := pu7.same s8
      have hR8h := hR.go pu g08 hup huc
      -- one rule more
      have hP8 := hP.mono t08
      obtain ⟨ta, ps, rfl, hT, hPs⟩ := hP8
      have hpl := paired_len hPs
      refine ⟨_, rfl, _, rfl, ta, rfl, ⟨_, hT⟩, fun D2 hD2 => lc_rel (w := walk_tup (xs := ps)) (by omega) (fun j v H' => ∃ s, Pl[j]? = some s ∧ IsTs K H' v (s.2.take 1)) (fun j v H' H'' tt ⟨s, h1, h2⟩ => ⟨s, h1, h2.mono tt⟩) hD2 (fun H' s => (Same.tups s).seq hT) (fun j x H9 H10 CC hj s y kk => ?_) fun H9 zs s9 e9 hzl hzs => ?_⟩
      · obtain ⟨e9, hx⟩ := y
        subst e9
        obtain ⟨so, hso, sa, cv, rfl, hS, ca, rfl, hCa⟩ := paired_get hPs hx
        have gs := gp.sort so (List.mem_of_getElem? hso)
        have hc2 := gs.codes.lo
        refine ⟨sa, _, rfl, (Same.tups s).seq hS, rfl, _, _, rfl, _, _, rfl, rfl, rfl, ?_⟩
        refine ⟨_, rfl, np_ok ⟨1, rfl, sl_to (i := 1) ((Same.tups s).seq hCa) (by rw [List.length_map]; omega) fun v2 H11 s11 hv2 => ?_⟩⟩
        rw [← List.map_take] at hv2
        exact kk _ _ s11 ⟨so, hso, v2, rfl, hv2⟩
      · have hzz : Paired (IsNamed K H9) zs (firstRule Pl) := paired_of (by rw [hzl]; unfold firstRule; rw [List.length_map, hpl]) fun i y hy => by
          obtain ⟨s, h1, h2⟩ := hzs i y hy
          exact ⟨some (s.2.take 1), by unfold firstRule; rw [List.getElem?_map, h1]; rfl, h2⟩
        refine ⟨D2, zs, rfl, .inl ⟨sqL e9, fun tp htp => ⟨one_le, fun l1 hl1 => ?_⟩⟩⟩
        have v1 : Same H9 (upd H9 tp (.tup zs)) := same_upd htp
        have v2 : Same (upd H9 tp (.tup zs)) (upd (upd H9 tp (.tup zs)) l1 (.lst [.ref tp])) := same_upd hl1
        have v12 := v1.trans v2
        obtain ⟨ul', us, eul, hU, hUs⟩ := hR8h
        obtain rfl : ul = ul' := by injection eul
        have hul := paired_len hUs
        refine ⟨ul, l1, us, _, rfl, rfl, v12 _ _ (s9 _ _ hU), upd_same, by rw [sizeLine_eq]; simp; omega, fun l2 hl2 => ?_⟩
        have v3 : Same (upd (upd H9 tp (.tup zs)) l1 (.lst [.ref tp])) (upd (upd (upd H9 tp (.tup zs)) l1 (.lst [.ref tp])) l2 (.lst (us ++ [.ref tp]))) := same_upd hl2
        have hl2v : (upd (upd (upd H9 tp (.tup zs)) l1 (.lst [.ref tp])) l2 (.lst (us ++ [.ref tp]))) l2 = some (.lst (us ++ [.ref tp])) := upd_same
        have htv := (v2.trans v3) _ _ (upd_same : (upd H9 tp (.tup zs)) tp = _)
        have v13 := v12.trans v3
        have s8A : Same H8 (upd (upd (upd H9 tp (.tup zs)) l1 (.lst [.ref tp])) l2 (.lst (us ++ [.ref tp]))) := s9.trans v13
        have t9A := Same.tups v13
        have puA : Pu (upd (upd (upd H9 tp (.tup zs)) l1 (.lst [.ref tp])) l2 (.lst (us ++ [.ref tp]))) p c (n + 100) := pu8.same s8A
        generalize (upd (upd (upd H9 tp (.tup zs)) l1 (.lst [.ref tp])) l2 (.lst (us ++ [.ref tp]))) = HA at hl2v htv s8A t9A puA
        clear v1 v2 v3 v12 v13
        have g0A := g08.trans (Same.go s8A)
        have t0A := Go.tups pu g0A
        have hRL : IsRules K HA (.ref l2) (R ++ [firstRule Pl]) := ⟨l2, _, rfl, hl2v, paired_app (paired_imp hUs fun _ _ => IsRule.mono (Same.tups s8A)) (.cons ⟨tp, zs, rfl, sqT htv, paired_imp hzz fun _ _ => IsNamed.mono t9A⟩ .nil)⟩
        refine ⟨_, rfl, _, rfl, _, rfl, _, rfl, .ref ta, .ref l2, v, z, Pl, R ++ [firstRule Pl], C, cs, m, rfl, hP.mono t0A, hRL, hC.mono t0A, hz.mono t0A, gp, goodRules_longer gp gr hR8, gc, grec, fun HB sB => ?_⟩
        have g0B := g0A.trans (Same.go sB)
        have t0B := Go.tups pu g0B
        have puB := puA.same sB
        cases hco : costM (Pl.map (·.2)) R C cs with
        | none =>
          refine ⟨_, rfl, rfl, _, rfl, iteS rfl ⟨_, rfl, rfl, ?_⟩⟩
          rw [longer_none hco]
          exact q _ g0B (puB.le (by omega))
        | some c0 =>
          refine ⟨_, rfl, rfl, _, rfl, iteSN (fun z => nomatch z) ?_⟩
          have hRB := hR.go pu g0B hup huc
          -- the rest, behind the test of the longer rules
          generalize hlo : costM (Pl.map (·.2)) (R ++ [firstRule Pl]) C cs = lo
          refine ⟨fun σ H' => H' = HB ∧ σ = [some (.ref p), some (.ref ta), some (.ref ul), some v, some z, some (.int c0), none, some (.bl false), some t', some (.ref u'), some v', some z', none, none, some (.ref l2), some (oI lo), none, none, none, none], ?_, ?_⟩
          · cases lo with
            | none => exact ⟨_, rfl, rfl, _, rfl, iteNS rfl (iteF ⟨rfl, rfl⟩)⟩
            | some c1 =>
              refine ⟨_, rfl, rfl, _, rfl, iteN1 (fun z => nomatch z) ⟨_, rfl, _, rfl, _, _, rfl, rfl, _, rfl, iteSN ?_ ⟨rfl, rfl⟩⟩⟩
              have := longer_le hco hlo
              omega
          rintro σ H' ⟨rfl, rfl⟩
          -- the capped costs
          obtain ⟨ca, rfl, hCa⟩ := hC.mono t0B
          have hml : (C.map V.int).length = C.length := List.length_map _
          refine ⟨_, rfl, _, rfl, _, rfl, ca, rfl, ⟨_, hCa⟩, fun D3 hD3 => lc_vals (w := walk_tup (xs := C.map V.int)) (by omega) (fun k => .int (min 1000 (7 * C.getD k 0))) hD3 (fun H' s' => (Same.tups s').seq hCa) (fun k x HC HC' CC hk s' y' kk => ?_) fun HC sC eC => ?_⟩
          · obtain ⟨e9, hx'⟩ := y'
            subst e9
            rw [hml] at hk
            rw [int_at hk] at hx'
            obtain rfl := Option.some.inj hx'
            refine ⟨rfl, _, rfl, 7, C[k], rfl, rfl, .inl ⟨by decide, by decide⟩, 1000, _, rfl, ?_⟩
            have := kk _ (Same.refl _)
            rw [getD_lt hk, ← min2_eq] at this
            exact this
          · rw [hml, map_getD (fun x => V.int (min 1000 (7 * x))) 0 C] at eC
            have eC' : (C.map fun x => V.int (min 1000 (7 * x))) = (C.map fun x => min 1000 (7 * x)).map V.int := by rw [List.map_map]; rfl
            rw [eC'] at eC
            refine ⟨D3, _, rfl, .inl ⟨sqL eC, fun tp3 htp3 => ?_⟩⟩
            have sD : Same HC (upd HC tp3 (.tup ((C.map fun x => min 1000 (7 * x)).map V.int))) := same_upd htp3
            have hk3 : (upd HC tp3 (.tup ((C.map fun x => min 1000 (7 * x)).map V.int))) tp3 = some (.tup ((C.map fun x => min 1000 (7 * x)).map V.int)) := upd_same
            have sBD := sC.trans sD
            generalize (upd HC tp3 (.tup ((C.map fun x => min 1000 (7 * x)).map V.int))) = HD at hk3 sBD
            have g0D := g0B.trans (Same.go sBD)
            have t0D := Go.tups pu g0D
            have puD := puB.same sBD
            have hRD := hR.go pu g0D hup huc
            refine ⟨_, rfl, .ref ta, .ref ul, .ref tp3, z, Pl, R, C.map fun x => min 1000 (7 * x), cs, m, rfl, hP.mono t0D, hRD, ⟨tp3, rfl, sqT hk3⟩, hz.mono t0D, gp, gr, ⟨by rw [List.length_map, hcl], fun x hx => ?_⟩, grec, fun HE sE => ?_⟩
            · obtain ⟨y, hy, rfl⟩ := List.mem_map.mp hx
              have := gc.each y hy
              omega
            · obtain ⟨c2, hc2, hle2⟩ := capped hco
              rw [hc2]
              refine ⟨_, rfl, 7, c0, rfl, rfl, .inl ⟨by decide, by decide⟩, c2, 7 * c0, rfl, rfl, _, rfl, iteSN (by omega) ?_⟩
              have g0E := g0D.trans (Same.go sE)
              have t0E := Go.tups pu g0E
              have puE := puD.same sE
              -- the mended record
              obtain ⟨f0, hf0, hf0c⟩ : ∃ f, cheapestM (Pl.map (·.2)) R C cs = some f ∧ f.1 = c0 := by
                unfold costM at hco
                cases h : cheapestM (Pl.map (·.2)) R C cs with
                | none => rw [h] at hco; cases hco
                | some f => rw [h] at hco; exact ⟨f, rfl, Option.some.inj hco⟩
              obtain ⟨c0', row⟩ := f0
              have hrr : RowR (Pl.map (·.2)) row := ((cheapest_least (Pl.map (·.2)) R C cs).yes c0' row hf0).1
              refine ⟨_, rfl, _, rfl, _, rfl, _, rfl, .ref ta, .ref ul, .ref ca, z, Pl, R, C, cs, m, rfl, hP.mono t0E, hR.go pu g0E hup huc, hC.mono t0E, hz.mono t0E, gp, gr, gc, grec, fun HF pm x y tr sF hpm hfo => ?_⟩
              rw [hf0] at hfo
              obtain ⟨rfl, hrec⟩ := hfo
              refine ⟨pm, _, 1, y, rfl, rfl, hpm, atI_nat (j := 1) rfl, ?_⟩
              have g0F := g0E.trans (Same.go sF)
              have t0F := Go.tups pu g0F
              have puF := puE.same sF
              have gmr : GoodRec Pl (row.map some) m := ⟨goodRow_of hrr, grec.lo, grec.hi⟩
              refine ⟨_, rfl, _, rfl, _, rfl, _, rfl, .ref ta, .ref ul, .ref ca, y, Pl, R, C, row.map some, m, rfl, hP.mono t0F, hR.go pu g0F hup huc, hC.mono t0F, hrec, gp, gr, gc, gmr, fun HG pg x2 y2 tr2 sG hpg hfo2 => ?_⟩
              rw [mended (fun x hx => (gc.each x hx).1) (by rw [List.length_map, hcl]) hf0] at hfo2
              obtain ⟨rfl, hrec2⟩ := hfo2
              refine np_ok ⟨2, rfl, sl_to (i := 2) hpg (show 2 ≤ 3 by decide) fun p2 HH sH hp2 => ⟨_, rfl, two_le, fun p3 hp3 => ?_⟩⟩
              have sI : Same HH (upd HH p3 (.tup [.int 0, y])) := same_upd hp3
              have sGI := sH.trans sI
              have sFI := sG.trans sGI
              refine ⟨.tuple [.int 0, recD row m], .tuple [.int 0, recD row m], .tup ((Same.tups sI).seq hp2) (.cons (.int 0) (.cons (dp_rec (hrec2.mono (Same.tups sGI))) .nil)), .tup (sqT upd_same) (.cons (.int 0) (.cons (dp_rec (hrec.mono (Same.tups sFI))) .nil)), pair_shaped (row_strOk gp hrr), pair_shaped (row_strOk gp hrr), _, rfl, ?_⟩
              rw [SeqAt.eqv_refl _ (SeqAt.canLay_of_shaped (pair_shaped (row_strOk gp hrr)))]
              refine iteF ?_
              have g0I := g0F.trans (Same.go sFI)
              have t0I := Go.tups pu g0I
              have puI := puF.same sFI
              generalize upd HH p3 (.tup [.int 0, y]) = HI at g0I t0I puI
              -- a record near it
              refine ⟨_, rfl, _, rfl, p, c, .ref ta, Pl, _, rfl, puI, by omega, hP.mono t0I, gp, fun zn csn mn HJ gJ puJ hzn gzn => ?_⟩
              have g0J := g0I.trans gJ
              have t0J := Go.tups pu g0J
              have hrn := gzn.row.len
              refine ⟨_, rfl, _, rfl, _, rfl, .ref ca, zn, z, C, csn, cs, mn, m, rfl, hC.mono t0J, hzn, hz.mono t0J, by omega, by omega, by omega, fun HK sK => ?_⟩
              have g0K := g0J.trans (Same.go sK)
              have t0K := Go.tups pu g0K
              refine ⟨_, rfl, _, rfl, _, rfl, _, rfl, .ref ta, .ref ul, .ref ca, zn, Pl, R, C, csn, mn, rfl, hP.mono t0K, hR.go pu g0K hup huc, hC.mono t0K, hzn.mono (Same.tups sK), gp, gr, gc, gzn, fun HL sL => ?_⟩
              obtain ⟨c3, hc3, hle3⟩ := nearer (near := csn) hCn (by omega) hco
              rw [hc3]
              refine ⟨_, rfl, _, rfl, c0, besideM C csn cs, rfl, rfl, c3, _, rfl, rfl, ?_⟩
              show Q (.bl (decide (c3 ≤ c0 + besideM C csn cs))) HL
              rw [decide_eq_true hle3]
              exact q _ (g0K.trans (Same.go sL)) (((puJ.same sK).same sL).le (by omega))
end
end Cv

set_option maxRecDepth 100000
set_option maxHeartbeats 4000000
/-! The law itself. -/
namespace Cv
open PySem PySem.Spec PyProof.Rows L2
section
variable {P : Program} {w : World} {K : PySem.W.Frag} {mg : Str → Option Value} {base : Heap}
abbrev st_law : Stmt := topS 62
theorem sc_law : FnScope ["_law_script", "_law_purse", "_law_time", "_law_plan", "_law_rules_here", "_law_costs", "_law_sort", "_law_small", "_law_record", "_law_once", "_law_one", "_law_seven"] ["_law_script"] (defScope st_law) := C8.fnScope_by (by decide +kernel)
/-- law's: a list of at most 63 ints is handed in, True comes out -/
def spLaw (K : PySem.W.Frag) : Sp := fun vs H Q _ => ∃ (a : Addr) (ns : List Int), vs = [.ref a] ∧ SqL K H a (ns.map V.int) ∧ ns.length ≤ 63 ∧ ∀ H', Q (.bl true) H'
theorem ok_law {f : Addr} {fd : FuncData} (F : L2.Fun K "law" "law" st_law f fd) (T : Top mg) (g_law_purse_by : C8.Cal P w K mg base 1 "_law_purse_by" (spPurse K) []) (g_law_draw : C8.Cal P w K mg base 1 "_law_draw" spDraw []) (g_law_plan_by : C8.Cal P w K mg base 3 "_law_plan_by" (spPlanBy K) []) (g_law_rules_by : C8.Cal P w K mg base 3 "_law_rules_by" (spRulesBy K) [])
    (g_law_record_by : C8.Cal P w K mg base 3 "_law_record_by" (spRecBy K) []) (g_law_costs_by : C8.Cal P w K mg base 2 "_law_costs_by" (spCostsBy K) []) (g_law_cost : C8.Cal P w K mg base 11 "_law_cost" (spCost K) []) (g_law_right : C8.Cal P w K mg base 12 "_law_right" (spRightLaw K) []) : FnOk P w K mg base L2.CX0 13 f fd ["_law_script"] (spLaw K) := by
  refine F.ok sc_law ?len (fun cdv A outer s H vs Q E hr h => ?body)
  case len =>
    intro vs H Q E ⟨i, n, e, _⟩
    rw [e]; rfl
  case body =>
    obtain ⟨a, ns, rfl, hS, h63, q⟩ := h
    refine ⟨_, (pss_cons (ps_set (i := 1) sc_law.nd rfl (by first | exact Or.inl rfl | exact Or.inr rfl) (C8.pe_c g_law_purse_by hr (by decide) (by rfl) (pa_cons (pv 0) pa_nil)))
      (pss_cons (ps_for PassesOwn.never rfl (pi_range1 (by rfl) T.range (pa_cons pe_int pa_nil)) (pg_name (i := 2) sc_law.nd rfl (by first | exact Or.inl rfl | exact Or.inr rfl))
      (pss_cons (ps_set (i := 3) sc_law.nd rfl (by first | exact Or.inl rfl | exact Or.inr rfl) (C8.pe_c g_law_plan_by hr (by decide) (by rfl) (pa_cons (pv 1) pa_nil)))
      (pss_cons (ps_set (i := 4) sc_law.nd rfl (by first | exact Or.inl rfl | exact Or.inr rfl) (C8.pe_c g_law_rules_by hr (by decide) (by rfl) (pa_cons (pv 1) (pa_cons (pv 3) (pa_cons pe_int pa_nil)))))
      (pss_cons (ps_set (i := 5) sc_law.nd rfl (by first | exact Or.inl rfl | exact Or.inr rfl) (C8.pe_c g_law_costs_by hr (by decide) (by rfl) (pa_cons (pv 1) (pa_cons (pv 3) pa_nil))))
      (pss_cons (ps_if (pt_not (pt_val (C8.pe_c g_law_right hr (by decide) (by rfl) (pa_cons (pv 1) (pa_cons (pv 3) (pa_cons (pv 4) (pa_cons (pv 5) (pa_cons (C8.pe_c g_law_record_by hr (by decide) (by rfl) (pa_cons (pv 1) (pa_cons (pv 3) pa_nil))) pa_nil)))))))) (pss_one (ps_ret pe_bl)) pss_nil)
      (pss_cons (ps_set (i := 7) sc_law.nd rfl (by first | exact Or.inl rfl | exact Or.inr rfl) (pe_callTy (call_tupK (K := K) rfl) (by rfl) T.tuple (by decide +kernel) (pa_cons (pe_lc (own := [("_law_sort", 6)]) (g := (gName 6)) (tt := tYes) rfl sc_law.nd (pi_tupK (K := K) rfl (pv 3)) (blkOk_by (own := [("_law_sort", 6)]) (N := ["_law_script", "_law_purse", "_law_time", "_law_plan", "_law_rules_here", "_law_costs", "_law_sort", "_law_small", "_law_record", "_law_once", "_law_one", "_law_seven"]) (sc := defScope st_law) (by decide +kernel)) (fun _ _ _ _ _ => (pg_name (i := 6) sc_law.nd rfl (by first | exact Or.inl rfl | exact Or.inr rfl))) (fun _ _ _ _ _ => pts_nil) (fun _ _ _ _ _ => (pe_op op_add pe_int (C8.pe_c g_law_draw hr (by decide) (by rfl) (pa_cons (pv 1) (pa_cons pe_int pa_nil)))))) pa_nil)))
      (pss_cons (ps_set (i := 8) sc_law.nd rfl (by first | exact Or.inl rfl | exact Or.inr rfl) (C8.pe_c g_law_record_by hr (by decide) (by rfl) (pa_cons (pv 1) (pa_cons (pv 3) pa_nil))))
      (pss_cons (ps_set (i := 9) sc_law.nd rfl (by first | exact Or.inl rfl | exact Or.inr rfl) (C8.pe_c g_law_cost hr (by decide) (by rfl) (pa_cons (pv 3) (pa_cons (pv 4) (pa_cons (pv 7) (pa_cons (pv 8) pa_nil))))))
      (pss_cons (ps_set (i := 11) sc_law.nd rfl (by first | exact Or.inl rfl | exact Or.inr rfl) (C8.pe_c g_law_cost hr (by decide) (by rfl) (pa_cons (pv 3) (pa_cons (pv 4) (pa_cons (pe_callTy (call_tupK (K := K) rfl) (by rfl) T.tuple (by decide +kernel) (pa_cons (pe_lc (own := [("_law_one", 10)]) (g := (gName 10)) (tt := tYes) rfl sc_law.nd (pi_tupK (K := K) rfl (pv 7)) (blkOk_by (own := [("_law_one", 10)]) (N := ["_law_script", "_law_purse", "_law_time", "_law_plan", "_law_rules_here", "_law_costs", "_law_sort", "_law_small", "_law_record", "_law_once", "_law_one", "_law_seven"]) (sc := defScope st_law) (by decide +kernel)) (fun _ _ _ _ _ => (pg_name (i := 10) sc_law.nd rfl (by first | exact Or.inl rfl | exact Or.inr rfl))) (fun _ _ _ _ _ => pts_nil) (fun _ _ _ _ _ => (pe_op op_mul pe_int (pv 10)))) pa_nil)) (pa_cons (pv 8) pa_nil))))))
      (pss_one (ps_if (PW.pt (pw_or (PW.pt (pw_and (pt_cmpR op_isN (pv 9) pe_non (nomark _)) (pw_and1 (pt_cmpR op_notN (pv 11) pe_non (nomark _))))) (pw_or1 (PW.pt (pw_and (pt_cmpR op_notN (pv 9) pe_non (nomark _)) (pw_and1 (pt_cmpR op_ne (pv 11) (pe_op op_mul pe_int (pv 9)) (nomark _)))))))) (pss_one (ps_ret pe_bl)) pss_nil)))))))))))
      (pss_one (ps_ret pe_bl)))), ?_⟩
    refine ⟨_, rfl, a, ns, rfl, hS, h63, fun p c H0 pu0 => ?_⟩
    refine ⟨3, rfl, by decide, by decide, for_it walk_range (fun i σ H1 => Pu H1 p c (5000 * i) ∧ ∃ y2 y3 y4 y5 y7 y8 y9 y11, σ = [some (.ref a), some (.ref p), y2, y3, y4, y5, none, y7, y8, y9, none, y11]) ⟨pu0, none, none, none, none, none, none, none, none, rfl⟩ (fun _ _ _ _ _ => trivial) (fun i x σ H9 H1 hi p1 y => ?_) fun σ H1 p1 => ?_⟩
    · obtain ⟨pu1, y2, y3, y4, y5, y7, y8, y9, y11, rfl⟩ := p1
      obtain ⟨e9, rfl⟩ := y
      subst e9
      have hi3 : i < 3 := hi
      refine ⟨_, rfl, p, c, _, rfl, pu1, by omega, fun t Pl H2 g2 pu2 hP gp => ?_⟩
      have hhi := gp.hi
      refine ⟨_, rfl, _, rfl, p, c, t, Pl, _, rfl, pu2, by omega, hP, gp, fun ul R H3 g3 pu3 hul hR gr hR8 => ?_⟩
      obtain ⟨hup, huc⟩ := pu2.fresh hul
      have hP3 := hP.mono (Go.tups pu2 g3)
      refine ⟨_, rfl, _, rfl, p, c, t, Pl, _, rfl, pu3, by omega, hP3, gp, fun v C H4 g4 pu4 hC gc => ?_⟩
      have t34 := Go.tups pu3 g4
      have hP4 := hP3.mono t34
      have hR4 := hR.go pu3 g4 hup huc
      refine ⟨_, rfl, _, rfl, _, rfl, _, rfl, _, rfl, _, rfl, p, c, t, Pl, _, rfl, pu4, by omega, hP4, gp, fun z cs m H5 g5 pu5 hz grec => ?_⟩
      have t45 := Go.tups pu4 g5
      refine ⟨p, c, ul, t, v, z, Pl, R, C, cs, m, _, rfl, pu5, by omega, hup, huc, hR8, hP4.mono t45, hR4.go pu4 g5 hup huc, hC.mono t45, hz, gp, gr, gc, grec, fun H6 g6 pu6 => ⟨true, rfl, iteF ?_⟩⟩
      have g46 := g5.trans g6
      have t46 := Go.tups pu4 g46
      have hP6 := hP4.mono t46
      have hR6 := hR4.go pu4 g46 hup huc
      -- small costs
      have hP60 := hP6
      obtain ⟨ta, xs, rfl, hT, hPs⟩ := hP60
      have hxl := paired_len hPs
      refine ⟨_, rfl, ta, rfl, ⟨_, hT⟩, fun Dn hD => lc_it (walk_tup (xs := xs)) (fun j H7 => Go p c H6 H7 ∧ Pu H7 p c (5000 * i + 20 + 1000 + 10 + 10 + 200 + j) ∧ ∃ S : List Int, H7 Dn = some (.lst (S.map V.int)) ∧ S.length = j ∧ ∀ x ∈ S, 1 ≤ x ∧ x ≤ 9)
        ⟨Same.go (same_upd hD), pu6.same (same_upd hD), [], upd_same, rfl, fun x h => by cases h⟩ (fun j H7 _ p7 => (Go.tups pu6 p7.1).seq hT) (fun j x H9 H7 hj p7 y => ?_) fun H7 p7 => ?_⟩
      · obtain ⟨g7, pu7, S, hS7, hSl, hSg⟩ := p7
        obtain ⟨e9, hx⟩ := y
        subst e9
        obtain ⟨hDp, hDc⟩ := pu6.fresh hD
        refine ⟨rfl, yes_ok ⟨_, rfl, p, c, _, 9, rfl, pu7, by omega, by decide, by decide, fun d H8 hd g8 pu8 => ?_⟩⟩
        have hS8 := g8 Dn _ hDp hDc hS7
        refine ⟨1, (d : Nat), rfl, rfl, S.map V.int, hS8, small1000 (by rw [List.length_map]; omega), Go.upd hD (g7.trans g8), Pu.upd hDp hDc (pu8.le (by omega)), S ++ [(1 : Int) + (d : Nat)], by rw [upd_same, List.map_append]; rfl, by rw [List.length_append, hSl]; rfl, fun x hx => ?_⟩
        rcases List.mem_append.mp hx with hx | hx
        · exact hSg x hx
        · rw [List.mem_singleton.mp hx]
          omega
      · obtain ⟨g7, pu7, S, hS7, hSl, hSg⟩ := p7
        refine ⟨Dn, _, rfl, .inl ⟨sqL hS7, fun tp htp => ?_⟩⟩
        have s8 : Same H7 (upd H7 tp (.tup (S.map V.int))) := same_upd htp
        have hSt : IsCosts K (upd H7 tp (.tup (S.map V.int))) (.ref tp) S := ⟨tp, rfl, sqT upd_same⟩
        have g68 := g7.trans (Same.go s8)
        have pu8 : Pu (upd H7 tp (.tup (S.map V.int))) p c (5000 * i + 1244) := (pu7.same s8).le (by omega)
        have t68 := Go.tups pu6 g68
        have hP8 := hP6.mono t68
        have hR8' := hR6.go pu6 g68 hup huc
        generalize upd H7 tp (.tup (S.map V.int)) = H8 at hSt g68 pu8 t68 hP8 hR8'
        refine ⟨_, rfl, _, rfl, p, c, .ref ta, Pl, _, rfl, pu8, by omega, hP8, gp, fun z2 cs2 m2 HA gA puA hz2 grec2 => ?_⟩
        have t8A := Go.tups pu8 gA
        have gS : GoodCosts Pl S := ⟨by omega, fun x hx => by have := hSg x hx; omega⟩
        have hPA := hP8.mono t8A
        have hRA := hR8'.go pu8 gA hup huc
        have hSA := hSt.mono t8A
        refine ⟨_, rfl, _, rfl, _, rfl, _, rfl, .ref ta, .ref ul, .ref tp, z2, Pl, R, S, cs2, m2, rfl, hPA, hRA, hSA, hz2, gp, gr, gS, grec2, fun HB sB => ?_⟩
        have tAB := Same.tups sB
        obtain ⟨tp', etp, hSB⟩ := hSA.mono tAB
        obtain rfl : tp = tp' := by injection etp
        have hml : (S.map V.int).length = S.length := List.length_map _
        refine ⟨_, rfl, _, rfl, _, rfl, tp, rfl, ⟨_, hSB⟩, fun D3 hD3 => lc_vals (w := walk_tup (xs := S.map V.int)) (by omega) (fun k => .int (7 * S.getD k 0)) hD3 (fun H' s' => (Same.tups s').seq hSB) (fun k x HC HC' CC hk s' y' kk => ?_) fun HC sC eC => ?_⟩
        · obtain ⟨e9, hx'⟩ := y'
          subst e9
          rw [hml] at hk
          rw [int_at hk] at hx'
          obtain rfl := Option.some.inj hx'
          refine ⟨rfl, _, rfl, 7, S[k], rfl, rfl, .inl ⟨by decide, by decide⟩, ?_⟩
          have := kk _ (Same.refl _)
          rw [getD_lt hk] at this
          exact this
        · rw [hml, map_getD (fun x => V.int (7 * x)) 0 S] at eC
          have eC' : (S.map fun x => V.int (7 * x)) = (S.map (7 * ·)).map V.int := by rw [List.map_map]; rfl
          rw [eC'] at eC
          refine ⟨D3, _, rfl, .inl ⟨sqL eC, fun tp3 htp3 => ?_⟩⟩
          have sD : Same HC (upd HC tp3 (.tup ((S.map (7 * ·)).map V.int))) := same_upd htp3
          have sAD := (sB.trans sC).trans sD
          have hk3 : IsCosts K (upd HC tp3 (.tup ((S.map (7 * ·)).map V.int))) (.ref tp3) (S.map (7 * ·)) := ⟨tp3, rfl, sqT upd_same⟩
          generalize (upd HC tp3 (.tup ((S.map (7 * ·)).map V.int))) = HD at sAD hk3
          have tAD := Same.tups sAD
          refine ⟨_, rfl, .ref ta, .ref ul, .ref tp3, z2, Pl, R, S.map (7 * ·), cs2, m2, rfl, hPA.mono tAD, hRA.mono sAD, hk3, hz2.mono tAD, gp, gr, ⟨by rw [List.length_map]; exact gS.len, fun x hx => ?_⟩, grec2, fun HE sE => ?_⟩
          · obtain ⟨y, hy, rfl⟩ := List.mem_map.mp hx
            have := hSg y hy
            omega
          · rw [scaled]
            have puE : Pu HE p c (5000 * (i + 1)) := ((puA.same sAD).same sE).le (by omega)
            cases hco : costM (Pl.map (·.2)) R S cs2 with
            | none => exact ⟨_, rfl, rfl, _, rfl, iteS rfl ⟨_, rfl, rfl, _, rfl, iteNS rfl ⟨_, rfl, rfl, _, rfl, iteNS rfl (iteF ⟨puE, _, _, _, _, _, _, _, _, rfl⟩)⟩⟩⟩
            | some c0 =>
              refine ⟨_, rfl, rfl, _, rfl, iteSN (fun z => nomatch z) (iteF ⟨_, rfl, rfl, _, rfl, iteN1 (fun z => nomatch z) ⟨_, rfl, _, rfl, 7, c0, rfl, rfl, .inl ⟨by decide, by decide⟩, rfl, _, rfl, iteNS rfl ⟨puE, _, _, _, _, _, _, _, _, rfl⟩⟩⟩)⟩
    · obtain ⟨pu1, y2, y3, y4, y5, y7, y8, y9, y11, rfl⟩ := p1
      exact q _
end
end Cv

set_option maxRecDepth 100000
set_option maxHeartbeats 4000000
/-! What the top has left; the walk of the whole law. -/
namespace Cv
open PySem PySem.Spec PyProof.Rows L2
theorem at_mk {K : PySem.W.Frag} {h : Heap} {mg : Str → Option Value} (X : K.In h) (G : h.Ns mainGlobals mg) {x : Str} {st : Stmt} {f : Addr} {oc kV dc pm cd ct : Value} {od an : Option Addr} {sl : Array (Option Value)}
    (a : PySem.W.nsIn K mainGlobals x = some (some (.ref f))) (l : K.lookup f = some ⟨oc, od, .func (PySem.W.fnOf x x (defArgs st) (defBody st) (defScope st) .none kV dc pm an cd ct), sl⟩) (c : PySem.W.codeIn K cd x = true) (k : PySem.W.keepIn K (.ref f) = true) : At K mg x st :=
  ⟨f, _, fun_mk l c k, PySem.W.mg_of X G a⟩
theorem all_mk {l : PySem.W.OpenLaw} {w : World} {K : PySem.W.Frag} {h : Heap} {mg : Str → Option Value} {fa C : Addr} (X : K.In h) (G : h.Ns mainGlobals mg) (hfa : mg "law" = some (.ref fa))
    {f0 f1 f2 f3 f4 f5 f6 f7 f8 f9 f10 f11 f12 f13 f14 f15 f16 f17 f18 f19 f20 f21 f22 f23 f24 f25 f26 f27 f28 f29 f30 f31 f32 f33 f34 f35 f36 f37 f38 f_init f_is_dear f_tree fL : Addr} {od0 an0 od1 an1 od2 an2 od3 an3 od4 an4 od5 an5 od6 an6 od7 an7 od8 an8 od9 an9 od10 an10 od11 an11 od12 an12 od13 an13 od14 an14 od15 an15 od16 an16 od17 an17 od18 an18 od19 an19 od20 an20 od21 an21 od22 an22 od23 an23 od24 an24 od25 an25 od26 an26 od27 an27 od28 an28 od29 an29 od30 an30 od31 an31 od32 an32 od33 an33 od34 an34 od35 an35 od36 an36 od37 an37 od38 an38 od_init an_init od_is_dear an_is_dear od_tree an_tree odL anL : Option Addr}
    {sl0 sl1 sl2 sl3 sl4 sl5 sl6 sl7 sl8 sl9 sl10 sl11 sl12 sl13 sl14 sl15 sl16 sl17 sl18 sl19 sl20 sl21 sl22 sl23 sl24 sl25 sl26 sl27 sl28 sl29 sl30 sl31 sl32 sl33 sl34 sl35 sl36 sl37 sl38 sl_init sl_is_dear sl_tree slL : Array (Option Value)}
    {oc0 kV0 dc0 pm0 cd0 ct0 oc1 kV1 dc1 pm1 cd1 ct1 oc2 kV2 dc2 pm2 cd2 ct2 oc3 kV3 dc3 pm3 cd3 ct3 oc4 kV4 dc4 pm4 cd4 ct4 oc5 kV5 dc5 pm5 cd5 ct5 oc6 kV6 dc6 pm6 cd6 ct6 oc7 kV7 dc7 pm7 cd7 ct7 oc8 kV8 dc8 pm8 cd8 ct8 oc9 kV9 dc9 pm9 cd9 ct9 oc10 kV10 dc10 pm10 cd10 ct10 oc11 kV11 dc11 pm11 cd11 ct11 oc12 kV12 dc12 pm12 cd12 ct12 oc13 kV13 dc13 pm13 cd13 ct13 oc14 kV14 dc14 pm14 cd14 ct14 oc15 kV15 dc15 pm15 cd15 ct15 oc16 kV16 dc16 pm16 cd16 ct16 oc17 kV17 dc17 pm17 cd17 ct17 oc18 kV18 dc18 pm18 cd18 ct18 oc19 kV19 dc19 pm19 cd19 ct19 oc20 kV20 dc20 pm20 cd20 ct20 oc21 kV21 dc21 pm21 cd21 ct21 oc22 kV22 dc22 pm22 cd22 ct22 oc23 kV23 dc23 pm23 cd23 ct23 oc24 kV24 dc24 pm24 cd24 ct24 oc25 kV25 dc25 pm25 cd25 ct25 oc26 kV26 dc26 pm26 cd26 ct26 oc27 kV27 dc27 pm27 cd27 ct27 oc28 kV28 dc28 pm28 cd28 ct28 oc29 kV29 dc29 pm29 cd29 ct29 oc30 kV30 dc30 pm30 cd30 ct30 oc31 kV31 dc31 pm31 cd31 ct31 oc32 kV32 dc32 pm32 cd32 ct32 oc33 kV33 dc33 pm33 cd33 ct33 oc34 kV34 dc34 pm34 cd34 ct34 oc35 kV35 dc35 pm35 cd35 ct35 oc36 kV36 dc36 pm36 cd36 ct36 oc37 kV37 dc37 pm37 cd37 ct37 oc38 kV38 dc38 pm38 cd38 ct38 oc_init kV_init dc_init pm_init cd_init ct_init oc_is_dear kV_is_dear dc_is_dear pm_is_dear cd_is_dear ct_is_dear oc_tree kV_tree dc_tree pm_tree cd_tree ct_tree ocL kVL dcL pmL cdL ctL : Value}
    {tc0 tc1 tc2 tc3 tc4 tc5 tc6 tc7 tc8 : Tok}
    (ac0 : PySem.W.nsIn K mainGlobals "SMALL" = some (some (.str "abcdefghijklmnopqrstuvwxyz" tc0)))
    (ac1 : PySem.W.nsIn K mainGlobals "LONGEST_NAME" = some (some (.int 8 tc1)))
    (ac2 : PySem.W.nsIn K mainGlobals "LONGEST_CODE" = some (some (.int 4 tc2)))
    (ac3 : PySem.W.nsIn K mainGlobals "MOST_SORTS" = some (some (.int 4 tc3)))
    (ac4 : PySem.W.nsIn K mainGlobals "LEAST_CODES" = some (some (.int 2 tc4)))
    (ac5 : PySem.W.nsIn K mainGlobals "MOST_CODES" = some (some (.int 6 tc5)))
    (ac6 : PySem.W.nsIn K mainGlobals "MOST_MEASURE" = some (some (.int 1000000 tc6)))
    (ac7 : PySem.W.nsIn K mainGlobals "MOST_RULES" = some (some (.int 20 tc7)))
    (ac8 : PySem.W.nsIn K mainGlobals "MOST_COST" = some (some (.int 1000 tc8)))
    (ab0 : PySem.W.nsIn K mainGlobals "isinstance" = some none)
    (ab1 : PySem.W.nsIn K mainGlobals "len" = some none)
    (ab2 : PySem.W.nsIn K mainGlobals "all" = some none)
    (ab3 : PySem.W.nsIn K mainGlobals "any" = some none)
    (ab4 : PySem.W.nsIn K mainGlobals "set" = some none)
    (ab5 : PySem.W.nsIn K mainGlobals "zip" = some none)
    (ab6 : PySem.W.nsIn K mainGlobals "enumerate" = some none)
    (ab7 : PySem.W.nsIn K mainGlobals "min" = some none)
    (ab8 : PySem.W.nsIn K mainGlobals "sum" = some none)
    (ab9 : PySem.W.nsIn K mainGlobals "range" = some none)
    (ab10 : PySem.W.nsIn K mainGlobals "tuple" = some none)
    (ab11 : PySem.W.nsIn K mainGlobals "list" = some none)
    (ab12 : PySem.W.nsIn K mainGlobals "abs" = some none)
    (ab13 : PySem.W.nsIn K mainGlobals "int" = some none)
    (ab14 : PySem.W.nsIn K mainGlobals "bool" = some none)
    (ab15 : PySem.W.nsIn K mainGlobals "str" = some none)
    (a0 : PySem.W.nsIn K mainGlobals "is_whole" = some (some (.ref f0)))
    (l0 : K.lookup f0 = some ⟨oc0, od0, .func (PySem.W.fnOf "is_whole" "is_whole" (defArgs st_is_whole) (defBody st_is_whole) (defScope st_is_whole) .none kV0 dc0 pm0 an0 cd0 ct0), sl0⟩)
    (c0 : PySem.W.codeIn K cd0 "is_whole" = true)
    (k0 : PySem.W.keepIn K (.ref f0) = true)
    (a1 : PySem.W.nsIn K mainGlobals "is_word" = some (some (.ref f1)))
    (l1 : K.lookup f1 = some ⟨oc1, od1, .func (PySem.W.fnOf "is_word" "is_word" (defArgs st_is_word) (defBody st_is_word) (defScope st_is_word) .none kV1 dc1 pm1 an1 cd1 ct1), sl1⟩)
    (c1 : PySem.W.codeIn K cd1 "is_word" = true)
    (k1 : PySem.W.keepIn K (.ref f1) = true)
    (a2 : PySem.W.nsIn K mainGlobals "is_code" = some (some (.ref f2)))
    (l2 : K.lookup f2 = some ⟨oc2, od2, .func (PySem.W.fnOf "is_code" "is_code" (defArgs st_is_code) (defBody st_is_code) (defScope st_is_code) .none kV2 dc2 pm2 an2 cd2 ct2), sl2⟩)
    (c2 : PySem.W.codeIn K cd2 "is_code" = true)
    (k2 : PySem.W.keepIn K (.ref f2) = true)
    (a3 : PySem.W.nsIn K mainGlobals "are_unlike_codes" = some (some (.ref f3)))
    (l3 : K.lookup f3 = some ⟨oc3, od3, .func (PySem.W.fnOf "are_unlike_codes" "are_unlike_codes" (defArgs st_are_unlike_codes) (defBody st_are_unlike_codes) (defScope st_are_unlike_codes) .none kV3 dc3 pm3 an3 cd3 ct3), sl3⟩)
    (c3 : PySem.W.codeIn K cd3 "are_unlike_codes" = true)
    (k3 : PySem.W.keepIn K (.ref f3) = true)
    (a4 : PySem.W.nsIn K mainGlobals "is_sort" = some (some (.ref f4)))
    (l4 : K.lookup f4 = some ⟨oc4, od4, .func (PySem.W.fnOf "is_sort" "is_sort" (defArgs st_is_sort) (defBody st_is_sort) (defScope st_is_sort) .none kV4 dc4 pm4 an4 cd4 ct4), sl4⟩)
    (c4 : PySem.W.codeIn K cd4 "is_sort" = true)
    (k4 : PySem.W.keepIn K (.ref f4) = true)
    (a5 : PySem.W.nsIn K mainGlobals "plan_wrong" = some (some (.ref f5)))
    (l5 : K.lookup f5 = some ⟨oc5, od5, .func (PySem.W.fnOf "plan_wrong" "plan_wrong" (defArgs st_plan_wrong) (defBody st_plan_wrong) (defScope st_plan_wrong) .none kV5 dc5 pm5 an5 cd5 ct5), sl5⟩)
    (c5 : PySem.W.codeIn K cd5 "plan_wrong" = true)
    (k5 : PySem.W.keepIn K (.ref f5) = true)
    (a6 : PySem.W.nsIn K mainGlobals "must_be_plan" = some (some (.ref f6)))
    (l6 : K.lookup f6 = some ⟨oc6, od6, .func (PySem.W.fnOf "must_be_plan" "must_be_plan" (defArgs st_must_be_plan) (defBody st_must_be_plan) (defScope st_must_be_plan) .none kV6 dc6 pm6 an6 cd6 ct6), sl6⟩)
    (c6 : PySem.W.codeIn K cd6 "must_be_plan" = true)
    (k6 : PySem.W.keepIn K (.ref f6) = true)
    (a7 : PySem.W.nsIn K mainGlobals "is_answer" = some (some (.ref f7)))
    (l7 : K.lookup f7 = some ⟨oc7, od7, .func (PySem.W.fnOf "is_answer" "is_answer" (defArgs st_is_answer) (defBody st_is_answer) (defScope st_is_answer) .none kV7 dc7 pm7 an7 cd7 ct7), sl7⟩)
    (c7 : PySem.W.codeIn K cd7 "is_answer" = true)
    (k7 : PySem.W.keepIn K (.ref f7) = true)
    (a8 : PySem.W.nsIn K mainGlobals "record_in" = some (some (.ref f8)))
    (l8 : K.lookup f8 = some ⟨oc8, od8, .func (PySem.W.fnOf "record_in" "record_in" (defArgs st_record_in) (defBody st_record_in) (defScope st_record_in) .none kV8 dc8 pm8 an8 cd8 ct8), sl8⟩)
    (c8 : PySem.W.codeIn K cd8 "record_in" = true)
    (k8 : PySem.W.keepIn K (.ref f8) = true)
    (a9 : PySem.W.nsIn K mainGlobals "record_wrong" = some (some (.ref f9)))
    (l9 : K.lookup f9 = some ⟨oc9, od9, .func (PySem.W.fnOf "record_wrong" "record_wrong" (defArgs st_record_wrong) (defBody st_record_wrong) (defScope st_record_wrong) .none kV9 dc9 pm9 an9 cd9 ct9), sl9⟩)
    (c9 : PySem.W.codeIn K cd9 "record_wrong" = true)
    (k9 : PySem.W.keepIn K (.ref f9) = true)
    (a10 : PySem.W.nsIn K mainGlobals "must_be_record" = some (some (.ref f10)))
    (l10 : K.lookup f10 = some ⟨oc10, od10, .func (PySem.W.fnOf "must_be_record" "must_be_record" (defArgs st_must_be_record) (defBody st_must_be_record) (defScope st_must_be_record) .none kV10 dc10 pm10 an10 cd10 ct10), sl10⟩)
    (c10 : PySem.W.codeIn K cd10 "must_be_record" = true)
    (k10 : PySem.W.keepIn K (.ref f10) = true)
    (a11 : PySem.W.nsIn K mainGlobals "names_codes" = some (some (.ref f11)))
    (l11 : K.lookup f11 = some ⟨oc11, od11, .func (PySem.W.fnOf "names_codes" "names_codes" (defArgs st_names_codes) (defBody st_names_codes) (defScope st_names_codes) .none kV11 dc11 pm11 an11 cd11 ct11), sl11⟩)
    (c11 : PySem.W.codeIn K cd11 "names_codes" = true)
    (k11 : PySem.W.keepIn K (.ref f11) = true)
    (a12 : PySem.W.nsIn K mainGlobals "is_rule" = some (some (.ref f12)))
    (l12 : K.lookup f12 = some ⟨oc12, od12, .func (PySem.W.fnOf "is_rule" "is_rule" (defArgs st_is_rule) (defBody st_is_rule) (defScope st_is_rule) .none kV12 dc12 pm12 an12 cd12 ct12), sl12⟩)
    (c12 : PySem.W.codeIn K cd12 "is_rule" = true)
    (k12 : PySem.W.keepIn K (.ref f12) = true)
    (a13 : PySem.W.nsIn K mainGlobals "rules_wrong" = some (some (.ref f13)))
    (l13 : K.lookup f13 = some ⟨oc13, od13, .func (PySem.W.fnOf "rules_wrong" "rules_wrong" (defArgs st_rules_wrong) (defBody st_rules_wrong) (defScope st_rules_wrong) .none kV13 dc13 pm13 an13 cd13 ct13), sl13⟩)
    (c13 : PySem.W.codeIn K cd13 "rules_wrong" = true)
    (k13 : PySem.W.keepIn K (.ref f13) = true)
    (a14 : PySem.W.nsIn K mainGlobals "must_be_rules" = some (some (.ref f14)))
    (l14 : K.lookup f14 = some ⟨oc14, od14, .func (PySem.W.fnOf "must_be_rules" "must_be_rules" (defArgs st_must_be_rules) (defBody st_must_be_rules) (defScope st_must_be_rules) .none kV14 dc14 pm14 an14 cd14 ct14), sl14⟩)
    (c14 : PySem.W.codeIn K cd14 "must_be_rules" = true)
    (k14 : PySem.W.keepIn K (.ref f14) = true)
    (a15 : PySem.W.nsIn K mainGlobals "bars" = some (some (.ref f15)))
    (l15 : K.lookup f15 = some ⟨oc15, od15, .func (PySem.W.fnOf "bars" "bars" (defArgs st_bars) (defBody st_bars) (defScope st_bars) .none kV15 dc15 pm15 an15 cd15 ct15), sl15⟩)
    (c15 : PySem.W.codeIn K cd15 "bars" = true)
    (k15 : PySem.W.keepIn K (.ref f15) = true)
    (a16 : PySem.W.nsIn K mainGlobals "first_bar" = some (some (.ref f16)))
    (l16 : K.lookup f16 = some ⟨oc16, od16, .func (PySem.W.fnOf "first_bar" "first_bar" (defArgs st_first_bar) (defBody st_first_bar) (defScope st_first_bar) .none kV16 dc16 pm16 an16 cd16 ct16), sl16⟩)
    (c16 : PySem.W.codeIn K cd16 "first_bar" = true)
    (k16 : PySem.W.keepIn K (.ref f16) = true)
    (a17 : PySem.W.nsIn K mainGlobals "is_right" = some (some (.ref f17)))
    (l17 : K.lookup f17 = some ⟨oc17, od17, .func (PySem.W.fnOf "is_right" "is_right" (defArgs st_is_right) (defBody st_is_right) (defScope st_is_right) .none kV17 dc17 pm17 an17 cd17 ct17), sl17⟩)
    (c17 : PySem.W.codeIn K cd17 "is_right" = true)
    (k17 : PySem.W.keepIn K (.ref f17) = true)
    (a18 : PySem.W.nsIn K mainGlobals "gives" = some (some (.ref f18)))
    (l18 : K.lookup f18 = some ⟨oc18, od18, .func (PySem.W.fnOf "gives" "gives" (defArgs st_gives) (defBody st_gives) (defScope st_gives) .none kV18 dc18 pm18 an18 cd18 ct18), sl18⟩)
    (c18 : PySem.W.codeIn K cd18 "gives" = true)
    (k18 : PySem.W.keepIn K (.ref f18) = true)
    (a19 : PySem.W.nsIn K mainGlobals "barred_by" = some (some (.ref f19)))
    (l19 : K.lookup f19 = some ⟨oc19, od19, .func (PySem.W.fnOf "barred_by" "barred_by" (defArgs st_barred_by) (defBody st_barred_by) (defScope st_barred_by) .none kV19 dc19 pm19 an19 cd19 ct19), sl19⟩)
    (c19 : PySem.W.codeIn K cd19 "barred_by" = true)
    (k19 : PySem.W.keepIn K (.ref f19) = true)
    (a20 : PySem.W.nsIn K mainGlobals "must_be_costs" = some (some (.ref f20)))
    (l20 : K.lookup f20 = some ⟨oc20, od20, .func (PySem.W.fnOf "must_be_costs" "must_be_costs" (defArgs st_must_be_costs) (defBody st_must_be_costs) (defScope st_must_be_costs) .none kV20 dc20 pm20 an20 cd20 ct20), sl20⟩)
    (c20 : PySem.W.codeIn K cd20 "must_be_costs" = true)
    (k20 : PySem.W.keepIn K (.ref f20) = true)
    (a21 : PySem.W.nsIn K mainGlobals "beside" = some (some (.ref f21)))
    (l21 : K.lookup f21 = some ⟨oc21, od21, .func (PySem.W.fnOf "beside" "beside" (defArgs st_beside) (defBody st_beside) (defScope st_beside) .none kV21 dc21 pm21 an21 cd21 ct21), sl21⟩)
    (c21 : PySem.W.codeIn K cd21 "beside" = true)
    (k21 : PySem.W.keepIn K (.ref f21) = true)
    (a22 : PySem.W.nsIn K mainGlobals "full_codes" = some (some (.ref f22)))
    (l22 : K.lookup f22 = some ⟨oc22, od22, .func (PySem.W.fnOf "full_codes" "full_codes" (defArgs st_full_codes) (defBody st_full_codes) (defScope st_full_codes) .none kV22 dc22 pm22 an22 cd22 ct22), sl22⟩)
    (c22 : PySem.W.codeIn K cd22 "full_codes" = true)
    (k22 : PySem.W.keepIn K (.ref f22) = true)
    (a23 : PySem.W.nsIn K mainGlobals "cheapest" = some (some (.ref f23)))
    (l23 : K.lookup f23 = some ⟨oc23, od23, .func (PySem.W.fnOf "cheapest" "cheapest" (defArgs st_cheapest) (defBody st_cheapest) (defScope st_cheapest) .none kV23 dc23 pm23 an23 cd23 ct23), sl23⟩)
    (c23 : PySem.W.codeIn K cd23 "cheapest" = true)
    (k23 : PySem.W.keepIn K (.ref f23) = true)
    (a24 : PySem.W.nsIn K mainGlobals "mend" = some (some (.ref f24)))
    (l24 : K.lookup f24 = some ⟨oc24, od24, .func (PySem.W.fnOf "mend" "mend" (defArgs st_mend) (defBody st_mend) (defScope st_mend) .none kV24 dc24 pm24 an24 cd24 ct24), sl24⟩)
    (c24 : PySem.W.codeIn K cd24 "mend" = true)
    (k24 : PySem.W.keepIn K (.ref f24) = true)
    (a25 : PySem.W.nsIn K mainGlobals "must_be_asked" = some (some (.ref f25)))
    (l25 : K.lookup f25 = some ⟨oc25, od25, .func (PySem.W.fnOf "must_be_asked" "must_be_asked" (defArgs st_must_be_asked) (defBody st_must_be_asked) (defScope st_must_be_asked) .none kV25 dc25 pm25 an25 cd25 ct25), sl25⟩)
    (c25 : PySem.W.codeIn K cd25 "must_be_asked" = true)
    (k25 : PySem.W.keepIn K (.ref f25) = true)
    (a26 : PySem.W.nsIn K mainGlobals "_law_purse_by" = some (some (.ref f26)))
    (l26 : K.lookup f26 = some ⟨oc26, od26, .func (PySem.W.fnOf "_law_purse_by" "_law_purse_by" (defArgs st_law_purse_by) (defBody st_law_purse_by) (defScope st_law_purse_by) .none kV26 dc26 pm26 an26 cd26 ct26), sl26⟩)
    (c26 : PySem.W.codeIn K cd26 "_law_purse_by" = true)
    (k26 : PySem.W.keepIn K (.ref f26) = true)
    (a27 : PySem.W.nsIn K mainGlobals "_law_draw" = some (some (.ref f27)))
    (l27 : K.lookup f27 = some ⟨oc27, od27, .func (PySem.W.fnOf "_law_draw" "_law_draw" (defArgs st_law_draw) (defBody st_law_draw) (defScope st_law_draw) .none kV27 dc27 pm27 an27 cd27 ct27), sl27⟩)
    (c27 : PySem.W.codeIn K cd27 "_law_draw" = true)
    (k27 : PySem.W.keepIn K (.ref f27) = true)
    (a28 : PySem.W.nsIn K mainGlobals "_law_pick" = some (some (.ref f28)))
    (l28 : K.lookup f28 = some ⟨oc28, od28, .func (PySem.W.fnOf "_law_pick" "_law_pick" (defArgs st_law_pick) (defBody st_law_pick) (defScope st_law_pick) .none kV28 dc28 pm28 an28 cd28 ct28), sl28⟩)
    (c28 : PySem.W.codeIn K cd28 "_law_pick" = true)
    (k28 : PySem.W.keepIn K (.ref f28) = true)
    (a29 : PySem.W.nsIn K mainGlobals "_law_shuffled" = some (some (.ref f29)))
    (l29 : K.lookup f29 = some ⟨oc29, od29, .func (PySem.W.fnOf "_law_shuffled" "_law_shuffled" (defArgs st_law_shuffled) (defBody st_law_shuffled) (defScope st_law_shuffled) .none kV29 dc29 pm29 an29 cd29 ct29), sl29⟩)
    (c29 : PySem.W.codeIn K cd29 "_law_shuffled" = true)
    (k29 : PySem.W.keepIn K (.ref f29) = true)
    (a30 : PySem.W.nsIn K mainGlobals "_law_plan_by" = some (some (.ref f30)))
    (l30 : K.lookup f30 = some ⟨oc30, od30, .func (PySem.W.fnOf "_law_plan_by" "_law_plan_by" (defArgs st_law_plan_by) (defBody st_law_plan_by) (defScope st_law_plan_by) .none kV30 dc30 pm30 an30 cd30 ct30), sl30⟩)
    (c30 : PySem.W.codeIn K cd30 "_law_plan_by" = true)
    (k30 : PySem.W.keepIn K (.ref f30) = true)
    (a31 : PySem.W.nsIn K mainGlobals "_law_rules_by" = some (some (.ref f31)))
    (l31 : K.lookup f31 = some ⟨oc31, od31, .func (PySem.W.fnOf "_law_rules_by" "_law_rules_by" (defArgs st_law_rules_by) (defBody st_law_rules_by) (defScope st_law_rules_by) .none kV31 dc31 pm31 an31 cd31 ct31), sl31⟩)
    (c31 : PySem.W.codeIn K cd31 "_law_rules_by" = true)
    (k31 : PySem.W.keepIn K (.ref f31) = true)
    (a32 : PySem.W.nsIn K mainGlobals "_law_record_by" = some (some (.ref f32)))
    (l32 : K.lookup f32 = some ⟨oc32, od32, .func (PySem.W.fnOf "_law_record_by" "_law_record_by" (defArgs st_law_record_by) (defBody st_law_record_by) (defScope st_law_record_by) .none kV32 dc32 pm32 an32 cd32 ct32), sl32⟩)
    (c32 : PySem.W.codeIn K cd32 "_law_record_by" = true)
    (k32 : PySem.W.keepIn K (.ref f32) = true)
    (a33 : PySem.W.nsIn K mainGlobals "_law_full" = some (some (.ref f33)))
    (l33 : K.lookup f33 = some ⟨oc33, od33, .func (PySem.W.fnOf "_law_full" "_law_full" (defArgs st_law_full) (defBody st_law_full) (defScope st_law_full) .none kV33 dc33 pm33 an33 cd33 ct33), sl33⟩)
    (c33 : PySem.W.codeIn K cd33 "_law_full" = true)
    (k33 : PySem.W.keepIn K (.ref f33) = true)
    (a34 : PySem.W.nsIn K mainGlobals "_law_beside" = some (some (.ref f34)))
    (l34 : K.lookup f34 = some ⟨oc34, od34, .func (PySem.W.fnOf "_law_beside" "_law_beside" (defArgs st_law_beside) (defBody st_law_beside) (defScope st_law_beside) .none kV34 dc34 pm34 an34 cd34 ct34), sl34⟩)
    (c34 : PySem.W.codeIn K cd34 "_law_beside" = true)
    (k34 : PySem.W.keepIn K (.ref f34) = true)
    (a35 : PySem.W.nsIn K mainGlobals "_law_costs_by" = some (some (.ref f35)))
    (l35 : K.lookup f35 = some ⟨oc35, od35, .func (PySem.W.fnOf "_law_costs_by" "_law_costs_by" (defArgs st_law_costs_by) (defBody st_law_costs_by) (defScope st_law_costs_by) .none kV35 dc35 pm35 an35 cd35 ct35), sl35⟩)
    (c35 : PySem.W.codeIn K cd35 "_law_costs_by" = true)
    (k35 : PySem.W.keepIn K (.ref f35) = true)
    (a36 : PySem.W.nsIn K mainGlobals "_law_cost" = some (some (.ref f36)))
    (l36 : K.lookup f36 = some ⟨oc36, od36, .func (PySem.W.fnOf "_law_cost" "_law_cost" (defArgs st_law_cost) (defBody st_law_cost) (defScope st_law_cost) .none kV36 dc36 pm36 an36 cd36 ct36), sl36⟩)
    (c36 : PySem.W.codeIn K cd36 "_law_cost" = true)
    (k36 : PySem.W.keepIn K (.ref f36) = true)
    (a37 : PySem.W.nsIn K mainGlobals "_law_turned" = some (some (.ref f37)))
    (l37 : K.lookup f37 = some ⟨oc37, od37, .func (PySem.W.fnOf "_law_turned" "_law_turned" (defArgs st_law_turned) (defBody st_law_turned) (defScope st_law_turned) .none kV37 dc37 pm37 an37 cd37 ct37), sl37⟩)
    (c37 : PySem.W.codeIn K cd37 "_law_turned" = true)
    (k37 : PySem.W.keepIn K (.ref f37) = true)
    (a38 : PySem.W.nsIn K mainGlobals "_law_right" = some (some (.ref f38)))
    (l38 : K.lookup f38 = some ⟨oc38, od38, .func (PySem.W.fnOf "_law_right" "_law_right" (defArgs st_law_right) (defBody st_law_right) (defScope st_law_right) .none kV38 dc38 pm38 an38 cd38 ct38), sl38⟩)
    (c38 : PySem.W.codeIn K cd38 "_law_right" = true)
    (k38 : PySem.W.keepIn K (.ref f38) = true)
    (aC : PySem.W.nsIn K mainGlobals "Shower" = some (some (.ref C)))
    (a_init : PySem.W.findIn K (.ref C) "__init__" = some (some (.ref f_init)))
    (i_init : PySem.W.isFn K (.ref f_init) = true)
    (l_init : K.lookup f_init = some ⟨oc_init, od_init, .func (PySem.W.fnOf "__init__" "Shower.__init__" (defArgs st_init) (defBody st_init) (defScope st_init) .none kV_init dc_init pm_init an_init cd_init ct_init), sl_init⟩)
    (c_init : PySem.W.codeIn K cd_init "Shower.__init__" = true)
    (k_init : PySem.W.keepIn K (.ref f_init) = true)
    (a_is_dear : PySem.W.findIn K (.ref C) "is_dear" = some (some (.ref f_is_dear)))
    (i_is_dear : PySem.W.isFn K (.ref f_is_dear) = true)
    (l_is_dear : K.lookup f_is_dear = some ⟨oc_is_dear, od_is_dear, .func (PySem.W.fnOf "is_dear" "Shower.is_dear" (defArgs st_is_dear) (defBody st_is_dear) (defScope st_is_dear) .none kV_is_dear dc_is_dear pm_is_dear an_is_dear cd_is_dear ct_is_dear), sl_is_dear⟩)
    (c_is_dear : PySem.W.codeIn K cd_is_dear "Shower.is_dear" = true)
    (k_is_dear : PySem.W.keepIn K (.ref f_is_dear) = true)
    (a_tree : PySem.W.findIn K (.ref C) "tree" = some (some (.ref f_tree)))
    (i_tree : PySem.W.isFn K (.ref f_tree) = true)
    (l_tree : K.lookup f_tree = some ⟨oc_tree, od_tree, .func (PySem.W.fnOf "tree" "Shower.tree" (defArgs st_tree) (defBody st_tree) (defScope st_tree) .none kV_tree dc_tree pm_tree an_tree cd_tree ct_tree), sl_tree⟩)
    (c_tree : PySem.W.codeIn K cd_tree "Shower.tree" = true)
    (k_tree : PySem.W.keepIn K (.ref f_tree) = true)
    (pg : PySem.W.plainGet K C Str.empty = true)
    (hd : PySem.W.hasDictIn K C = true)
    (po : PySem.W.plainOver K C = true)
    (sa : PySem.W.findIn K (.ref C) "__setattr__" = some (some (.builtin "object.__setattr__")))
    (mk : PySem.W.makesIn K C = true)
    (kc : PySem.W.keepIn K (.ref C) = true)
    (n_plan : PySem.W.findIn K (.ref C) "plan" = some none)
    (n_rules : PySem.W.findIn K (.ref C) "rules" = some none)
    (n_costs : PySem.W.findIn K (.ref C) "costs" = some none)
    (n_record : PySem.W.findIn K (.ref C) "record" = some none)
    (n_cost : PySem.W.findIn K (.ref C) "cost" = some none)
    (aL : PySem.W.nsIn K mainGlobals "law" = some (some (.ref fL)))
    (lL : K.lookup fL = some ⟨ocL, odL, .func (PySem.W.fnOf "law" "law" (defArgs st_law) (defBody st_law) (defScope st_law) .none kVL dcL pmL anL cdL ctL), slL⟩)
    (cL : PySem.W.codeIn K cdL "law" = true)
    (kL : PySem.W.keepIn K (.ref fL) = true) :
    ∃ fd : FuncData, (∀ (s : Shared) (v : Value), BindsTo s fd ⟨[v], []⟩ [("_law_script", v)]) ∧ ∀ base : Heap, K.In base → base.Ns mainGlobals mg → FnOk l.prog w K mg base L2.CX0 13 fa fd ["_law_script"] (spLaw K) := by
  have e := hfa.symm.trans (PySem.W.mg_of X G aL)
  cases e
  have T : Top mg := ⟨PySem.W.mg_none_of X G ab0, PySem.W.mg_none_of X G ab1, PySem.W.mg_none_of X G ab2, PySem.W.mg_none_of X G ab3, PySem.W.mg_none_of X G ab4, PySem.W.mg_none_of X G ab5, PySem.W.mg_none_of X G ab6, PySem.W.mg_none_of X G ab7, PySem.W.mg_none_of X G ab8, PySem.W.mg_none_of X G ab9, PySem.W.mg_none_of X G ab10, PySem.W.mg_none_of X G ab11, PySem.W.mg_none_of X G ab12, PySem.W.mg_none_of X G ab13, PySem.W.mg_none_of X G ab14, PySem.W.mg_none_of X G ab15, ⟨_, PySem.W.mg_of X G ac0, ⟨_, rfl⟩⟩, ⟨_, PySem.W.mg_of X G ac1, ⟨_, rfl⟩⟩, ⟨_, PySem.W.mg_of X G ac2, ⟨_, rfl⟩⟩, ⟨_, PySem.W.mg_of X G ac3, ⟨_, rfl⟩⟩, ⟨_, PySem.W.mg_of X G ac4, ⟨_, rfl⟩⟩, ⟨_, PySem.W.mg_of X G ac5, ⟨_, rfl⟩⟩, ⟨_, PySem.W.mg_of X G ac6, ⟨_, rfl⟩⟩, ⟨_, PySem.W.mg_of X G ac7, ⟨_, rfl⟩⟩, ⟨_, PySem.W.mg_of X G ac8, ⟨_, rfl⟩⟩⟩
  have D0 : At K mg "is_whole" st_is_whole := at_mk X G a0 l0 c0 k0
  have D1 : At K mg "is_word" st_is_word := at_mk X G a1 l1 c1 k1
  have D2 : At K mg "is_code" st_is_code := at_mk X G a2 l2 c2 k2
  have D3 : At K mg "are_unlike_codes" st_are_unlike_codes := at_mk X G a3 l3 c3 k3
  have D4 : At K mg "is_sort" st_is_sort := at_mk X G a4 l4 c4 k4
  have D5 : At K mg "plan_wrong" st_plan_wrong := at_mk X G a5 l5 c5 k5
  have D6 : At K mg "must_be_plan" st_must_be_plan := at_mk X G a6 l6 c6 k6
  have D7 : At K mg "is_answer" st_is_answer := at_mk X G a7 l7 c7 k7
  have D8 : At K mg "record_in" st_record_in := at_mk X G a8 l8 c8 k8
  have D9 : At K mg "record_wrong" st_record_wrong := at_mk X G a9 l9 c9 k9
  have D10 : At K mg "must_be_record" st_must_be_record := at_mk X G a10 l10 c10 k10
  have D11 : At K mg "names_codes" st_names_codes := at_mk X G a11 l11 c11 k11
  have D12 : At K mg "is_rule" st_is_rule := at_mk X G a12 l12 c12 k12
  have D13 : At K mg "rules_wrong" st_rules_wrong := at_mk X G a13 l13 c13 k13
  have D14 : At K mg "must_be_rules" st_must_be_rules := at_mk X G a14 l14 c14 k14
  have D15 : At K mg "bars" st_bars := at_mk X G a15 l15 c15 k15
  have D16 : At K mg "first_bar" st_first_bar := at_mk X G a16 l16 c16 k16
  have D17 : At K mg "is_right" st_is_right := at_mk X G a17 l17 c17 k17
  have D18 : At K mg "gives" st_gives := at_mk X G a18 l18 c18 k18
  have D19 : At K mg "barred_by" st_barred_by := at_mk X G a19 l19 c19 k19
  have D20 : At K mg "must_be_costs" st_must_be_costs := at_mk X G a20 l20 c20 k20
  have D21 : At K mg "beside" st_beside := at_mk X G a21 l21 c21 k21
  have D22 : At K mg "full_codes" st_full_codes := at_mk X G a22 l22 c22 k22
  have D23 : At K mg "cheapest" st_cheapest := at_mk X G a23 l23 c23 k23
  have D24 : At K mg "mend" st_mend := at_mk X G a24 l24 c24 k24
  have D25 : At K mg "must_be_asked" st_must_be_asked := at_mk X G a25 l25 c25 k25
  have D26 : At K mg "_law_purse_by" st_law_purse_by := at_mk X G a26 l26 c26 k26
  have D27 : At K mg "_law_draw" st_law_draw := at_mk X G a27 l27 c27 k27
  have D28 : At K mg "_law_pick" st_law_pick := at_mk X G a28 l28 c28 k28
  have D29 : At K mg "_law_shuffled" st_law_shuffled := at_mk X G a29 l29 c29 k29
  have D30 : At K mg "_law_plan_by" st_law_plan_by := at_mk X G a30 l30 c30 k30
  have D31 : At K mg "_law_rules_by" st_law_rules_by := at_mk X G a31 l31 c31 k31
  have D32 : At K mg "_law_record_by" st_law_record_by := at_mk X G a32 l32 c32 k32
  have D33 : At K mg "_law_full" st_law_full := at_mk X G a33 l33 c33 k33
  have D34 : At K mg "_law_beside" st_law_beside := at_mk X G a34 l34 c34 k34
  have D35 : At K mg "_law_costs_by" st_law_costs_by := at_mk X G a35 l35 c35 k35
  have D36 : At K mg "_law_cost" st_law_cost := at_mk X G a36 l36 c36 k36
  have D37 : At K mg "_law_turned" st_law_turned := at_mk X G a37 l37 c37 k37
  have D38 : At K mg "_law_right" st_law_right := at_mk X G a38 l38 c38 k38
  have S : ShC K mg C := ⟨⟨pg, hd, po, sa⟩, PySem.W.mg_of X G aC, ⟨_, _, ⟨mk, a_init, i_init, kc⟩, fun_mk (st := st_init) l_init c_init k_init⟩, ⟨_, _, ⟨a_is_dear, i_is_dear, k_is_dear⟩, fun_mk (st := st_is_dear) l_is_dear c_is_dear k_is_dear⟩, ⟨_, _, ⟨a_tree, i_tree, k_tree⟩, fun_mk (st := st_tree) l_tree c_tree k_tree⟩, n_plan, n_rules, n_costs, n_record, n_cost⟩
  have FL := fun_mk (st := st_law) lL cL kL
  refine ⟨PySem.W.fnOf "law" "law" (defArgs st_law) (defBody st_law) (defScope st_law) .none kVL dcL pmL anL cdL ctL, fun s v => .of_eq rfl, fun base _ _ => ?_⟩
  have g_is_whole : C8.Cal l.prog w K mg base 1 "is_whole" spIsWhole [] := ok_is_whole T D0
  have g_is_word : C8.Cal l.prog w K mg base 1 "is_word" spIsWord [] := ok_is_word T D1
  have g_is_code : C8.Cal l.prog w K mg base 2 "is_code" spIsCode [] := ok_is_code T D2 g_is_word
  have g_are_unlike_codes : C8.Cal l.prog w K mg base 3 "are_unlike_codes" (spUnlike K) [] := ok_unlike T D3 g_is_code
  have g_is_sort : C8.Cal l.prog w K mg base 4 "is_sort" (spIsSort K) [] := ok_is_sort T D4 g_is_word g_are_unlike_codes
  have g_plan_wrong : C8.Cal l.prog w K mg base 5 "plan_wrong" (spPlanWrong K) [] := ok_plan_wrong T D5 g_is_sort
  have g_must_be_plan : C8.Cal l.prog w K mg base 6 "must_be_plan" (spMustPlan K) [] := ok_must_be_plan D6 g_plan_wrong
  have g_is_answer : C8.Cal l.prog w K mg base 1 "is_answer" (spIsAnswer K) [] := ok_is_answer T D7
  have g_record_in : C8.Cal l.prog w K mg base 2 "record_in" (spRecIn K) [] := ok_record_in T D8 g_is_answer g_is_whole
  have g_record_wrong : C8.Cal l.prog w K mg base 7 "record_wrong" (spRecIn K) [] := ok_record_wrong D9 g_must_be_plan g_record_in
  have g_must_be_record : C8.Cal l.prog w K mg base 8 "must_be_record" (spRecIn K) [] := ok_must_be_record D10 g_record_wrong
  have g_names_codes : C8.Cal l.prog w K mg base 1 "names_codes" (spNames K) [] := ok_names_codes T D11
  have g_is_rule : C8.Cal l.prog w K mg base 2 "is_rule" (spIsRule K) [] := ok_is_rule T D12 g_names_codes
  have g_rules_wrong : C8.Cal l.prog w K mg base 7 "rules_wrong" (spRules K) [] := ok_rules_wrong T D13 g_must_be_plan g_is_rule
  have g_must_be_rules : C8.Cal l.prog w K mg base 8 "must_be_rules" (spRules K) [] := ok_must_be_rules D14 g_rules_wrong
  have g_bars : C8.Cal l.prog w K mg base 1 "bars" (spBars K) [] := ok_bars T D15
  have g_first_bar : C8.Cal l.prog w K mg base 2 "first_bar" (spFirst K) [] := ok_first_bar T D16 g_bars
  have g_is_right : C8.Cal l.prog w K mg base 3 "is_right" (spRight K) [] := ok_is_right D17 g_first_bar
  have g_gives : C8.Cal l.prog w K mg base 4 "gives" (spGives K) [] := ok_gives D18 g_is_right
  have g_barred_by : C8.Cal l.prog w K mg base 9 "barred_by" (spBarred K) [] := ok_barred_by T D19 g_must_be_rules g_must_be_record g_bars
  have g_must_be_costs : C8.Cal l.prog w K mg base 2 "must_be_costs" (spCosts K) [] := ok_must_be_costs T D20 g_is_whole
  have g_must_be_asked : C8.Cal l.prog w K mg base 9 "must_be_asked" (spAsked K) [] := ok_must_be_asked D25 g_must_be_rules g_must_be_costs
  have g_beside : C8.Cal l.prog w K mg base 1 "beside" (spBeside K) [] := ok_beside T D21
  have g_full_codes : C8.Cal l.prog w K mg base 1 "full_codes" (spFull K) [] := ok_full_codes T D22
  have g_cheapest : C8.Cal l.prog w K mg base 5 "cheapest" (spCheapest K) [] := ok_cheapest D23 g_full_codes g_beside g_gives
  have g_Shower : C8.Mak l.prog w K mg base 1 "Shower" C (spInit C) [] := ok_Shower S
  have g_is_dear : C8.Met l.prog w K mg base 1 C "is_dear" (spDear K C) [] := ok_is_dear T S
  have g_tree : C8.Met l.prog w K mg base 7 C "tree" (spTree K C 5) [] := tree_of T S g_is_dear g_first_bar
  have g_mend : C8.Cal l.prog w K mg base 10 "mend" (spMend K) [] := ok_mend T S D24 g_must_be_asked g_must_be_record g_cheapest g_Shower g_tree
  have g_law_purse_by : C8.Cal l.prog w K mg base 1 "_law_purse_by" (spPurse K) [] := ok_purse T D26
  have g_law_draw : C8.Cal l.prog w K mg base 1 "_law_draw" spDraw [] := ok_draw T D27
  have g_law_pick : C8.Cal l.prog w K mg base 2 "_law_pick" spPick [] := ok_pick T D28 g_law_draw
  have g_law_shuffled : C8.Cal l.prog w K mg base 2 "_law_shuffled" (spShuf K) [] := ok_shuffled T D29 g_law_draw
  have g_law_plan_by : C8.Cal l.prog w K mg base 3 "_law_plan_by" (spPlanBy K) [] := ok_plan_by T D30 g_law_draw g_law_pick g_law_shuffled
  have g_law_rules_by : C8.Cal l.prog w K mg base 3 "_law_rules_by" (spRulesBy K) [] := ok_rules_by T D31 g_law_draw g_law_shuffled
  have g_law_record_by : C8.Cal l.prog w K mg base 3 "_law_record_by" (spRecBy K) [] := ok_record_by T D32 g_law_draw g_law_pick
  have g_law_costs_by : C8.Cal l.prog w K mg base 2 "_law_costs_by" (spCostsBy K) [] := ok_costs_by T D35 g_law_draw
  have g_law_full : C8.Cal l.prog w K mg base 1 "_law_full" (spFull K) [] := ok_law_full T D33
  have g_law_beside : C8.Cal l.prog w K mg base 1 "_law_beside" (spLBeside K) [] := ok_law_beside T D34
  have g_law_cost : C8.Cal l.prog w K mg base 11 "_law_cost" (spCost K) [] := ok_law_cost D36 g_mend
  have g_law_turned : C8.Cal l.prog w K mg base 3 "_law_turned" (spTurned K) [] := ok_turned T D37 g_law_draw g_law_shuffled
  have g_law_right : C8.Cal l.prog w K mg base 12 "_law_right" (spRightLaw K) [] := ok_right_law T D38 g_mend g_barred_by g_law_cost g_law_full g_law_turned g_law_record_by g_law_beside
  exact ok_law FL T g_law_purse_by g_law_draw g_law_plan_by g_law_rules_by g_law_record_by g_law_costs_by g_law_cost g_law_right
theorem walk {l : PySem.W.OpenLaw} {q : Program} {loose : List Str} {XP : (Str → Option Value) → Heap → Prop} {YP : World → Heap → Prop} {d : DefRec} {K : Params → PySem.W.Frag} (hn : l.most = some 63) (hdf : d.params.defaults = [])
    (hY : ∀ (w : World) (h : Heap), YP w h → (K w.params).In h)
    (F : ∀ (w : World) (mg : Str → Option Value) (fa : Addr) (h : Heap), (K w.params).In h → h.Ns mainGlobals mg → mg d.name = some (.ref fa) →
      ∃ fd : FuncData, (∀ (s : Shared) (u : Value), BindsTo s fd ⟨[u], []⟩ [("_law_script", u)]) ∧ ∀ base : Heap, (K w.params).In base → base.Ns mainGlobals mg → FnOk l.prog w (K w.params) mg base L2.CX0 13 fa fd ["_law_script"] (spLaw (K w.params))) :
    PySem.W.WalkO q loose XP YP l.row.toRowW d [] (fun f vs => PySem.call f vs) :=
  L2.walk_of (n := 63) (k := 13) (x := "_law_script") (CX := fun _ => L2.CX0) (sp := fun w => spLaw (K w.params)) hn (by decide) hdf ⟨rfl, by decide, by decide⟩ hY F (fun _ _ a ns hl _ hS => ⟨a, ns, rfl, hS, hl, fun _ => rfl⟩) fun _ _ _ _ _ z => z
end Cv

open PySem PySem.W PyProof.Rows
set_option maxRecDepth 100000 in
set_option maxHeartbeats 0 in
theorem PySem.Challenge.cw_countveil_k13_whole_mends_changed_holds : PySem.Challenge.rw_countveil_k13_whole_mends_changed.Holds := by
  w_on; o_law; k_head; (case hw => w_witness2)
  k_fill
  refine Cv.walk (l := PySem.Challenge.rw_countveil_k13_whole_mends_changed) rfl rfl (fun w h Y => PySem.W.kIn_of Y) ?F
  case F =>
    intro w mg fa h KX G hmg
    refine' Cv.all_mk KX G hmg ?ac0 ?ac1 ?ac2 ?ac3 ?ac4 ?ac5 ?ac6 ?ac7 ?ac8 ?ab0 ?ab1 ?ab2 ?ab3 ?ab4 ?ab5 ?ab6 ?ab7 ?ab8 ?ab9 ?ab10 ?ab11 ?ab12 ?ab13 ?ab14 ?ab15 ?a0 ?l0 ?c0 ?k0 ?a1 ?l1 ?c1 ?k1 ?a2 ?l2 ?c2 ?k2 ?a3 ?l3 ?c3 ?k3 ?a4 ?l4 ?c4 ?k4 ?a5 ?l5 ?c5 ?k5 ?a6 ?l6 ?c6 ?k6 ?a7 ?l7 ?c7 ?k7 ?a8 ?l8 ?c8 ?k8 ?a9 ?l9 ?c9 ?k9 ?a10 ?l10 ?c10 ?k10 ?a11 ?l11 ?c11 ?k11 ?a12 ?l12 ?c12 ?k12 ?a13 ?l13 ?c13 ?k13 ?a14 ?l14 ?c14 ?k14 ?a15 ?l15 ?c15 ?k15 ?a16 ?l16 ?c16 ?k16 ?a17 ?l17 ?c17 ?k17 ?a18 ?l18 ?c18 ?k18 ?a19 ?l19 ?c19 ?k19 ?a20 ?l20 ?c20 ?k20 ?a21 ?l21 ?c21 ?k21 ?a22 ?l22 ?c22 ?k22 ?a23 ?l23 ?c23 ?k23 ?a24 ?l24 ?c24 ?k24 ?a25 ?l25 ?c25 ?k25 ?a26 ?l26 ?c26 ?k26 ?a27 ?l27 ?c27 ?k27 ?a28 ?l28 ?c28 ?k28 ?a29 ?l29 ?c29 ?k29 ?a30 ?l30 ?c30 ?k30 ?a31 ?l31 ?c31 ?k31 ?a32 ?l32 ?c32 ?k32 ?a33 ?l33 ?c33 ?k33 ?a34 ?l34 ?c34 ?k34 ?a35 ?l35 ?c35 ?k35 ?a36 ?l36 ?c36 ?k36 ?a37 ?l37 ?c37 ?k37 ?a38 ?l38 ?c38 ?k38 ?aC ?a_init ?i_init ?l_init ?c_init ?k_init ?a_is_dear ?i_is_dear ?l_is_dear ?c_is_dear ?k_is_dear ?a_tree ?i_tree ?l_tree ?c_tree ?k_tree ?pg ?hd ?po ?sa ?mk ?kc ?n_plan ?n_rules ?n_costs ?n_record ?n_cost ?aL ?lL ?cL ?kL
    (case ac0 => k_is); (case ac1 => k_is); (case ac2 => k_is); (case ac3 => k_is); (case ac4 => k_is); (case ac5 => k_is)
    (case ac6 => k_is); (case ac7 => k_is); (case ac8 => k_is); (case ab0 => k_is); (case ab1 => k_is); (case ab2 => k_is)
    (case ab3 => k_is); (case ab4 => k_is); (case ab5 => k_is); (case ab6 => k_is); (case ab7 => k_is); (case ab8 => k_is)
    (case ab9 => k_is); (case ab10 => k_is); (case ab11 => k_is); (case ab12 => k_is); (case ab13 => k_is); (case ab14 => k_is)
    (case ab15 => k_is); (case a0 => k_is); (case l0 => k_is); (case c0 => k_is); (case k0 => k_is); (case a1 => k_is)
    (case l1 => k_is); (case c1 => k_is); (case k1 => k_is); (case a2 => k_is); (case l2 => k_is); (case c2 => k_is)
    (case k2 => k_is); (case a3 => k_is); (case l3 => k_is); (case c3 => k_is); (case k3 => k_is); (case a4 => k_is)
    (case l4 => k_is); (case c4 => k_is); (case k4 => k_is); (case a5 => k_is); (case l5 => k_is); (case c5 => k_is)
    (case k5 => k_is); (case a6 => k_is); (case l6 => k_is); (case c6 => k_is); (case k6 => k_is); (case a7 => k_is)
    (case l7 => k_is); (case c7 => k_is); (case k7 => k_is); (case a8 => k_is); (case l8 => k_is); (case c8 => k_is)
    (case k8 => k_is); (case a9 => k_is); (case l9 => k_is); (case c9 => k_is); (case k9 => k_is); (case a10 => k_is)
    (case l10 => k_is); (case c10 => k_is); (case k10 => k_is); (case a11 => k_is); (case l11 => k_is); (case c11 => k_is)
    (case k11 => k_is); (case a12 => k_is); (case l12 => k_is); (case c12 => k_is); (case k12 => k_is); (case a13 => k_is)
    (case l13 => k_is); (case c13 => k_is); (case k13 => k_is); (case a14 => k_is); (case l14 => k_is); (case c14 => k_is)
    (case k14 => k_is); (case a15 => k_is); (case l15 => k_is); (case c15 => k_is); (case k15 => k_is); (case a16 => k_is)
    (case l16 => k_is); (case c16 => k_is); (case k16 => k_is); (case a17 => k_is); (case l17 => k_is); (case c17 => k_is)
    (case k17 => k_is); (case a18 => k_is); (case l18 => k_is); (case c18 => k_is); (case k18 => k_is); (case a19 => k_is)
    (case l19 => k_is); (case c19 => k_is); (case k19 => k_is); (case a20 => k_is); (case l20 => k_is); (case c20 => k_is)
    (case k20 => k_is); (case a21 => k_is); (case l21 => k_is); (case c21 => k_is); (case k21 => k_is); (case a22 => k_is)
    (case l22 => k_is); (case c22 => k_is); (case k22 => k_is); (case a23 => k_is); (case l23 => k_is); (case c23 => k_is)
    (case k23 => k_is); (case a24 => k_is); (case l24 => k_is); (case c24 => k_is); (case k24 => k_is); (case a25 => k_is)
    (case l25 => k_is); (case c25 => k_is); (case k25 => k_is); (case a26 => k_is); (case l26 => k_is); (case c26 => k_is)
    (case k26 => k_is); (case a27 => k_is); (case l27 => k_is); (case c27 => k_is); (case k27 => k_is); (case a28 => k_is)
    (case l28 => k_is); (case c28 => k_is); (case k28 => k_is); (case a29 => k_is); (case l29 => k_is); (case c29 => k_is)
    (case k29 => k_is); (case a30 => k_is); (case l30 => k_is); (case c30 => k_is); (case k30 => k_is); (case a31 => k_is)
    (case l31 => k_is); (case c31 => k_is); (case k31 => k_is); (case a32 => k_is); (case l32 => k_is); (case c32 => k_is)
    (case k32 => k_is); (case a33 => k_is); (case l33 => k_is); (case c33 => k_is); (case k33 => k_is); (case a34 => k_is)
    (case l34 => k_is); (case c34 => k_is); (case k34 => k_is); (case a35 => k_is); (case l35 => k_is); (case c35 => k_is)
    (case k35 => k_is); (case a36 => k_is); (case l36 => k_is); (case c36 => k_is); (case k36 => k_is); (case a37 => k_is)
    (case l37 => k_is); (case c37 => k_is); (case k37 => k_is); (case a38 => k_is); (case l38 => k_is); (case c38 => k_is)
    (case k38 => k_is); (case aC => k_is); (case a_init => k_is); (case i_init => k_is); (case l_init => k_is); (case c_init => k_is)
    (case k_init => k_is); (case a_is_dear => k_is); (case i_is_dear => k_is); (case l_is_dear => k_is); (case c_is_dear => k_is); (case k_is_dear => k_is)
    (case a_tree => k_is); (case i_tree => k_is); (case l_tree => k_is); (case c_tree => k_is); (case k_tree => k_is); (case pg => k_is)
    (case hd => k_is); (case po => k_is); (case sa => k_is); (case mk => k_is); (case kc => k_is); (case n_plan => k_is)
    (case n_rules => k_is); (case n_costs => k_is); (case n_record => k_is); (case n_cost => k_is); (case aL => k_is); (case lL => k_is)
    (case cL => k_is); (case kL => k_is)
